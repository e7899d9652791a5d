import PyProof.Rows.All
import Wide.All
import OpenK.AllK
import Wide.FinOn
import KE.LtData
import KE.DataCmp
import PyProof.ReprReads
import PyProof.EqLayable
import HandS.ForMost
import HandS.Exc
import HandS.Flow
import KE.KDictKeyed
import HandS.ExcInit
import HandS.Wide
import HandS.Deep
import HandS.TupMul
import HandS.TupAny
import HandS.Style
import HandS.TupLe
import HandS.Conv
import HandS.More
import HandS.ExcOwn
import HandS.CallLocal
import HandS.Walk
import HandS.Zip
import KE.GoesEnum
import KE.GoesMore
import PyProof.Rows.SeqMore
import PyProof.Rows.RuleB_bool
import PyProof.Rows.IntBool
import PyProof.StrOps2
import KE.IntBitsLaws
import HandS.Text
import HandS.Small
import HandS.ExcIs
import HandS.ExcField
import KE.KExcStr
import HandS.HeadHook2
import HandS.HeadEnd
import HandS.HeadWalk
import HandS.Head2
import HandS.Ends
import PyProof.TableCode
import PyProof.P3Eq
import HandS.EndTab
import PySem.Challenge.RW_everyreal_k99_errors_by_hand
set_option Elab.async false
set_option autoImplicit false
set_option linter.all false
set_option maxRecDepth 100000
set_option maxHeartbeats 0
section
/-! PdEv: a small language (the IR), its values and its evaluator. Values are deep and never change (P, the kit's PyData); what changes (live lists, dicts, made errors) are numbered cells. -/
namespace Pd
open PySem
abbrev P := PyData
/-- a value: plain data; an own def; a live cell; a tuple, a list of such; a frozen dict -/
inductive D where
  | p (x : P)
  | fn (f : Nat)
  | ref (k : Nat)
  | tup (xs : List D)
  | lst (xs : List D)
  | dct (nk : Bool) (kvs : List (P × P))
  | exn (c : Nat) (f m : Str) (x : P)
/-- what stands in a cell -/
inductive MO where
  | lst (xs : List P)
  | lsr (xs : List D)
  | dct (nk : Bool) (kvs : List (P × P))
  | exc (c : Nat) (d : D)
  | dead
  | held
abbrev Cs := List MO
abbrev Sg := List (Option D)
inductive R (α : Type) where
  | ok (a : α) (h : Cs)
  | ex (c : Nat) (d : D) (h : Cs)
  | no (w : String)
@[inline] def R.bind {α β : Type} (r : R α) (f : α → Cs → R β) : R β := match r with
  | .ok a h => f a h
  | .ex c d h => .ex c d h
  | .no w => .no w
def R.ofD (o : Option D) (h : Cs) (w : String) : R D := match o with
  | some d => .ok d h
  | none => .no w
def R.ofC (o : Option (D × Cs)) (w : String) : R D := match o with
  | some (d, h) => .ok d h
  | none => .no w
/-- no error may leave a comprehension -/
def R.tame {α : Type} (r : R α) : R α := match r with
  | .ex _ _ _ => .no "an error leaves a comprehension"
  | r => r
abbrev FT := Nat → List D → Cs → R D
inductive BO where | add | sub | mul | fdiv | mod | pow
inductive CO where | eq | ne | lt | le | gt | ge | is | isnot | inn | notin
inductive Ty where | int | bool | str | tuple | list | dict
inductive BI where | len | lenset | abs | gcd | sum | tuple | list | dict | all | any | max | maxd | min | int | str | repr
inductive IK where | seq | range | enum | zip | items
inductive MT where | get | index | count | join | startswith
inductive MM where | append | extend | insert | pop | update
/-- the shape of a sort's keys -/
inductive KT where | int | str | bool | tup (ts : List KT) | lst (t : KT)
inductive T where
  | v (i : Nat)
  | tup (ts : List T)
inductive E where
  | k (x : P)
  | v (i : Nat)
  | g (i : Nat)
  | fv (f : Nat)
  | bin (o : BO) (a b : E)
  | neg (a : E)
  | cmp (o : CO) (a b : E)
  | chain (o o' : CO) (a b c : E)
  | and (a b : E)
  | or (a b : E)
  | not (a : E)
  | ite (c a b : E)
  | tup (es : List E)
  | lst (live : Bool) (es : List E)
  | dd (live nk : Bool) (es : List E)
  | call (f : Nat) (es : List E)
  | callk (f : Nat) (es : List E) (ks : List Nat)
  | callv (i : Nat) (es : List E)
  | bi (b : BI) (live nk : Bool) (es : List E)
  | isi (ts : List Ty) (a : E)
  | sort (kt : KT) (key : Option Nat) (a : E)
  | sset (kt : KT) (a : E)
  | sub (a i : E)
  | slc (a : E) (lo hi : E)
  | rev (a : E)
  | ab
  | lc (live : Bool) (ws : List Nat) (elt : E) (t : T) (ik : IK) (its ifs : List E)
  | lc2 (live : Bool) (ws : List Nat) (elt : E) (t : T) (ik : IK) (its ifs : List E) (ws2 : List Nat) (t2 : T) (ik2 : IK) (its2 ifs2 : List E)
  | mt (m : MT) (a : E) (es : List E)
  | mm (m : MM) (a : E) (es : List E)
  | frz (a : E)
  | mk (c : Nat) (f m : Str) (es : List E)
  | fld (f : Str) (cs : List Nat) (a : E)
  | isx (tb : List (Nat × Bool)) (a : E)
  | stx (cs : List Nat) (a : E)
inductive S where
  | asg (t : T) (e : E)
  | par (ts : List T) (es : List E)
  | put (o i e : E)
  | aug (i : Nat) (o : BO) (e : E)
  | ex (e : E)
  | ret (e : E)
  | retn
  | ite (c : E) (a b : List S)
  | whl (c : E) (b : List S)
  | for (t : T) (ik : IK) (its : List E) (b : List S)
  | brk
  | cnt
  | pass
  | never
mutual
/-- the slots of a target -/
def T.vars : T → List Nat
  | .v i => [i]
  | .tup ts => T.varss ts
def T.varss : List T → List Nat
  | [] => []
  | t :: ts => T.vars t ++ T.varss ts
end
/-! ### data -/
def unP : List D → Option (List P)
  | [] => some []
  | .p x :: r => (unP r).map (x :: ·)
  | _ :: _ => none
def mkTup (xs : List D) : D := match unP xs with
  | some ps => .p (.tuple ps)
  | none => .tup xs
def mkLst (xs : List D) : D := match unP xs with
  | some ps => .p (.list ps)
  | none => .lst xs
def newLst (xs : List D) : MO := match unP xs with
  | some ps => .lst ps
  | none => .lsr xs
def listD (live : Bool) (xs : List D) (h : Cs) : D × Cs := match live with
  | true => (.ref h.length, h ++ [newLst xs])
  | false => (mkLst xs, h)
def dictD (live nk : Bool) (kvs : List (P × P)) (h : Cs) : D × Cs := match live with
  | true => (.ref h.length, h ++ [.dct nk kvs])
  | false => (.dct nk kvs, h)
def chr1 (c : Nat) : P := .str ⟨#[c]⟩
/-- the items that a for walks -/
def items (d : D) (h : Cs) : Option (List D) := match d with
  | .p (.list xs) => some (xs.map D.p)
  | .p (.tuple xs) => some (xs.map D.p)
  | .p (.str x) => some (x.cps.toList.map fun c => D.p (chr1 c))
  | .tup xs => some xs
  | .lst xs => some xs
  | .dct _ kvs => some (kvs.map fun kv => D.p kv.1)
  | .ref k => (match h[k]? with
    | some (.lst xs) => some (xs.map D.p)
    | some (.lsr xs) => some xs
    | some (.dct _ kvs) => some (kvs.map fun kv => D.p kv.1)
    | _ => none)
  | _ => none
/-- a list's, a tuple's items -/
def seqOf (d : D) (h : Cs) : Option (List D) := match d with
  | .p (.list xs) => some (xs.map D.p)
  | .p (.tuple xs) => some (xs.map D.p)
  | .tup xs => some xs
  | .lst xs => some xs
  | .ref k => (match h[k]? with
    | some (.lst xs) => some (xs.map D.p)
    | some (.lsr xs) => some xs
    | _ => none)
  | _ => none
def dictOf (d : D) (h : Cs) : Option (Bool × List (P × P)) := match d with
  | .dct nk kvs => some (nk, kvs)
  | .ref k => (match h[k]? with
    | some (.dct nk kvs) => some (nk, kvs)
    | _ => none)
  | _ => none
def sizeOk (n : Nat) : Bool := decide (n ≤ 16000000)
def lenOf (d : D) (h : Cs) : Option Nat := match d with
  | .p (.str x) => if sizeOk x.length then some x.length else none
  | .dct _ kvs => some kvs.length
  | .ref k => (match h[k]? with
    | some (.lst xs) => some xs.length
    | some (.lsr xs) => some xs.length
    | some (.dct _ kvs) => some kvs.length
    | _ => none)
  | _ => match seqOf d h with
    | some xs => some xs.length
    | none => none
def truth (d : D) (h : Cs) : Option Bool := match d with
  | .p .none => some false
  | .p (.bool b) => some b
  | .p (.int i) => some (i != 0)
  | .p (.str x) => if sizeOk x.length then some (x.length != 0) else none
  | .p (.tuple xs) => some (!xs.isEmpty)
  | .p (.list xs) => some (!xs.isEmpty)
  | .tup xs => some (!xs.isEmpty)
  | .lst xs => some (!xs.isEmpty)
  | .ref k => (match h[k]? with
    | some (.lst xs) => some (!xs.isEmpty)
    | some (.lsr xs) => some (!xs.isEmpty)
    | some (.dct false kvs) => some (!kvs.isEmpty)
    | _ => none)
  | _ => none
def asInt : D → Option Int
  | .p (.int i) => some i
  | .p (.bool b) => some (if b then 1 else 0)
  | _ => none
def asP (d : D) (h : Cs) : Option P := match d with
  | .p x => some x
  | .ref k => (match h[k]? with
    | some (.lst xs) => some (.list xs)
    | _ => none)
  | _ => none
/-- flat keys: ints, texts; tuple keys: nested to some depth -/
def keyT : Nat → P → Bool
  | _, .int _ => true
  | _, .str _ => true
  | _, .bool _ => true
  | _, .none => true
  | n + 1, .tuple xs => xs.all (keyT n)
  | _, _ => false
def keyOk (nk : Bool) (k : P) : Bool := match nk with
  | false => (match k with
    | .int _ => true
    | .str _ => true
    | _ => false)
  | true => false
def dget (kvs : List (P × P)) (k : P) : Option P := match kvs with
  | [] => none
  | kv :: r => if PyData.eqv kv.1 k then some kv.2 else dget r k
def dput (kvs : List (P × P)) (k v : P) : List (P × P) := match kvs with
  | [] => [(k, v)]
  | kv :: r => if PyData.eqv kv.1 k then (kv.1, v) :: r else kv :: dput r k v
def dmerge (kvs : List (P × P)) : List (P × P) → List (P × P)
  | [] => kvs
  | q :: r => dmerge (dput kvs q.1 q.2) r
def memP (x : P) (ys : List P) : Bool := ys.any fun y => PyData.eqv y x
/-- set(..): the first of each -/
def dedup : List P → List P → List P
  | [], acc => acc
  | x :: r, acc => if memP x acc then dedup r acc else dedup r (acc ++ [x])
mutual
def KT.has : KT → P → Bool
  | .int, .int _ => true
  | .str, .str _ => true
  | .bool, .bool _ => true
  | .tup ts, .tuple xs => KT.hasEach ts xs
  | .lst t, .list xs => KT.hasAll t xs
  | _, _ => false
def KT.hasEach : List KT → List P → Bool
  | [], [] => true
  | t :: ts, x :: xs => KT.has t x && KT.hasEach ts xs
  | _, _ => false
def KT.hasAll : KT → List P → Bool
  | _, [] => true
  | t, x :: xs => KT.has t x && KT.hasAll t xs
end
/-- stable: x goes ahead of the first that is not less than it, from behind -/
def insK (x : P × D) : List (P × D) → List (P × D)
  | [] => [x]
  | y :: r => if PySem.W.dataLt y.1 x.1 then y :: insK x r else x :: y :: r
def sortK : List (P × D) → List (P × D)
  | [] => []
  | x :: r => insK x (sortK r)
def bitsMost : Nat := 134000000
def mulOk (i j : Int) : Bool := decide (i.natAbs.log2 + j.natAbs.log2 < bitsMost)
def divOk (j : Int) : Bool := decide (j ≠ 0) && decide (j.natAbs.log2 < 9000)
/-- a tuple's items -/
def tupOf : D → Option (List D)
  | .p (.tuple xs) => some (xs.map D.p)
  | .tup xs => some xs
  | _ => none
/-- a list's items -/
def lstOf (d : D) (h : Cs) : Option (List D) := match d with
  | .p (.list xs) => some (xs.map D.p)
  | .lst xs => some xs
  | .ref k => (match h[k]? with
    | some (.lst xs) => some (xs.map D.p)
    | some (.lsr xs) => some xs
    | _ => none)
  | _ => none
def repI (n : Int) : Nat := n.toNat
def repOk (k : Nat) (j : Int) : Bool := decide (j < 16000000) && decide (-16000000 < j) && sizeOk (k * j.toNat)
def intBin (o : BO) (i j : Int) : Option D := match o with
  | .add => some (.p (.int (i + j)))
  | .sub => some (.p (.int (i - j)))
  | .mul => if mulOk i j then some (.p (.int (i * j))) else none
  | .fdiv => if divOk j then some (.p (.int (i.fdiv j))) else none
  | .mod => if divOk j then some (.p (.int (i.fmod j))) else none
  | .pow => if decide (0 ≤ j) && decide (j ≤ 10000) && decide (i.natAbs.log2 < 10000) then some (.p (.int (i ^ j.toNat))) else none
def mixBin (o : BO) (i j : Int) : Option D := match o with
  | .add => some (.p (.int (i + j)))
  | .sub => some (.p (.int (i - j)))
  | _ => none
/-- list + list, tuple + tuple, list * int, tuple * int -/
def catD (a b : D) (h : Cs) : Option D := match lstOf a h, lstOf b h with
  | some xs, some ys => if sizeOk (xs.length + ys.length) then some (mkLst (xs ++ ys)) else none
  | _, _ => match tupOf a, tupOf b with
    | some xs, some ys => if sizeOk (xs.length + ys.length) then some (mkTup (xs ++ ys)) else none
    | _, _ => none
def repD (a : D) (j : Int) (h : Cs) : Option D := match lstOf a h with
  | some xs => if repOk xs.length j then some (mkLst (List.replicate (repI j) xs).flatten) else none
  | none => match tupOf a with
    | some xs => if decide (2 ≤ j) && decide (j ≤ 1000) && decide (xs.length ≤ 1000) && !xs.isEmpty then some (mkTup (List.replicate (repI j) xs).flatten) else none
    | none => none
def binop (o : BO) (a b : D) (h : Cs) : Option D := match a, b with
  | .p (.int i), .p (.int j) => intBin o i j
  | .p (.bool x), .p (.int j) => mixBin o (if x = true then 1 else 0) j
  | .p (.int i), .p (.bool y) => mixBin o i (if y = true then 1 else 0)
  | .p (.bool x), .p (.bool y) => mixBin o (if x = true then 1 else 0) (if y = true then 1 else 0)
  | .p (.str x), .p (.str y) => (match o with
    | .add => if sizeOk (x.length + y.length) then some (.p (.str (x ++ y))) else none
    | _ => none)
  | .p (.str x), .p (.int j) => (match o with
    | .mul => if repOk x.length j then some (.p (.str ⟨(List.replicate (repI j) x.cps).foldl (· ++ ·) #[]⟩)) else none
    | _ => none)
  | a, .p (.int j) => (match o with
    | .mul => repD a j h
    | _ => none)
  | a, b => (match o with
    | .add => catD a b h
    | _ => none)
/-- == and != -/
def eqvD (a b : D) (h : Cs) : Option Bool := match asP a h, asP b h with
  | some x, some y => if PySem.SeqAt.shaped x && PySem.SeqAt.shaped y then some (PyData.eqv x y) else none
  | _, _ => none
def isNone : D → Bool
  | .p .none => true
  | _ => false
def notNone : P → Bool
  | .none => false
  | _ => true
def cmpD (o : CO) (a b : D) (h : Cs) : Option Bool := match o with
  | .eq => eqvD a b h
  | .ne => (eqvD a b h).map (!·)
  | .lt => (match a, b with
    | .p (.int i), .p (.int j) => some (decide (i < j))
    | _, _ => match asP a h, asP b h with
      | some x, some y => if PySem.W.alike x y && notNone x && PySem.SeqAt.shaped x && PySem.SeqAt.shaped y then some (PySem.W.dataLt x y) else none
      | _, _ => none)
  | .le => (match a, b with
    | .p (.int i), .p (.int j) => some (decide (i ≤ j))
    | _, _ => match asP a h, asP b h with
      | some x, some y => if PySem.W.alike x y && notNone x && PySem.SeqAt.shaped x && PySem.SeqAt.shaped y then some (!PySem.W.dataLt y x) else none
      | _, _ => none)
  | .gt => (match a, b with
    | .p (.int i), .p (.int j) => some (decide (j < i))
    | _, _ => match asP a h, asP b h with
      | some x, some y => if PySem.W.alike x y && notNone x && PySem.SeqAt.shaped x && PySem.SeqAt.shaped y then some (PySem.W.dataLt y x) else none
      | _, _ => none)
  | .ge => (match a, b with
    | .p (.int i), .p (.int j) => some (decide (j ≤ i))
    | _, _ => match asP a h, asP b h with
      | some x, some y => if PySem.W.alike x y && notNone x && PySem.SeqAt.shaped x && PySem.SeqAt.shaped y then some (!PySem.W.dataLt x y) else none
      | _, _ => none)
  | .is => (match b with
    | .p .none => some (isNone a)
    | .p (.bool y) => (match a with
      | .p (.bool x) => some (decide (x = y))
      | _ => none)
    | _ => none)
  | .isnot => (match b with
    | .p .none => some (!isNone a)
    | .p (.bool y) => (match a with
      | .p (.bool x) => some (!decide (x = y))
      | _ => none)
    | _ => none)
  | .inn => inD a b h
  | .notin => (inD a b h).map (!·)
where
  inD (a b : D) (h : Cs) : Option Bool := match dictOf b h with
    | some (nk, kvs) => (match a with
      | .p x => if keyOk nk x then some (dget kvs x).isSome else none
      | _ => none)
    | none => (match b with
      | .p (.str y) => (match a with
        | .p (.str x) => if x.length == 1 then some (decide (x.cps.toList.headD 0 ∈ y.cps.toList)) else none
        | _ => none)
      | _ => match asP a h, asP b h with
        | some x, some (.list ys) => if PySem.SeqAt.shaped x && PySem.SeqAt.shaped (.list ys) then some (memP x ys) else none
        | some x, some (.tuple ys) => if PySem.SeqAt.shaped x && PySem.SeqAt.shaped (.tuple ys) then some (memP x ys) else none
        | _, _ => none)
def ixN (n : Nat) (i : Int) : Option Nat :=
  if 0 ≤ i then (if i < n then some i.toNat else none) else if -(n : Int) ≤ i then some (i + n).toNat else none
def seqGet (xs : List D) (j : Int) : Option D := match ixN xs.length j with
  | some n => xs[n]?
  | none => none
def subD (a i : D) (h : Cs) : Option D := match dictOf a h with
  | some (nk, kvs) => (match i with
    | .p x => if keyOk nk x then (match dget kvs x with
      | some v => some (.p v)
      | none => none) else none
    | _ => none)
  | none => match i with
    | .p (.int j) => (match lstOf a h with
      | some xs => seqGet xs j
      | none => match tupOf a with
        | some xs => seqGet xs j
        | none => match a with
          | .p (.str x) => if sizeOk x.length then (match ixN x.length j with
            | some n => (match x.cps.toList[n]? with
              | some k => some (.p (chr1 k))
              | none => none)
            | none => none) else none
          | _ => none)
    | _ => none
def clampIx (n : Nat) (i : Int) : Nat := if i < 0 then (i + n).toNat else min i.toNat n
def sIx (n d : Nat) : Option Int → Nat
  | none => d
  | some v => if v < 0 then (v + (n : Int)).toNat else min v.toNat n
def cut {α : Type} (xs : List α) (lo hi : Option Int) : List α := (xs.drop (sIx xs.length 0 lo)).take (sIx xs.length xs.length hi - sIx xs.length 0 lo)
def slcD (a : D) (l u : Option Int) (h : Cs) : Option D := match lstOf a h with
  | some xs => some (mkLst (cut xs l u))
  | none => match tupOf a with
    | some xs => some (mkTup (cut xs l u))
    | none => match a with
      | .p (.str x) => if sizeOk x.length then some (.p (.str ⟨(cut x.cps.toList l u).toArray⟩)) else none
      | _ => none
def E.isAb : E → Bool
  | .ab => true
  | _ => false
/-- a slice's bound -/
def bndR (ab : Bool) (r : R D) (h : Cs) : R (Option Int) := match ab with
  | true => .ok none h
  | false => r.bind fun d h1 => match d with
    | .p (.int i) => .ok (some i) h1
    | _ => .no "bound"
def revD (a : D) (h : Cs) : Option D := match a with
  | .p (.tuple xs) => some (.p (.tuple xs.reverse))
  | _ => match seqOf a h with
    | some xs => some (mkLst xs.reverse)
    | none => none
def isTy (d : D) (h : Cs) : Ty → Option Bool
  | .int => (match d with | .p (.int _) => some true | .p (.bool _) => some true | .fn _ => none | _ => some false)
  | .bool => (match d with | .p (.bool _) => some true | .fn _ => none | _ => some false)
  | .str => (match d with | .p (.str _) => some true | .fn _ => none | _ => some false)
  | .tuple => (match d with | .p (.tuple _) => some true | .tup _ => some true | .fn _ => none | _ => some false)
  | .list => (match d with
    | .p (.list _) => some true
    | .lst _ => some true
    | .fn _ => none
    | .ref k => (match h[k]? with | some (.lst _) => some true | some (.lsr _) => some true | some .dead => none | some .held => none | none => none | _ => some false)
    | _ => some false)
  | .dict => (match d with
    | .dct _ _ => some true
    | .fn _ => none
    | .ref k => (match h[k]? with | some (.dct _ _) => some true | some .dead => none | some .held => none | none => none | _ => some false)
    | _ => some false)
def isAny (d : D) (h : Cs) : List Ty → Option Bool
  | [] => some false
  | t :: ts => match isTy d h t with
    | some true => some true
    | some false => isAny d h ts
    | none => none
def sumI : List D → Int → Option Int
  | [], a => some a
  | .p (.int i) :: r, a => sumI r (a + i)
  | _ :: _, _ => none
def allT (h : Cs) : List D → Option Bool
  | [] => some true
  | d :: r => match truth d h with
    | some true => allT h r
    | some false => some false
    | none => none
def anyT (h : Cs) : List D → Option Bool
  | [] => some false
  | d :: r => match truth d h with
    | some true => some true
    | some false => anyT h r
    | none => none
def maxI : List D → Int → Option Int
  | [], a => some a
  | .p (.int i) :: r, a => maxI r (if i > a then i else a)
  | _ :: _, _ => none
def minI : List D → Int → Option Int
  | [], a => some a
  | .p (.int i) :: r, a => minI r (if i < a then i else a)
  | _ :: _, _ => none
def pairsP (nk : Bool) : List D → Option (List (P × P))
  | [] => some []
  | .p (.tuple [k, v]) :: r => if keyOk nk k then (pairsP nk r).map ((k, v) :: ·) else none
  | _ :: _ => none
def pairUp (nk : Bool) : List D → Option (List (P × P))
  | [] => some []
  | .p k :: .p v :: r => if keyOk nk k then (pairUp nk r).map ((k, v) :: ·) else none
  | _ => none
def natIs (x : P) : Bool := match x with
  | .int _ => true
  | .str _ => true
  | _ => false
def builtin0 (b : BI) (live nk : Bool) (ds : List D) (h : Cs) : Option (D × Cs) := match b, ds with
  | .abs, [.p (.int i)] => some (.p (.int (if i < 0 then -i else i)), h)
  | .gcd, [.p (.int i), .p (.int j)] => some (.p (.int (Int.gcd i j)), h)
  | .tuple, [d] => (match d with
    | .p (.tuple _) => some (d, h)
    | .tup _ => some (d, h)
    | _ => match items d h with
      | some xs => some (mkTup xs, h)
      | none => none)
  | .tuple, [] => some (.p (.tuple []), h)
  | .list, [d] => (match items d h with
    | some xs => some (listD live xs h)
    | none => none)
  | .list, [] => some (listD live [] h)
  | .dict, [d] => (match dictOf d h with
    | some (nk', kvs) => some (dictD live nk' kvs h)
    | none => match items d h with
      | some xs => (match pairsP nk xs with
        | some kvs => some (dictD live nk (dmerge [] kvs) h)
        | none => none)
      | none => none)
  | .dict, [] => some (dictD live nk [] h)
  | .lenset, [d] => (match items d h with
    | some xs => (match unP xs with
      | some ps => if ps.all natIs then some (.p (.int (dedup ps []).length), h) else none
      | none => none)
    | none => none)
  | .all, [d] => (match items d h with
    | some xs => (match allT h xs with
      | some c => some (.p (.bool c), h)
      | none => none)
    | none => none)
  | .any, [d] => (match items d h with
    | some xs => (match anyT h xs with
      | some c => some (.p (.bool c), h)
      | none => none)
    | none => none)
  | .max, [d] => (match items d h with
    | some (.p (.int i) :: r) => (match maxI r i with
      | some m => some (.p (.int m), h)
      | none => none)
    | _ => none)
  | .maxd, [d, e] => (match items d h with
    | some [] => some (e, h)
    | some (.p (.int i) :: r) => (match maxI r i with
      | some m => some (.p (.int m), h)
      | none => none)
    | _ => none)
  | .max, [.p (.int i), .p (.int j)] => some (.p (.int (if j > i then j else i)), h)
  | .min, [.p (.int i), .p (.int j)] => some (.p (.int (if j < i then j else i)), h)
  | .min, [d] => (match items d h with
    | some (.p (.int i) :: r) => (match minI r i with
      | some m => some (.p (.int m), h)
      | none => none)
    | _ => none)
  | .int, [d] => (match asInt d with
    | some i => some (.p (.int i), h)
    | none => none)
  | .str, [.p (.int i)] => if decide (i.natAbs.log2 < 1920) then some (.p (.str (Str.ofString (toString i))), h) else none
  | .repr, [d] => (match asP d h with
    | some x => if x.showable && !x.hasDict && PySem.SeqAt.shaped x then some (.p (.str x.shown), h) else none
    | none => none)
  | _, _ => none
def lenD (d : D) (h : Cs) : Option Nat := match lstOf d h with
  | some xs => some xs.length
  | none => match tupOf d with
    | some xs => some xs.length
    | none => match dictOf d h with
      | some (false, kvs) => some kvs.length
      | some (true, _) => none
      | none => match d with
        | .p (.str x) => if sizeOk x.length then some x.length else none
        | _ => none
def bLen (ds : List D) (h : Cs) : Option (D × Cs) := match ds with
  | [d] => (match lenD d h with
    | some n => some (.p (.int n), h)
    | none => none)
  | _ => none
def bSum (ds : List D) (h : Cs) : Option (D × Cs) := match ds with
  | [d] => (match lstOf d h with
    | some xs => (match sumI xs 0 with
      | some i => some (.p (.int i), h)
      | none => none)
    | none => none)
  | _ => none
def builtin (b : BI) (live nk : Bool) (ds : List D) (h : Cs) : Option (D × Cs) := match b with
  | .len => bLen ds h
  | .sum => bSum ds h
  | b => builtin0 b live nk ds h
def rangeL (a b : Int) : List D := (List.range (b - a).toNat).map fun i : Nat => D.p (.int (a + i))
def zipD : List D → List D → List D
  | x :: xs, y :: ys => mkTup [x, y] :: zipD xs ys
  | _, _ => []
def enumD : Nat → List D → List D
  | _, [] => []
  | n, x :: xs => mkTup [.p (.int n), x] :: enumD (n + 1) xs
def walkT (d : D) : Option (List D) := match tupOf d with
  | some xs => some xs
  | none => match d with
    | .p (.str x) => some (x.cps.toList.map fun c => D.p (chr1 c))
    | _ => none
/-- a list's, a tuple's, a text's items -/
def walkS (d : D) (h : Cs) : Option (List D) := match lstOf d h with
  | some xs => some xs
  | none => walkT d
def walk (ik : IK) (ds : List D) (h : Cs) : Option (List D) := match ik, ds with
  | .seq, [d] => walkS d h
  | .range, [.p (.int b)] => if decide (b < 1000000) && decide (-1000000 < b) then some (rangeL 0 b) else none
  | .range, [.p (.int a), .p (.int b)] => if decide (-1000000 < a) && decide (b < 1000000) && decide (-1000000 < b) && decide (a < 1000000) then some (rangeL a b) else none
  | .enum, [d] => (match lstOf d h with
    | some xs => some (enumD 0 xs)
    | none => (tupOf d).map (enumD 0))
  | .zip, [a, b] => (match lstOf a h, lstOf b h with
    | some xs, some ys => some (zipD xs ys)
    | _, _ => match tupOf a, tupOf b with
      | some xs, some ys => some (zipD xs ys)
      | _, _ => none)
  | .items, [d] => (match dictOf d h with
    | some (_, kvs) => some (kvs.map fun kv => D.p (.tuple [kv.1, kv.2]))
    | none => none)
  | _, _ => none
mutual
def asgT : T → D → Sg → Cs → Option Sg
  | .v i, d, σ, _ => if i < σ.length then some (σ.set i (some d)) else none
  | .tup ts, d, σ, h => match tupOf d with
    | some xs => asgTs ts xs σ h
    | none => none
def asgTs : List T → List D → Sg → Cs → Option Sg
  | [], [], σ, _ => some σ
  | t :: ts, d :: ds, σ, h => match asgT t d σ h with
    | some σ' => asgTs ts ds σ' h
    | none => none
  | _, _, _, _ => none
end
def wipe : List Nat → Sg → Sg
  | [], σ => σ
  | i :: r, σ => (wipe r σ).set i none
def method (m : MT) (a : D) (ds : List D) (h : Cs) : Option D := match m, ds with
  | .get, [.p k] => (match dictOf a h with
    | some (nk, kvs) => if keyOk nk k then some (match dget kvs k with | some v => .p v | none => .p .none) else none
    | none => none)
  | .get, [.p k, d] => (match dictOf a h with
    | some (nk, kvs) => if keyOk nk k then some (match dget kvs k with | some v => .p v | none => d) else none
    | none => none)
  | .join, [d] => (match a, items d h with
    | .p (.str x), some xs => (match joinS x xs with
      | some y => if sizeOk y.length then some (.p (.str y)) else none
      | none => none)
    | _, _ => none)
  | _, _ => none
where
  joinS (x : Str) : List D → Option Str
    | [] => some ⟨#[]⟩
    | [.p (.str y)] => some y
    | .p (.str y) :: r => (match joinS x r with
      | some z => some (y ++ x ++ z)
      | none => none)
    | _ => none
def setC (h : Cs) (k : Nat) (o : MO) : Cs := h.set k o
def mutate (m : MM) (a : D) (ds : List D) (h : Cs) : Option (D × Cs) := match a with
  | .ref k => (match h[k]?, m, ds with
    | some (.lst xs), .append, [.p x] => if sizeOk xs.length then some (.p .none, setC h k (.lst (xs ++ [x]))) else none
    | some (.lsr xs), .append, [x] => if sizeOk xs.length then some (.p .none, setC h k (.lsr (xs ++ [x]))) else none
    | some (.lst xs), .extend, [d] => (match items d h with
      | some ys => (match unP ys with
        | some ps => some (.p .none, setC h k (.lst (xs ++ ps)))
        | none => none)
      | none => none)
    | some (.lst xs), .insert, [.p (.int i), .p x] => some (.p .none, setC h k (.lst (xs.take (clampIx xs.length i) ++ x :: xs.drop (clampIx xs.length i))))
    | some (.lst xs), .pop, [] => (match xs.getLast? with
      | some x => some (.p x, setC h k (.lst xs.dropLast))
      | none => none)
    | some (.lst xs), .pop, [.p (.int i)] => (match ixN xs.length i with
      | some n => (match xs[n]? with
        | some x => some (.p x, setC h k (.lst (xs.eraseIdx n)))
        | none => none)
      | none => none)
    | some (.dct nk kvs), .update, [d] => (match dictOf d h with
      | some (nk', kvs') => if nk == nk' then some (.p .none, setC h k (.dct nk (dmerge kvs kvs'))) else none
      | none => none)
    | _, _, _ => none)
  | _ => none
/-- the receiver is what the method wants, ahead of the arguments -/
def mmOk (m : MM) (a : D) (h : Cs) : Bool := match m with
  | .update => (dictOf a h).isSome
  | _ => (lstOf a h).isSome
/-- a live list is told for good: its cell is dead -/
def freeze (a : D) (h : Cs) : Option (D × Cs) := match a with
  | .ref k => (match h[k]? with
    | some (.lst xs) => some (.p (.list xs), setC h k .dead)
    | some (.dct nk kvs) => some (.dct nk kvs, setC h k .dead)
    | _ => none)
  | d => some (d, h)
/-! ### cells that nobody holds any more -/
mutual
def D.low (n : Nat) : D → Bool
  | .p _ => true
  | .fn _ => true
  | .dct _ _ => true
  | .exn _ _ _ _ => true
  | .ref k => decide (k < n)
  | .tup xs => D.lows n xs
  | .lst xs => D.lows n xs
def D.lows (n : Nat) : List D → Bool
  | [] => true
  | x :: xs => D.low n x && D.lows n xs
end
def MO.low (n : Nat) : MO → Bool
  | .lst _ => true
  | .dct _ _ => true
  | .dead => true
  | .held => true
  | .lsr xs => D.lows n xs
  | .exc _ d => d.low n
/-- behind a call, a statement: cells above n go where nothing old can hold them -/
def trim (n : Nat) (d : D) (h : Cs) : Cs := match d.low n && (h.take n).all (MO.low n) with
  | true => h.take n
  | false => h
def trimR (n : Nat) (r : R D) : R D := match r with
  | .ok d h => .ok d (trim n d h)
  | r => r
def pickKw (es : List D) : List Nat → List D → Nat → Option D
  | [], _, _ => none
  | k :: ks, d :: ds, i => if k == i then some d else pickKw es ks ds i
  | _ :: _, [], _ => none
/-- positional arguments, then those by name (places ks) in the parameters' order -/
def bindKw (np : Nat) (ks : List Nat) (ds : List D) : Option (List D) :=
  let pos := ds.take (ds.length - ks.length)
  let kw := ds.drop (ds.length - ks.length)
  let rec go : Nat → Nat → Option (List D)
    | 0, _ => some []
    | m + 1, i => match pickKw [] ks kw i with
      | some d => (go m (i + 1)).map (d :: ·)
      | none => none
  (go (np - pos.length) pos.length).map (pos ++ ·)
/-- one more item of a comprehension -/
def pushA (acc : List D) (y : D) (h : Cs) : R (List D) := if sizeOk acc.length then .ok (acc ++ [y]) h else .no "size"
def lcGo (f : D → List D → Cs → R (List D)) : List D → List D → Cs → R (List D)
  | [], acc, h => .ok acc h
  | x :: r, acc, h => (f x acc h).bind fun acc' h1 => lcGo f r acc' h1
/-- a comprehension's end: its list stood at k, held -/
def lcEnd (live : Bool) (k : Nat) (ys : List D) (h : Cs) : R D := match live with
  | true => .ok (.ref k) (setC h k (newLst ys))
  | false => .ok (mkLst ys) (trim k (mkLst ys) (setC h k .dead))
/-- a dict display's end: it stood at k, held -/
def ddEnd (live nk : Bool) (k : Nat) (kvs : List (P × P)) (h : Cs) : R D := match live with
  | true => .ok (.ref k) (setC h k (.dct nk kvs))
  | false => .ok (.dct nk kvs) (trim k (.dct nk kvs) (setC h k .dead))
/-- what a loop walks is nobody's while it is walked -/
def hold : List D → Cs → Cs
  | [], h => h
  | .ref k :: r, h => hold r (setC h k .held)
  | _ :: r, h => hold r h
def unhold : List D → Cs → Cs → Cs
  | [], _, h => h
  | .ref k :: r, h0, h => (match h0[k]? with
    | some o => setC (unhold r (setC h0 k .held) h) k o
    | none => unhold r (setC h0 k .held) h)
  | _ :: r, h0, h => unhold r h0 h
def R.unhold {α : Type} (ds : List D) (h0 : Cs) (r : R α) : R α := match r with
  | .ok a h => .ok a (Pd.unhold ds h0 h)
  | r => r
/-- own errors as values: made, a field, isinstance, their text -/
def mkX (c : Nat) (f m : Str) : List D → Cs → R D
  | [], h => .ok (.exn c f m .none) h
  | [.p x], h => .ok (.exn c f m x) h
  | _, _ => .no "mk"
def fldX (f : Str) (cs : List Nat) : D → Option D
  | .exn c f' _ y => if f' = f ∧ c ∈ cs then some (.p y) else none
  | _ => none
def isX (tb : List (Nat × Bool)) : D → Option D
  | .exn c _ _ _ => (tb.lookup c).map fun b => .p (.bool b)
  | _ => none
def strX (cs : List Nat) : D → Option D
  | .exn c _ m _ => if c ∈ cs then some (.p (.str m)) else none
  | _ => none
section
variable (G : Nat → D) (F : FT)
def keyed (f : Nat) : List D → Cs → R (List (P × D))
  | [], h => .ok [] h
  | x :: r, h => (trimR h.length (F f [x] h)).bind fun k h1 => match asP k h1 with
    | some q => (keyed f r h1).bind fun ys h2 => .ok ((q, x) :: ys) h2
    | none => .no "key"
mutual
def ev : E → Sg → Cs → R D
  | .k x, _, h => .ok (.p x) h
  | .ab, _, h => .ok (.p .none) h
  | .v i, σ, h => (match σ[i]? with
    | some (some d) => .ok d h
    | _ => .no "unbound")
  | .g i, _, h => .ok (G i) h
  | .fv f, _, h => .ok (.fn f) h
  | .bin o a b, σ, h => (ev a σ h).bind fun x h1 => (ev b σ h1).bind fun y h2 => .ofD (binop o x y h2) h2 "bin"
  | .neg a, σ, h => (ev a σ h).bind fun x h1 => (match x with
    | .p (.int i) => .ok (.p (.int (-i))) h1
    | _ => .no "neg")
  | .cmp o a b, σ, h => (ev a σ h).bind fun x h1 => (ev b σ h1).bind fun y h2 => (match cmpD o x y h2 with
    | some c => .ok (.p (.bool c)) h2
    | none => .no "cmp")
  | .chain o o' a b c, σ, h => (ev a σ h).bind fun x h1 => (ev b σ h1).bind fun y h2 => (match cmpD o x y h2 with
    | some true => (ev c σ h2).bind fun z h3 => (match cmpD o' y z h3 with
      | some c => .ok (.p (.bool c)) h3
      | none => .no "cmp")
    | some false => .ok (.p (.bool false)) h2
    | none => .no "cmp")
  | .and a b, σ, h => (ev a σ h).bind fun x h1 => (match truth x h1 with
    | some true => ev b σ h1
    | some false => .ok x h1
    | none => .no "and")
  | .or a b, σ, h => (ev a σ h).bind fun x h1 => (match truth x h1 with
    | some true => .ok x h1
    | some false => ev b σ h1
    | none => .no "or")
  | .not a, σ, h => (ev a σ h).bind fun x h1 => (match truth x h1 with
    | some c => .ok (.p (.bool (!c))) h1
    | none => .no "not")
  | .ite c a b, σ, h => (ev c σ h).bind fun x h1 => (match truth x h1 with
    | some true => ev a σ h1
    | some false => ev b σ h1
    | none => .no "ite")
  | .tup es, σ, h => (evs es σ h).bind fun ds h1 => .ok (mkTup ds) h1
  | .lst live es, σ, h => (evs es σ h).bind fun ds h1 => .ofC (some (listD live ds h1)) "list"
  | .dd live nk es, σ, h => (evs es σ (h ++ [.held])).bind fun ds h1 => (match pairUp nk ds with
    | some kvs => ddEnd live nk h.length (dmerge [] kvs) h1
    | none => .no "dict")
  | .call f es, σ, h => (evs es σ h).bind fun ds h1 => trimR h1.length (F f ds h1)
  | .callk f es ks, σ, h => (evs es σ h).bind fun ds h1 => (match bindKw es.length ks ds with
    | some ds' => trimR h1.length (F f ds' h1)
    | none => .no "kw")
  | .callv i es, σ, h => (match σ[i]? with
    | some (some (.fn f)) => (evs es σ h).bind fun ds h1 => trimR h1.length (F f ds h1)
    | _ => .no "callv")
  | .bi b live nk es, σ, h => (evs es σ h).bind fun ds h1 => .ofC (builtin b live nk ds h1) "builtin"
  | .isi ts a, σ, h => (ev a σ h).bind fun x h1 => (match isAny x h1 ts with
    | some c => .ok (.p (.bool c)) h1
    | none => .no "isinstance")
  | .sort kt key a, σ, h => (ev a σ h).bind fun x h1 => (match items x h1 with
    | some xs => (match key with
      | some f => (keyed F f xs h1).bind fun ks h2 => if ks.all (fun q => kt.has q.1) then .ok (mkLst ((sortK ks).map (·.2))) h2 else .no "sort"
      | none => (match unP xs with
        | some ps => if ps.all kt.has then .ok (mkLst ((sortK (ps.map fun q => (q, D.p q))).map (·.2))) h1 else .no "sort"
        | none => .no "sort"))
    | none => .no "sort")
  | .sset kt a, σ, h => (ev a σ h).bind fun x h1 => (match items x h1 with
    | some xs => (match unP xs with
      | some ps => if ps.all natIs && ps.all kt.has then .ok (mkLst ((sortK ((dedup ps []).map fun q => (q, D.p q))).map (·.2))) h1 else .no "sset"
      | none => .no "sset")
    | none => .no "sset")
  | .sub a i, σ, h => (ev a σ h).bind fun x h1 => (ev i σ h1).bind fun y h2 => .ofD (subD x y h2) h2 "sub"
  | .slc a lo hi, σ, h => (ev a σ h).bind fun x h1 => (bndR lo.isAb (ev lo σ h1) h1).bind fun l h2 => (bndR hi.isAb (ev hi σ h2) h2).bind fun u h3 => .ofD (slcD x l u h3) h3 "slice"
  | .rev a, σ, h => (ev a σ h).bind fun x h1 => .ofD (revD x h1) h1 "rev"
  | .lc live ws elt t ik its ifs, σ, h => (evs its σ h).bind fun ds h1 => (match walk ik ds h1 with
    | some xs => (R.unhold ds h1 <| R.tame <| lcGo (fun x acc h2 => match asgT t x (wipe ws σ) h2 with
      | some σ' => (evt ifs σ' h2).bind fun c h3 => (match c with
        | true => (ev elt σ' h3).bind fun y h4 => pushA acc y h4
        | false => .ok acc h3)
      | none => .no "target") xs [] (hold ds h1 ++ [.held])).bind fun ys h2 => lcEnd live h1.length ys h2
    | none => .no "walk")
  | .lc2 live ws elt t ik its ifs ws2 t2 ik2 its2 ifs2, σ, h => (evs its σ h).bind fun ds h1 => (match walk ik ds h1 with
    | some xs => (R.unhold ds h1 <| R.tame <| lcGo (fun x acc h2 => match asgT t x (wipe ws σ) h2 with
      | some σ' => (evt ifs σ' h2).bind fun c h3 => (match c with
        | true => (evs its2 σ' h3).bind fun ds2 h4 => (match walk ik2 ds2 h4 with
          | some xs2 => R.unhold ds2 h4 <| lcGo (fun x2 acc2 h5 => match asgT t2 x2 (wipe ws2 σ') h5 with
            | some σ2 => (evt ifs2 σ2 h5).bind fun c2 h6 => (match c2 with
              | true => (ev elt σ2 h6).bind fun y h7 => pushA acc2 y h7
              | false => .ok acc2 h6)
            | none => .no "target") xs2 acc (hold ds2 h4)
          | none => .no "walk")
        | false => .ok acc h3)
      | none => .no "target") xs [] (hold ds h1 ++ [.held])).bind fun ys h2 => lcEnd live h1.length ys h2
    | none => .no "walk")
  | .mt m a es, σ, h => (ev a σ h).bind fun x h1 => (evs es σ h1).bind fun ds h2 => .ofD (method m x ds h2) h2 "method"
  | .mm m a es, σ, h => (ev a σ h).bind fun x h1 => (match mmOk m x h1 with
    | true => (evs es σ h1).bind fun ds h2 => .ofC (mutate m x ds h2) "mutate"
    | false => .no "mutate")
  | .frz a, σ, h => (ev a σ h).bind fun x h1 => .ofC (freeze x h1) "freeze"
  | .mk c f m es, σ, h => (evs es σ h).bind fun ds h1 => mkX c f m ds h1
  | .fld f cs a, σ, h => (ev a σ h).bind fun x h1 => .ofD (fldX f cs x) h1 "fld"
  | .isx tb a, σ, h => (ev a σ h).bind fun x h1 => .ofD (isX tb x) h1 "isx"
  | .stx cs a, σ, h => (ev a σ h).bind fun x h1 => .ofD (strX cs x) h1 "stx"
def evs : List E → Sg → Cs → R (List D)
  | [], _, h => .ok [] h
  | e :: es, σ, h => (ev e σ h).bind fun x h1 => (evs es σ h1).bind fun xs h2 => .ok (x :: xs) h2
def evt : List E → Sg → Cs → R Bool
  | [], _, h => .ok true h
  | e :: es, σ, h => (ev e σ h).bind fun x h1 => (match truth x h1 with
    | some true => evt es σ h1
    | some false => .ok false h1
    | none => .no "if")
end
/-! ### statements -/
inductive O where
  | nx (σ : Sg) (h : Cs)
  | bk (σ : Sg) (h : Cs)
  | ct (σ : Sg) (h : Cs)
  | rt (d : D) (h : Cs)
  | ex (c : Nat) (d : D) (σ : Sg) (h : Cs)
  | no (w : String)
def O.unhold (ds : List D) (h0 : Cs) (o : O) : O := match o with
  | .nx σ h => .nx σ (Pd.unhold ds h0 h)
  | .rt d h => .rt d (Pd.unhold ds h0 h)
  | .ex c d σ h => .ex c d σ (Pd.unhold ds h0 h)
  | o => o
@[inline] def R.st {α : Type} (r : R α) (σ : Sg) (f : α → Cs → O) : O := match r with
  | .ok a h => f a h
  | .ex c d h => .ex c d σ h
  | .no w => .no w
def whlGo (c : Sg → Cs → R D) (b : Sg → Cs → O) : Nat → Sg → Cs → O
  | 0, _, _ => .no "fuel"
  | n + 1, σ, h => (c σ h).st σ fun x h1 => match truth x h1 with
    | some true => (match b σ h1 with
      | .nx σ' h' => whlGo c b n σ' h'
      | .ct σ' h' => whlGo c b n σ' h'
      | .bk σ' h' => .nx σ' h'
      | o => o)
    | some false => .nx σ h1
    | none => .no "while"
def forGo (t : T) (b : Sg → Cs → O) : List D → Sg → Cs → O
  | [], σ, h => .nx σ h
  | x :: r, σ, h => match asgT t x σ h with
    | some σ1 => (match b σ1 h with
      | .nx σ' h' => forGo t b r σ' h'
      | .ct σ' h' => forGo t b r σ' h'
      | .bk σ' h' => .nx σ' h'
      | o => o)
    | none => .no "target"
def fuel : Nat := 1000000000000
def putD (o i v : D) (h : Cs) : Option Cs := match o, i, v with
  | .ref k, .p x, .p y => (match h[k]?, x with
    | some (.dct nk kvs), x => if keyOk nk x && sizeOk kvs.length then some (setC h k (.dct nk (dput kvs x y))) else none
    | some (.lst xs), .int j => (match ixN xs.length j with
      | some n => some (setC h k (.lst (xs.set n y)))
      | none => none)
    | _, _ => none)
  | _, _, _ => none
mutual
def exec : S → Sg → Cs → O
  | .asg t e, σ, h => (ev G F e σ h).st σ fun d h1 => match asgT t d σ (trim h.length d h1) with
    | some σ' => .nx σ' (trim h.length d h1)
    | none => .no "target"
  | .par ts es, σ, h => (evs G F es σ h).st σ fun ds h1 => match asgTs ts ds σ h1 with
    | some σ' => .nx σ' h1
    | none => .no "target"
  | .put o i e, σ, h => (ev G F e σ h).st σ fun d h1 => (ev G F o σ h1).st σ fun x h2 => (ev G F i σ h2).st σ fun y h3 => match putD x y d h3 with
    | some h4 => .nx σ h4
    | none => .no "put"
  | .aug i o e, σ, h => (match σ[i]? with
    | some (some a) => (ev G F e σ h).st σ fun d h1 => match binop o a d h1 with
      | some z => .nx (σ.set i (some z)) h1
      | none => .no "aug"
    | _ => .no "unbound")
  | .ex e, σ, h => (ev G F e σ h).st σ fun _ h1 => .nx σ (trim h.length (.p .none) h1)
  | .ret e, σ, h => (ev G F e σ h).st σ fun d h1 => .rt d h1
  | .retn, _, h => .rt (.p .none) h
  | .ite c a b, σ, h => (ev G F c σ h).st σ fun x h1 => match truth x h1 with
    | some true => execs a σ h1
    | some false => execs b σ h1
    | none => .no "if"
  | .whl c b, σ, h => whlGo (ev G F c) (execs b) fuel σ h
  | .for t ik its b, σ, h => (evs G F its σ h).st σ fun ds h1 => match walk ik ds h1 with
    | some xs => (forGo t (execs b) xs σ (hold ds h1)).unhold ds h1
    | none => .no "walk"
  | .brk, σ, h => .bk σ h
  | .cnt, σ, h => .ct σ h
  | .pass, σ, h => .nx σ h
  | .never, _, _ => .no "never"
def execs : List S → Sg → Cs → O
  | [], σ, h => .nx σ h
  | s :: r, σ, h => match exec s σ h with
    | .nx σ' h' => execs r σ' h'
    | o => o
end
end
/-- a def: how many parameters, how many names, its body -/
structure Fd where
  np : Nat
  nn : Nat
  body : List S
def runFd (G : Nat → D) (F : FT) (fd : Fd) (ds : List D) (h : Cs) : R D :=
  if ds.length = fd.np then
    match execs G F fd.body (ds.map some ++ List.replicate (fd.nn - fd.np) none) h with
    | .nx _ h' => .ok (.p .none) h'
    | .rt d h' => .ok d h'
    | .ex c d _ h' => .ex c d h'
    | .bk _ _ => .no "break"
    | .ct _ _ => .no "continue"
    | .no w => .no w
  else .no "arguments"
/-- the defs, to a depth of calls -/
def Fn (G : Nat → D) (fs : Nat → Option Fd) : Nat → FT
  | 0 => fun _ _ _ => .no "depth"
  | n + 1 => fun f ds h => match fs f with
    | some fd => runFd G (Fn G fs n) fd ds h
    | none => .no "def"
end Pd
end
section
/-! PdRel: what the evaluator's values and cells are in the abstract heap of HandS. -/
namespace Pd
open PySem PySem.Spec PyProof.Rows L2
/-- what all of a law's defs share: the program, the world, the written part; fa: where the defs stand -/
structure Ct where
  prog : Program
  w : World
  K : PySem.W.Frag
  fa : Nat → Addr
  ca : Nat → Addr
  fld : Nat → Str
def MO.alive : MO → Bool
  | .dead => false
  | _ => true
/-- the address of a cell that is alive -/
def Live (ρ : List Addr) (h : Cs) (a : Addr) : Prop := ∃ (k : Nat) (o : MO), ρ[k]? = some a ∧ h[k]? = some o ∧ o.alive = true
def KTup (K : PySem.W.Frag) (a : Addr) (xs : List V) : Prop :=
  ∃ (o : Obj) (its : Array Value) (n : Nat), K.lookup a = some o ∧ o.cls = .type "tuple" ∧ o.data = .seq its n ∧ its.size ≤ sizeLine ∧ Vals xs its.toList
def KLst (K : PySem.W.Frag) (a : Addr) (xs : List V) : Prop :=
  ∃ (o : Obj) (its : Array Value) (n : Nat), K.lookup a = some o ∧ o.cls = .type "list" ∧ o.dict = none ∧ o.data = .seq its n ∧ its.size ≤ sizeLine ∧ Vals xs its.toList
def FTup (K : PySem.W.Frag) (L : Addr → Prop) (H : Hp) (a : Addr) (xs : List V) : Prop := (Rd H a (.tup xs) ∧ ¬ L a) ∨ KTup K a xs
def FLst (K : PySem.W.Frag) (L : Addr → Prop) (H : Hp) (a : Addr) (xs : List V) : Prop := (Rd H a (.lst xs) ∧ ¬ L a) ∨ KLst K a xs
theorem FTup.sq {K : PySem.W.Frag} {L : Addr → Prop} {H : Hp} {a : Addr} {xs : List V} (h : FTup K L H a xs) : SqT K H a xs := h.imp (·.1) id
theorem FLst.sq {K : PySem.W.Frag} {L : Addr → Prop} {H : Hp} {a : Addr} {xs : List V} (h : FLst K L H a xs) : SqL K H a xs := h.imp (·.1) id
/-! ### plain data -/
section
variable (K : PySem.W.Frag) (L : Addr → Prop) (H : Hp)
mutual
def RP : P → V → Prop
  | .none, v => v = .non
  | .bool b, v => v = .bl b
  | .int i, v => v = .int i
  | .str x, v => v = .str x
  | .tuple xs, v => ∃ a vs, v = .ref a ∧ FTup K L H a vs ∧ RPs xs vs
  | .list xs, v => ∃ a vs, v = .ref a ∧ FLst K L H a vs ∧ RPs xs vs
  | .dict _, _ => False
def RPs : List P → List V → Prop
  | [], vs => vs = []
  | x :: xs, vs => ∃ v r, vs = v :: r ∧ RP x v ∧ RPs xs r
end
end
def keyP : Key → P
  | .inl i => .int i
  | .inr x => .str x
mutual
def nkOf : P → Option NestedKey
  | .none => some .none
  | .bool b => some (.num (if b = true then 1 else 0))
  | .int i => some (.num i)
  | .str x => some (.text x)
  | .tuple xs => (nkOfs xs).map .tup
  | .list _ => none
  | .dict _ => none
def nkOfs : List P → Option (List NestedKey)
  | [] => some []
  | x :: xs => match nkOf x, nkOfs xs with
    | some k, some ks => some (k :: ks)
    | _, _ => none
end
/-- a dict whose keys are tuples -/
def NDict (c : Ct) (a : Addr) (xs : List (NestedKey × Addr × Value)) : HO := .ext fun hp => ∃ o es ep, hp.get? a = some o ∧ o.ExactDict ∧ o.data = .dict es ep ∧ es.toList = xs.map (entryOfKey (nestedKind c.prog c.w))
section
variable (c : Ct) (L : Addr → Prop) (H : Hp)
/-- a dict's pairs, flat keys -/
def RKs : List (P × P) → List (Key × V) → Prop
  | [], qs => qs = []
  | kv :: r, qs => ∃ k v t, qs = (k, v) :: t ∧ kv.1 = keyP k ∧ RP c.K L H kv.2 v ∧ RKs r t
/-- .. keys that are tuples -/
def RNs : List (P × P) → List (NestedKey × Addr × Value) → Prop
  | [], qs => qs = []
  | kv :: r, qs => ∃ k a u v t, qs = (k, a, u) :: t ∧ nkOf kv.1 = some k ∧ RP c.K L H kv.1 (.ref a) ∧ RelV v u ∧ RP c.K L H kv.2 v ∧ RNs r t
/-- the dict at a; A: what may be read as standing there -/
def RDct (A : HO → Prop) (a : Addr) (nk : Bool) (kvs : List (P × P)) : Prop := match nk with
  | false => ∃ qs, A (.dK qs) ∧ RKs c L H kvs qs ∧ (qs.map (·.1)).Nodup
  | true => (a == sysModules) = false ∧ ∃ qs, A (NDict c a qs) ∧ RNs c L H kvs qs ∧ (qs.map (·.1)).Nodup ∧ qs.length ≤ sizeLine
end
/-- an own exception's object: its class, its args, its dict -/
def exA (a C t1 : Addr) (d : Option Addr) : HO := .ext fun h => h.get? a = some ({ cls := .ref C, dict := d, data := .fields #[.ref t1, .none, .none, .none, .bool false, .none] } : Obj)
section
variable (c : Ct) (ρ : List Addr) (L : Addr → Prop) (H : Hp)
mutual
def RD : D → V → Prop
  | .p x, v => RP c.K L H x v
  | .fn f, v => v = .ref (c.fa f)
  | .ref k, v => ∃ a, v = .ref a ∧ ρ[k]? = some a
  | .tup xs, v => ∃ a vs, v = .ref a ∧ FTup c.K L H a vs ∧ RDs xs vs
  | .lst xs, v => ∃ a vs, v = .ref a ∧ FLst c.K L H a vs ∧ RDs xs vs
  | .dct nk kvs, v => ∃ a, v = .ref a ∧ ¬ L a ∧ RDct c L H (Rd H a) a nk kvs
  | .exn cl f m x, v => ∃ a t1 dx u, v = .ref a ∧ (Rd H a (exA a (c.ca cl) t1 (some dx)) ∧ ¬ L a) ∧ (Rd H t1 (.tup [.str m]) ∧ ¬ L t1) ∧ (Rd H dx (exd dx [(f, u)]) ∧ ¬ L dx) ∧ RP c.K L H x u
def RDs : List D → List V → Prop
  | [], vs => vs = []
  | x :: xs, vs => ∃ v r, vs = v :: r ∧ RD x v ∧ RDs xs r
end
/-- what stands in a cell -/
def RM (a : Addr) : MO → Prop
  | .lst xs => ∃ vs, H a = some (.lst vs) ∧ RPs c.K L H xs vs
  | .lsr xs => ∃ vs, H a = some (.lst vs) ∧ RDs c ρ L H xs vs
  | .dct nk kvs => RDct c L H (fun o => H a = some o) a nk kvs
  | .exc _ _ => False
  | .dead => True
  | .held => ∃ o, H a = some o
end
/-- the cells -/
structure Rel (c : Ct) (ρ : List Addr) (h : Cs) (H : Hp) : Prop where
  len : ρ.length = h.length
  ob : ∀ (k : Nat) (o : MO) (a : Addr), h[k]? = some o → ρ[k]? = some a → RM c ρ (Live ρ h) H a o
  inj : ∀ (j k : Nat) (a : Addr) (o u : MO), ρ[j]? = some a → ρ[k]? = some a → h[j]? = some o → h[k]? = some u → o.alive = true → u.alive = true → j = k
/-- the slots -/
def RelS (c : Ct) (ρ : List Addr) (h : Cs) (H : Hp) (σD : Sg) (σ : L2.St) : Prop := σD.length = σ.length ∧ ∀ (i : Nat) (d : D), σD[i]? = some (some d) → ∃ v, σ[i]? = some (some v) ∧ RD c ρ (Live ρ h) H d v
/-- from one state to a later one: what isn't a live cell stays -/
structure Go (ρ : List Addr) (h : Cs) (H : Hp) (ρ' : List Addr) (h' : Cs) (H' : Hp) : Prop where
  pre : ρ <+: ρ'
  stay : ∀ a o, H a = some o → ¬ Live ρ h a → H' a = some o ∧ ¬ Live ρ' h' a
  held : ∀ (k : Nat) (a : Addr), h[k]? = some .held → ρ[k]? = some a → h'[k]? = some .held ∧ H' a = H a
theorem Go.refl {ρ : List Addr} {h : Cs} {H : Hp} : Go ρ h H ρ h H := ⟨List.prefix_refl _, fun _ _ e n => ⟨e, n⟩, fun _ _ e _ => ⟨e, rfl⟩⟩
theorem pre_get {α : Type} {l l' : List α} (hp : l <+: l') {k : Nat} {a : α} (h : l[k]? = some a) : l'[k]? = some a := by
  obtain ⟨t, rfl⟩ := hp
  rw [List.getElem?_append_left (List.getElem?_eq_some_iff.mp h).1]
  exact h
theorem Go.trans {ρ ρ1 ρ2 : List Addr} {h h1 h2 : Cs} {H H1 H2 : Hp} (a : Go ρ h H ρ1 h1 H1) (b : Go ρ1 h1 H1 ρ2 h2 H2) : Go ρ h H ρ2 h2 H2 :=
  ⟨a.pre.trans b.pre, fun x o e n => let ⟨e1, n1⟩ := a.stay x o e n; b.stay x o e1 n1, fun k x e q => let ⟨e1, q1⟩ := a.held k x e q; let ⟨e2, q2⟩ := b.held k x e1 (pre_get a.pre q); ⟨e2, q2.trans q1⟩⟩
/-! ### what is told stays told -/
section
variable {c : Ct} {K : PySem.W.Frag} {L L' : Addr → Prop} {H H' : Hp}
def Plain (u : HO) : Prop := ∀ o v, u ≠ .frz o v
/-- what is read stays to be read -/
abbrev Stay (L : Addr → Prop) (H : Hp) (L' : Addr → Prop) (H' : Hp) : Prop := ∀ a u, Plain u → Rd H a u → ¬ L a → Rd H' a u ∧ ¬ L' a
theorem plain_tup {xs : List V} : Plain (.tup xs) := fun _ _ e => nomatch e
theorem plain_lst {xs : List V} : Plain (.lst xs) := fun _ _ e => nomatch e
theorem plain_dK {xs : List (Key × V)} : Plain (.dK xs) := fun _ _ e => nomatch e
theorem plain_exA {a C t : Addr} {d : Option Addr} : Plain (exA a C t d) := fun _ _ e => by
  have e' : HO.ext _ = HO.frz _ _ := e
  cases e'
theorem plain_exd {a : Addr} {fs : List (Str × V)} : Plain (exd a fs) := fun _ _ e => by
  have e' : HO.ext _ = HO.frz _ _ := e
  cases e'
theorem plain_ND {a : Addr} {xs : List (NestedKey × Addr × Value)} : Plain (NDict c a xs) := fun _ _ e => nomatch e
theorem Stay.of (s : ∀ a o, H a = some o → ¬ L a → H' a = some o ∧ ¬ L' a) : Stay L H L' H' := fun a u _ h n => by
  rcases h with h | ⟨o, h⟩
  · exact ⟨.inl (s a _ h n).1, (s a _ h n).2⟩
  · exact ⟨.inr ⟨o, (s a _ h n).1⟩, (s a _ h n).2⟩
theorem FTup.stay (s : Stay L H L' H') {a : Addr} {vs : List V} (h : FTup K L H a vs) : FTup K L' H' a vs := h.imp (fun q => s a _ plain_tup q.1 q.2) id
theorem FLst.stay (s : Stay L H L' H') {a : Addr} {vs : List V} (h : FLst K L H a vs) : FLst K L' H' a vs := h.imp (fun q => s a _ plain_lst q.1 q.2) id
mutual
theorem RP.stay (s : Stay L H L' H') : ∀ (x : P) (v : V), RP K L H x v → RP K L' H' x v
  | .none, v, h => by simp only [RP] at h ⊢; exact h
  | .bool b, v, h => by simp only [RP] at h ⊢; exact h
  | .int i, v, h => by simp only [RP] at h ⊢; exact h
  | .str x, v, h => by simp only [RP] at h ⊢; exact h
  | .tuple xs, v, h => by
    simp only [RP] at h ⊢
    obtain ⟨a, vs, e, q, r⟩ := h
    exact ⟨a, vs, e, FTup.stay s q, RPs.stay s xs vs r⟩
  | .list xs, v, h => by
    simp only [RP] at h ⊢
    obtain ⟨a, vs, e, q, r⟩ := h
    exact ⟨a, vs, e, FLst.stay s q, RPs.stay s xs vs r⟩
  | .dict _, v, h => by simp only [RP] at h
theorem RPs.stay (s : Stay L H L' H') : ∀ (xs : List P) (vs : List V), RPs K L H xs vs → RPs K L' H' xs vs
  | [], vs, h => by simp only [RPs] at h ⊢; exact h
  | x :: xs, vs, h => by
    simp only [RPs] at h ⊢
    obtain ⟨v, r, e, h1, h2⟩ := h
    exact ⟨v, r, e, RP.stay s x v h1, RPs.stay s xs r h2⟩
end
theorem RKs.stay (s : Stay L H L' H') : ∀ (kvs : List (P × P)) (qs : List (Key × V)), RKs c L H kvs qs → RKs c L' H' kvs qs
  | [], qs, h => h
  | kv :: r, qs, ⟨k, v, t, e, e1, h1, h2⟩ => ⟨k, v, t, e, e1, RP.stay s _ _ h1, RKs.stay s r t h2⟩
theorem RNs.stay (s : Stay L H L' H') : ∀ (kvs : List (P × P)) (qs : List (NestedKey × Addr × Value)), RNs c L H kvs qs → RNs c L' H' kvs qs
  | [], qs, h => h
  | kv :: r, qs, ⟨k, a, u, v, t, e, e1, h0, h1, h2, h3⟩ => ⟨k, a, u, v, t, e, e1, RP.stay s _ _ h0, h1, RP.stay s _ _ h2, RNs.stay s r t h3⟩
theorem RDct.stayAt (s : Stay L H L' H') {A A' : HO → Prop} {a : Addr} {nk : Bool} {kvs : List (P × P)} (h : RDct c L H A a nk kvs) (ha : ∀ o, Plain o → A o → A' o) : RDct c L' H' A' a nk kvs := by
  cases nk with
  | false =>
    obtain ⟨qs, e, r, n⟩ := h
    exact ⟨qs, ha _ plain_dK e, RKs.stay s _ _ r, n⟩
  | true =>
    obtain ⟨z, qs, e, r, n⟩ := h
    exact ⟨z, qs, ha _ plain_ND e, RNs.stay s _ _ r, n⟩
theorem RDct.there {A : HO → Prop} {a : Addr} {nk : Bool} {kvs : List (P × P)} (h : RDct c L H A a nk kvs) : ∃ o, Plain o ∧ A o := by
  cases nk with
  | false => obtain ⟨qs, e, _⟩ := h; exact ⟨_, plain_dK, e⟩
  | true => obtain ⟨_, qs, e, _⟩ := h; exact ⟨_, plain_ND, e⟩
mutual
theorem RD.stay {ρ ρ' : List Addr} (hp : ρ <+: ρ') (s : Stay L H L' H') : ∀ (x : D) (v : V), RD c ρ L H x v → RD c ρ' L' H' x v
  | .p x, v, h => by simp only [RD] at h ⊢; exact RP.stay s x v h
  | .fn f, v, h => by simp only [RD] at h ⊢; exact h
  | .ref k, v, h => by
    simp only [RD] at h ⊢
    obtain ⟨a, e, q⟩ := h
    exact ⟨a, e, pre_get hp q⟩
  | .tup xs, v, h => by
    simp only [RD] at h ⊢
    obtain ⟨a, vs, e, q, r⟩ := h
    exact ⟨a, vs, e, FTup.stay s q, RDs.stay hp s xs vs r⟩
  | .lst xs, v, h => by
    simp only [RD] at h ⊢
    obtain ⟨a, vs, e, q, r⟩ := h
    exact ⟨a, vs, e, FLst.stay s q, RDs.stay hp s xs vs r⟩
  | .dct nk kvs, v, h => by
    simp only [RD] at h ⊢
    obtain ⟨a, e, n, q⟩ := h
    obtain ⟨o, po, eo⟩ := q.there
    exact ⟨a, e, (s a o po eo n).2, q.stayAt s fun o' p' e' => (s a o' p' e' n).1⟩
  | .exn cl f m x, v, h => by
    simp only [RD] at h ⊢
    obtain ⟨a, t1, dx, u, e, q1, q2, q3, q4⟩ := h
    exact ⟨a, t1, dx, u, e, s a _ plain_exA q1.1 q1.2, s t1 _ plain_tup q2.1 q2.2, s dx _ plain_exd q3.1 q3.2, RP.stay s x u q4⟩
theorem RDs.stay {ρ ρ' : List Addr} (hp : ρ <+: ρ') (s : Stay L H L' H') : ∀ (xs : List D) (vs : List V), RDs c ρ L H xs vs → RDs c ρ' L' H' xs vs
  | [], vs, h => by simp only [RDs] at h ⊢; exact h
  | x :: xs, vs, h => by
    simp only [RDs] at h ⊢
    obtain ⟨v, r, e, h1, h2⟩ := h
    exact ⟨v, r, e, RD.stay hp s x v h1, RDs.stay hp s xs r h2⟩
end
end
/-! ### steps of the cells -/
section
variable {c : Ct} {ρ ρ' : List Addr} {h h' : Cs} {H H' : Hp} {σD : Sg} {σ : L2.St}
theorem Go.stayR (g : Go ρ h H ρ' h' H') : Stay (Live ρ h) H (Live ρ' h') H' := Stay.of g.stay
theorem Go.rd (g : Go ρ h H ρ' h' H') {x : D} {v : V} (r : RD c ρ (Live ρ h) H x v) : RD c ρ' (Live ρ' h') H' x v := RD.stay g.pre g.stayR x v r
theorem Go.rds (g : Go ρ h H ρ' h' H') {xs : List D} {vs : List V} (r : RDs c ρ (Live ρ h) H xs vs) : RDs c ρ' (Live ρ' h') H' xs vs := RDs.stay g.pre g.stayR xs vs r
theorem Go.rp (g : Go ρ h H ρ' h' H') {x : P} {v : V} (r : RP c.K (Live ρ h) H x v) : RP c.K (Live ρ' h') H' x v := RP.stay g.stayR x v r
theorem Go.rps (g : Go ρ h H ρ' h' H') {xs : List P} {vs : List V} (r : RPs c.K (Live ρ h) H xs vs) : RPs c.K (Live ρ' h') H' xs vs := RPs.stay g.stayR xs vs r
theorem Go.relS (g : Go ρ h H ρ' h' H') (r : RelS c ρ h H σD σ) : RelS c ρ' h' H' σD σ := ⟨r.1, fun i d e => let ⟨v, e1, q⟩ := r.2 i d e; ⟨v, e1, g.rd q⟩⟩
/-- the heap changed where no cell and nothing tracked stands: a new object -/
theorem Rel.new (R : Rel c ρ h H) {p : Addr} {o : HO} (hp : H p = none) : Rel c ρ h (upd H p o) ∧ Go ρ h H ρ h (upd H p o) := by
  have ne : ∀ a u, H a = some u → a ≠ p := fun a u e => ne_of_none e hp
  have st : ∀ a u, H a = some u → upd H p o a = some u := fun a u e => by rw [upd_ne (ne a u e)]; exact e
  have g : Go ρ h H ρ h (upd H p o) := ⟨List.prefix_refl _, fun a u e n => ⟨st a u e, n⟩, fun k a e1 e2 => ⟨e1, let ⟨w, e⟩ : ∃ w, H a = Option.some w := R.ob k .held a e1 e2; upd_ne (ne a w e)⟩⟩
  refine ⟨⟨R.len, fun k u a e1 e2 => ?_, R.inj⟩, g⟩
  have q := R.ob k u a e1 e2
  cases u with
  | held => obtain ⟨w, e⟩ := q; exact ⟨w, st _ _ e⟩
  | lst xs => obtain ⟨vs, e, r⟩ := q; exact ⟨vs, st _ _ e, RPs.stay g.stayR _ _ r⟩
  | lsr xs => obtain ⟨vs, e, r⟩ := q; exact ⟨vs, st _ _ e, RDs.stay g.pre g.stayR _ _ r⟩
  | dct nk kvs =>
    have q' : RDct c (Live ρ h) H (fun o => H a = Option.some o) a nk kvs := q
    exact RDct.stayAt g.stayR q' fun o _ => st a o
  | exc _ _ => exact q
  | dead => trivial
theorem RM.there {a : Addr} {L : Addr → Prop} {o : MO} (q : RM c ρ L H a o) (al : o.alive = true) : ∃ u, H a = some u := by
  cases o with
  | lst xs => obtain ⟨vs, e, r⟩ := q; exact ⟨_, e⟩
  | lsr xs => obtain ⟨vs, e, r⟩ := q; exact ⟨_, e⟩
  | dct nk kvs =>
    have q' : RDct c L H (fun o => H a = Option.some o) a nk kvs := q
    obtain ⟨o, _, e⟩ := q'.there
    exact ⟨o, e⟩
  | exc _ _ => exact q.elim
  | dead => cases al
  | held => exact q
/-- a live cell's address is tracked -/
theorem Rel.live_some (R : Rel c ρ h H) {a : Addr} (l : Live ρ h a) : ∃ u, H a = some u := by
  obtain ⟨k, o, e1, e2, al⟩ := l
  exact (R.ob k o a e2 e1).there al
theorem Rel.not_live (R : Rel c ρ h H) {p : Addr} (hp : H p = none) : ¬ Live ρ h p := fun l => by
  obtain ⟨u, e⟩ := R.live_some l
  rw [hp] at e; cases e
/-- .. told of RM under a step that keeps what isn't a live cell, where a's own object stays -/
theorem RM.stay {L L' : Addr → Prop} (hp : ρ <+: ρ') (s : Stay L H L' H') {a : Addr} {o : MO} (q : RM c ρ L H a o) (ha : ∀ u, H a = some u → H' a = some u) : RM c ρ' L' H' a o := by
  cases o with
  | lst xs => obtain ⟨vs, e, r⟩ := q; exact ⟨vs, ha _ e, RPs.stay s _ _ r⟩
  | lsr xs => obtain ⟨vs, e, r⟩ := q; exact ⟨vs, ha _ e, RDs.stay hp s _ _ r⟩
  | dct nk kvs =>
    have q' : RDct c L H (fun o => H a = Option.some o) a nk kvs := q
    exact RDct.stayAt s q' fun o _ => ha o
  | exc _ _ => exact q
  | dead => trivial
  | held => obtain ⟨w, e⟩ := q; exact ⟨w, ha _ e⟩
/-- a new cell at p, whose object o stands there -/
theorem Rel.alloc (R : Rel c ρ h H) {p : Addr} {o : HO} {m : MO} (hp : H p = none) (al : m.alive = true) (q : ∀ (L' : Addr → Prop) (H' : Hp), Stay (Live ρ h) H L' H' → H' p = some o → RM c (ρ ++ [p]) L' H' p m) :
    Rel c (ρ ++ [p]) (h ++ [m]) (upd H p o) ∧ Go ρ h H (ρ ++ [p]) (h ++ [m]) (upd H p o) := by
  have ne : ∀ a u, H a = some u → a ≠ p := fun a u e => ne_of_none e hp
  have st : ∀ a u, H a = some u → upd H p o a = some u := fun a u e => by rw [upd_ne (ne a u e)]; exact e
  have at_ : ∀ (k : Nat) (a : Addr), (ρ ++ [p])[k]? = some a → (k < ρ.length ∧ ρ[k]? = some a) ∨ (k = ρ.length ∧ a = p) := fun k a e => by
    rcases Nat.lt_or_ge k ρ.length with l | l
    · rw [List.getElem?_append_left l] at e; exact .inl ⟨l, e⟩
    · rw [List.getElem?_append_right l] at e
      rcases Nat.eq_zero_or_pos (k - ρ.length) with z | z
      · rw [z] at e
        exact .inr ⟨by omega, by simpa using e.symm⟩
      · rw [List.getElem?_eq_none (by simp; omega)] at e; cases e
  have hat : ∀ (k : Nat) (u : MO), (h ++ [m])[k]? = some u → (k < h.length ∧ h[k]? = some u) ∨ (k = h.length ∧ u = m) := fun k u e => by
    rcases Nat.lt_or_ge k h.length with l | l
    · rw [List.getElem?_append_left l] at e; exact .inl ⟨l, e⟩
    · rw [List.getElem?_append_right l] at e
      rcases Nat.eq_zero_or_pos (k - h.length) with z | z
      · rw [z] at e
        exact .inr ⟨by omega, by simpa using e.symm⟩
      · rw [List.getElem?_eq_none (by simp; omega)] at e; cases e
  have live : ∀ a, Live (ρ ++ [p]) (h ++ [m]) a → Live ρ h a ∨ a = p := fun a ⟨k, u, e1, e2, l⟩ => by
    rcases at_ k a e1 with ⟨l1, q1⟩ | ⟨_, q1⟩
    · rcases hat k u e2 with ⟨_, q2⟩ | ⟨z, _⟩
      · exact .inl ⟨k, u, q1, q2, l⟩
      · have := R.len; omega
    · exact .inr q1
  have g : Go ρ h H (ρ ++ [p]) (h ++ [m]) (upd H p o) := ⟨List.prefix_append _ _, fun a u e n => ⟨st a u e, fun l => (live a l).elim n (ne a u e)⟩, fun k a e1 e2 => ⟨(List.getElem?_append_left (List.getElem?_eq_some_iff.mp e1).1).trans e1, let ⟨w, e⟩ : ∃ w, H a = Option.some w := R.ob k .held a e1 e2; upd_ne (ne a w e)⟩⟩
  refine ⟨⟨by simp [R.len], fun k u a e1 e2 => ?_, fun j k a u w e1 e2 e3 e4 l1 l2 => ?_⟩, g⟩
  · rcases at_ k a e2 with ⟨l1, q1⟩ | ⟨z1, q1⟩
    · rcases hat k u e1 with ⟨_, q2⟩ | ⟨z, _⟩
      · exact RM.stay g.pre g.stayR (R.ob k u a q2 q1) (st a)
      · have := R.len; omega
    · rcases hat k u e1 with ⟨l2, _⟩ | ⟨_, q2⟩
      · have := R.len; omega
      · subst q1; subst q2
        exact q _ _ g.stayR upd_same
  · have own : ∀ (k : Nat) (u : MO), (ρ ++ [p])[k]? = some a → (h ++ [m])[k]? = some u → u.alive = true → (k < ρ.length ∧ ρ[k]? = some a ∧ h[k]? = some u ∧ a ≠ p) ∨ (k = ρ.length ∧ a = p) := fun k u e1 e2 l => by
      rcases at_ k a e1 with ⟨l1, q1⟩ | q1
      · rcases hat k u e2 with ⟨_, q2⟩ | ⟨z, _⟩
        · obtain ⟨w, e⟩ := (R.ob k u a q2 q1).there l
          exact .inl ⟨l1, q1, q2, ne a w e⟩
        · have := R.len; omega
      · exact .inr q1
    rcases own j u e1 e3 l1 with ⟨_, a1, a2, a3⟩ | ⟨a1, a2⟩
    · rcases own k w e2 e4 l2 with ⟨_, b1, b2, _⟩ | ⟨_, b2⟩
      · exact R.inj j k a u w a1 b1 a2 b2 l1 l2
      · exact absurd b2 a3
    · rcases own k w e2 e4 l2 with ⟨_, _, _, b3⟩ | ⟨b1, _⟩
      · exact absurd a2 b3
      · omega
theorem set_get {α : Type} {l : List α} {k j : Nat} {x y : α} (e : (l.set k x)[j]? = some y) : (j = k ∧ y = x) ∨ (j ≠ k ∧ l[j]? = some y) := by
  by_cases z : j = k
  · subst z
    have lt : j < (l.set j x).length := (List.getElem?_eq_some_iff.mp e).1
    rw [List.length_set] at lt
    rw [List.getElem?_set_self lt] at e
    exact .inl ⟨rfl, (Option.some.inj e).symm⟩
  · rw [List.getElem?_set_ne (Ne.symm z)] at e
    exact .inr ⟨z, e⟩
/-- the cell k, alive, at a, gets the new object o and is m now -/
theorem Rel.put (R : Rel c ρ h H) {k : Nat} {a : Addr} {m m' : MO} {o : HO} (ek : h[k]? = some m) (ea : ρ[k]? = some a) (al : m.alive = true) (nh : m ≠ .held)
    (q : ∀ (L' : Addr → Prop) (H' : Hp), Stay (Live ρ h) H L' H' → H' a = some o → RM c ρ L' H' a m') :
    Rel c ρ (h.set k m') (upd H a o) ∧ Go ρ h H ρ (h.set k m') (upd H a o) := by
  have la : Live ρ h a := ⟨k, m, ea, ek, al⟩
  have live : ∀ b, Live ρ (h.set k m') b → Live ρ h b := fun b ⟨j, u, e1, e2, l⟩ => by
    rcases set_get e2 with ⟨z, _⟩ | ⟨_, e3⟩
    · subst z
      rw [ea] at e1; cases e1
      exact la
    · exact ⟨j, u, e1, e3, l⟩
  have g : Go ρ h H ρ (h.set k m') (upd H a o) := ⟨List.prefix_refl _, fun b u e n => ⟨by rw [upd_ne (fun z => n (by rw [z]; exact la))]; exact e, fun l => n (live b l)⟩, fun j b e1 e2 => by
    have nk : k ≠ j := fun z => by subst z; rw [ek] at e1; exact nh (Option.some.inj e1)
    exact ⟨by rw [List.getElem?_set_ne nk]; exact e1, upd_ne fun z => nk (R.inj k j a m .held ea (z ▸ e2) ek e1 al rfl)⟩⟩
  refine ⟨⟨by simp [R.len], fun j u b e1 e2 => ?_, fun i j b u w e1 e2 e3 e4 l1 l2 => ?_⟩, g⟩
  · rcases set_get e1 with ⟨z, e3⟩ | ⟨z, e3⟩
    · subst z; subst e3
      rw [ea] at e2; cases e2
      exact q _ _ g.stayR upd_same
    · by_cases l : u.alive = true
      · have nb : b ≠ a := fun eb => z (R.inj j k a u m (eb ▸ e2) ea e3 ek l al)
        exact RM.stay g.pre g.stayR (R.ob j u b e3 e2) fun w e => by rw [upd_ne nb]; exact e
      · cases u with
        | dead => trivial
        | held => exact absurd rfl l
        | lst _ => exact absurd rfl l
        | lsr _ => exact absurd rfl l
        | dct _ _ => exact absurd rfl l
        | exc _ _ => exact absurd rfl l
  · have old : ∀ (j : Nat) (u : MO), (h.set k m')[j]? = some u → u.alive = true → ∃ u', h[j]? = some u' ∧ u'.alive = true := fun j u e l => by
      rcases set_get e with ⟨z, _⟩ | ⟨_, e3⟩
      · subst z; exact ⟨m, ek, al⟩
      · exact ⟨u, e3, l⟩
    obtain ⟨u', e3', l1'⟩ := old i u e3 l1
    obtain ⟨w', e4', l2'⟩ := old j w e4 l2
    exact R.inj i j b u' w' e1 e2 e3' e4' l1' l2'
/-- the cell k dies; its object stays and is frozen from now on -/
theorem Rel.kill (R : Rel c ρ h H) {k : Nat} {a : Addr} {m : MO} (ek : h[k]? = some m) (ea : ρ[k]? = some a) (al : m.alive = true) (nh : m ≠ .held) :
    Rel c ρ (h.set k .dead) H ∧ Go ρ h H ρ (h.set k .dead) H ∧ ¬ Live ρ (h.set k .dead) a ∧ Stay (Live ρ h) H (Live ρ (h.set k .dead)) H := by
  have live : ∀ b, Live ρ (h.set k .dead) b → Live ρ h b := fun b ⟨j, u, e1, e2, l⟩ => by
    rcases set_get e2 with ⟨_, z⟩ | ⟨_, e3⟩
    · subst z; cases l
    · exact ⟨j, u, e1, e3, l⟩
  have g : Go ρ h H ρ (h.set k .dead) H := ⟨List.prefix_refl _, fun b u e n => ⟨e, fun l => n (live b l)⟩, fun j b e1 e2 => by
    have nk : k ≠ j := fun z => by subst z; rw [ek] at e1; exact nh (Option.some.inj e1)
    exact ⟨by rw [List.getElem?_set_ne nk]; exact e1, rfl⟩⟩
  refine ⟨⟨by simp [R.len], fun j u b e1 e2 => ?_, fun i j b u w e1 e2 e3 e4 l1 l2 => ?_⟩, g, fun ⟨j, u, e1, e2, l⟩ => ?_, g.stayR⟩
  · rcases set_get e1 with ⟨_, e3⟩ | ⟨_, e3⟩
    · subst e3; trivial
    · exact RM.stay g.pre g.stayR (R.ob j u b e3 e2) fun _ e => e
  · rcases set_get e3 with ⟨_, z⟩ | ⟨_, e3⟩
    · subst z; cases l1
    rcases set_get e4 with ⟨_, z⟩ | ⟨_, e4⟩
    · subst z; cases l2
    exact R.inj i j b u w e1 e2 e3 e4 l1 l2
  · rcases set_get e2 with ⟨_, z⟩ | ⟨z, e3⟩
    · subst z; cases l
    · exact z (R.inj j k a u m e1 ea e3 ek l al)
/-- the cell k, alive, at a, is something else alive now, its object as it is -/
theorem Rel.swap (R : Rel c ρ h H) {k : Nat} {a : Addr} {m m' : MO} (ek : h[k]? = some m) (ea : ρ[k]? = some a) (al : m.alive = true) (al' : m'.alive = true)
    (q : RM c ρ (Live ρ h) H a m') : Rel c ρ (h.set k m') H ∧ (∀ b, Live ρ (h.set k m') b ↔ Live ρ h b) := by
  have lt : k < h.length := (List.getElem?_eq_some_iff.mp ek).1
  have lv : ∀ b, Live ρ (h.set k m') b ↔ Live ρ h b := fun b => by
    constructor
    · rintro ⟨j, u, e1, e2, l⟩
      rcases set_get e2 with ⟨z, _⟩ | ⟨_, e3⟩
      · subst z
        rw [ea] at e1; cases e1
        exact ⟨j, m, ea, ek, al⟩
      · exact ⟨j, u, e1, e3, l⟩
    · rintro ⟨j, u, e1, e2, l⟩
      by_cases z : j = k
      · subst z
        exact ⟨j, m', e1, List.getElem?_set_self lt, al'⟩
      · exact ⟨j, u, e1, by rw [List.getElem?_set_ne (Ne.symm z)]; exact e2, l⟩
  have st : Stay (Live ρ h) H (Live ρ (h.set k m')) H := Stay.of fun b o e n => ⟨e, fun l => n ((lv b).mp l)⟩
  refine ⟨⟨by simp [R.len], fun j u b e1 e2 => ?_, fun i j b u w e1 e2 e3 e4 l1 l2 => ?_⟩, lv⟩
  · rcases set_get e1 with ⟨z, e3⟩ | ⟨_, e3⟩
    · subst z; subst e3
      rw [ea] at e2; cases e2
      exact RM.stay (List.prefix_refl _) st q fun _ e => e
    · exact RM.stay (List.prefix_refl _) st (R.ob j u b e3 e2) fun _ e => e
  · have old : ∀ (j : Nat) (u : MO), (h.set k m')[j]? = some u → u.alive = true → ∃ u', h[j]? = some u' ∧ u'.alive = true := fun j u e l => by
      rcases set_get e with ⟨z, _⟩ | ⟨_, e3⟩
      · subst z; exact ⟨m, ek, al⟩
      · exact ⟨u, e3, l⟩
    obtain ⟨u', e3', l1'⟩ := old i u e3 l1
    obtain ⟨w', e4', l2'⟩ := old j w e4 l2
    exact R.inj i j b u' w' e1 e2 e3' e4' l1' l2'
theorem Rel.hold (R : Rel c ρ h H) {k : Nat} {a : Addr} {m : MO} (ek : h[k]? = some m) (ea : ρ[k]? = some a) (al : m.alive = true) :
    Rel c ρ (h.set k .held) H ∧ (∀ b, Live ρ (h.set k .held) b ↔ Live ρ h b) := R.swap ek ea al rfl ((R.ob k m a ek ea).there al)
/-- what is told with a cell held is told with the cell let go: all but that the cell was held -/
theorem Go.unhold {k : Nat} {a : Addr} {m m' : MO} (R : Rel c ρ h H) (ek : h[k]? = some m) (ea : ρ[k]? = some a) (al : m.alive = true) (nh : m ≠ .held) (al' : m'.alive = true)
    (g : Go ρ (h.set k .held) H ρ' h' H') (R' : Rel c ρ' h' H') (q : RM c ρ' (Live ρ' h') H' a m') :
    Rel c ρ' (h'.set k m') H' ∧ Go ρ h H ρ' (h'.set k m') H' ∧ (∀ b, Live ρ' (h'.set k m') b ↔ Live ρ' h' b) := by
  obtain ⟨_, lv0⟩ := R.hold ek ea al
  have lt : k < h.length := (List.getElem?_eq_some_iff.mp ek).1
  have e0 : (h.set k MO.held)[k]? = some .held := List.getElem?_set_self lt
  obtain ⟨e1, _⟩ := g.held k a e0 ea
  obtain ⟨R1, lv⟩ := R'.swap e1 (pre_get g.pre ea) rfl al' q
  refine ⟨R1, ⟨g.pre, fun b o e n => ?_, fun j b e2 e3 => ?_⟩, lv⟩
  · obtain ⟨e4, n4⟩ := g.stay b o e (fun l => n ((lv0 b).mp l))
    exact ⟨e4, fun l => n4 ((lv b).mp l)⟩
  · have nk : k ≠ j := fun z => by subst z; rw [ek] at e2; exact nh (Option.some.inj e2)
    obtain ⟨e4, e5⟩ := g.held j b (by rw [List.getElem?_set_ne nk]; exact e2) e3
    exact ⟨by rw [List.getElem?_set_ne nk]; exact e4, e5⟩
end
end Pd
end
section
/-! PdX: an expression of the text does what the IR's evaluator says: the judgement, the rules. -/
namespace Pd
open PySem PySem.Spec PyProof.Rows L2
/-- where the defs and the own errors stand, the errors' fields -/
structure Nm where
  fa : Nat → Addr
  ca : Nat → Addr
  fld : Nat → Str
abbrev cx (X : Cx) (n : Nm) : Ct := { prog := X.prog, w := X.w, K := X.K, fa := n.fa, ca := n.ca, fld := n.fld }
/-- an error of the n-th own class with the field d is taken -/
def ExW (c : Ct) (W : WX) (σ : L2.St) (ρ : List Addr) (h : Cs) (H : Hp) (n : Nat) (d : D) (h' : Cs) : Prop :=
  ∀ (H' : Hp) (ρ' : List Addr) (v : V) (dd : Addr), Go ρ h H ρ' h' H' → Rel c ρ' h' H' → RD c ρ' (Live ρ' h') H' d v → H' dd = some (.xd [(c.fld n, v)]) → W (.ref (c.ca n)) (some dd) σ H'
/-- what a reckoning wants of what follows -/
def Wn (c : Ct) (W : WX) (σ : L2.St) (ρ : List Addr) (h : Cs) (H : Hp) {α β : Type} (rel : List Addr → Cs → Hp → α → β → Prop) (r : R α) (Q : β → Hp → Prop) : Prop := match r with
  | .ok a h' => ∀ (b : β) (H' : Hp) (ρ' : List Addr), Go ρ h H ρ' h' H' → Rel c ρ' h' H' → rel ρ' h' H' a b → Q b H'
  | .ex n d h' => ExW c W σ ρ h H n d h'
  | .no _ => False
abbrev rD (c : Ct) : List Addr → Cs → Hp → D → V → Prop := fun ρ h H d v => RD c ρ (Live ρ h) H d v
abbrev rDs (c : Ct) : List Addr → Cs → Hp → List D → List V → Prop := fun ρ h H d v => RDs c ρ (Live ρ h) H d v
abbrev rB : List Addr → Cs → Hp → Bool → Bool → Prop := fun _ _ _ a b => a = b
section
variable {c : Ct} {W : WX} {σ : L2.St} {ρ ρ1 : List Addr} {h h1 : Cs} {H H1 : Hp} {α β α' β' : Type} {rel : List Addr → Cs → Hp → α → β → Prop} {rel' : List Addr → Cs → Hp → α' → β' → Prop}
theorem Wn.go {r : R α} {Q : β → Hp → Prop} (g : Go ρ h H ρ1 h1 H1) (w : Wn c W σ ρ h H rel r Q) : Wn c W σ ρ1 h1 H1 rel r Q := by
  cases r with
  | ok a h' => exact fun b H' ρ' g' => w b H' ρ' (g.trans g')
  | ex n d h' => exact fun H' ρ' v dd g' => w H' ρ' v dd (g.trans g')
  | no _ => exact w
theorem Wn.bind {r : R α} {f : α → Cs → R α'} {Q : β' → Hp → Prop} {P : β → Hp → Prop} (w : Wn c W σ ρ h H rel' (r.bind f) Q)
    (k : ∀ (a : α) (h1 : Cs) (b : β) (H1 : Hp) (ρ1 : List Addr), Go ρ h H ρ1 h1 H1 → Rel c ρ1 h1 H1 → rel ρ1 h1 H1 a b → Wn c W σ ρ1 h1 H1 rel' (f a h1) Q → P b H1) : Wn c W σ ρ h H rel r P := by
  cases r with
  | ok a h' => exact fun b H' ρ' g R q => k a h' b H' ρ' g R q (w.go g)
  | ex n d h' => exact w
  | no _ => exact w
theorem Wn.imp {r : R α} {Q Q' : β → Hp → Prop} (w : Wn c W σ ρ h H rel r Q) (k : ∀ b H', Q b H' → Q' b H') : Wn c W σ ρ h H rel r Q' := by
  cases r with
  | ok a h' => exact fun b H' ρ' g R q => k _ _ (w b H' ρ' g R q)
  | ex n d h' => exact w
  | no _ => exact w
/-- at once -/
theorem Wn.ok {a : α} {b : β} {Q : β → Hp → Prop} (R : Rel c ρ h H) (w : Wn c W σ ρ h H rel (.ok a h) Q) (q : rel ρ h H a b) : Q b H := w b H ρ Go.refl R q
end
section
variable (c : Ct) (G : Nat → D) (F : FT) (W : WX)
/-- the IR's reading of an expression, of a list of them, of a test -/
def tE (ir : E) : TE := fun σ H Q => ∃ ρ h σD, Rel c ρ h H ∧ RelS c ρ h H σD σ ∧ Wn c W σ ρ h H (rD c) (ev G F ir σD h) Q
def tEs (irs : List E) : TA := fun σ H Q => ∃ ρ h σD, Rel c ρ h H ∧ RelS c ρ h H σD σ ∧ Wn c W σ ρ h H (rDs c) (evs G F irs σD h) Q
/-- a test: the truth of what the IR gives -/
def tT (ir : E) : TT := fun σ H Q => ∃ ρ h σD, Rel c ρ h H ∧ RelS c ρ h H σD σ ∧ Wn c W σ ρ h H rB ((ev G F ir σD h).bind fun x h1 => match truth x h1 with | some t => .ok t h1 | none => .no "truth") Q
end
theorem peImp {X : Cx} {e : Expr} {t t' : TE} (h : PE X e t) (i : ∀ σ H Q, t' σ H Q → t σ H Q) : PE X e t' := ⟨fun pins s σ H Q I q => h.run pins s σ H Q I (i σ H Q q)⟩
theorem ptImp {X : Cx} {e : Expr} {t t' : TT} (h : PT X e t) (i : ∀ σ H Q, t' σ H Q → t σ H Q) : PT X e t' := ⟨fun pins s σ H Q I q => h.run pins s σ H Q I (i σ H Q q)⟩
theorem paImp {X : Cx} {e : List Expr} {t t' : TA} (h : PA X e t) (i : ∀ σ H Q, t' σ H Q → t σ H Q) : PA X e t' := ⟨fun pos pins s σ H Q I q => h.run pos pins s σ H Q I (i σ H Q q)⟩
theorem psImp {X : Cx} {e : Stmt} {t t' : TS} (h : PS X e t) (i : ∀ D σ H, t' D σ H → t D σ H) : PS X e t' := ⟨fun pins s σ H D I q => h.run pins s σ H D I (i D σ H q)⟩
theorem pssImp {X : Cx} {e : List Stmt} {t t' : TS} (h : PSs X e t) (i : ∀ D σ H, t' D σ H → t D σ H) : PSs X e t' := ⟨fun pins s σ H D I q => h.run pins s σ H D I (i D σ H q)⟩
section
variable {X : Cx} {n : Nm} {G : Nat → D} {F : FT} {W : WX} {a b d e : Expr} {a' b' d' : E} {es : List Expr} {irs : List E} {pos : Pos}
/-! ### names, constants -/
theorem x_var {i : Nat} {x : Str} (hN : X.N[i]? = some x) (hv : Vis X.env.scope x) (hd : (x == ("__debug__" : Str)) = false) (hcd : (x == ("__classdict__" : Str)) = false) : PE X (.Name x pos) (tE (cx X n) G F W (.v i)) := by
  refine peImp (pe_var (i := i) hN hv hd hcd) fun σ H Q ⟨ρ, h, σD, R, S, w⟩ => ?_
  simp only [ev] at w
  cases e : σD[i]? with
  | none => rw [e] at w; exact w.elim
  | some o =>
    cases o with
    | none => rw [e] at w; exact w.elim
    | some d =>
      rw [e] at w
      obtain ⟨v, e1, r⟩ := S.2 i d e
      exact ⟨v, e1, Wn.ok R w r⟩
theorem x_none {j : Nat} : PE X (.Constant .none j pos) (tE (cx X n) G F W (.k .none)) := peImp pe_non fun σ H Q ⟨ρ, h, σD, R, S, w⟩ => by
  simp only [ev] at w
  exact Wn.ok R w (by simp only [rD, RD, RP])
theorem x_bool {t : Bool} {j : Nat} : PE X (.Constant (.bool t) j pos) (tE (cx X n) G F W (.k (.bool t))) := peImp pe_bl fun σ H Q ⟨ρ, h, σD, R, S, w⟩ => by
  simp only [ev] at w
  exact Wn.ok R w (by simp only [rD, RD, RP])
theorem x_int {i : Int} {j : Nat} : PE X (.Constant (.int i) j pos) (tE (cx X n) G F W (.k (.int i))) := peImp pe_int fun σ H Q ⟨ρ, h, σD, R, S, w⟩ => by
  simp only [ev] at w
  exact Wn.ok R w (by simp only [rD, RD, RP])
theorem x_str {x : Str} {j : Nat} : PE X (.Constant (.str x) j pos) (tE (cx X n) G F W (.k (.str x))) := peImp pe_str fun σ H Q ⟨ρ, h, σD, R, S, w⟩ => by
  simp only [ev] at w
  exact Wn.ok R w (by simp only [rD, RD, RP])
/-- a module's constant -/
theorem x_glob {i : Nat} {x : Str} {v : V} {u : Value} (hg : Gl X x) (hm : X.mg x = some u) (r : RelV v u) (hd : (x == ("__debug__" : Str)) = false)
    (q : ∀ (ρ : List Addr) (L : Addr → Prop) (H : Hp), RD (cx X n) ρ L H (G i) v) : PE X (.Name x pos) (tE (cx X n) G F W (.g i)) :=
  peImp (pe_glob hg hm r hd) fun σ H Q ⟨ρ, h, σD, R, S, w⟩ => by
    simp only [ev] at w
    exact Wn.ok R w (q _ _ _)
/-- a def's name as a value -/
theorem x_fn {f : Nat} {x : Str} (hg : Gl X x) (hm : X.mg x = some (.ref (n.fa f))) (hd : (x == ("__debug__" : Str)) = false) : PE X (.Name x pos) (tE (cx X n) G F W (.fv f)) :=
  peImp (pe_glob (v := .ref (n.fa f)) hg hm rfl hd) fun σ H Q ⟨ρ, h, σD, R, S, w⟩ => by
    simp only [ev] at w
    exact Wn.ok R w (by simp only [rD, RD])
/-! ### two places -/
/-- an operator's reading by the evaluator's function -/
def rOp (c : Ct) (f : D → D → Cs → Option D) : R2 := fun x y H Q => ∃ ρ h da db d, Rel c ρ h H ∧ RD c ρ (Live ρ h) H da x ∧ RD c ρ (Live ρ h) H db y ∧ f da db h = some d ∧
  ∀ (v : V) (H' : Hp) (ρ' : List Addr), Go ρ h H ρ' h H' → Rel c ρ' h H' → RD c ρ' (Live ρ' h) H' d v → Q v H'
theorem x_bin {o : BO} {op : Operator} (ho : OpR X (binaryOp op) (rOp (cx X n) (binop o))) (ha : PE X a (tE (cx X n) G F W a')) (hb : PE X b (tE (cx X n) G F W b')) : PE X (.BinOp a op b pos) (tE (cx X n) G F W (.bin o a' b')) :=
  peImp (pe_op ho ha hb) fun σ H Q ⟨ρ, h, σD, R, S, w⟩ => by
    simp only [ev] at w
    refine ⟨ρ, h, σD, R, S, w.bind fun da h1 x H1 ρ1 g1 R1 r1 w1 => ⟨ρ1, h1, σD, R1, g1.relS S, w1.bind fun db h2 y H2 ρ2 g2 R2 r2 w2 => ?_⟩⟩
    cases e : binop o da db h2 with
    | none => rw [e] at w2; exact w2.elim
    | some d => rw [e] at w2; exact ⟨ρ2, h2, da, db, d, R2, g2.rd r1, r2, e, w2⟩
/-- a comparison -/
def rCmp (c : Ct) (o : CO) : R2 := fun x y H Q => ∃ ρ h da db t, Rel c ρ h H ∧ RD c ρ (Live ρ h) H da x ∧ RD c ρ (Live ρ h) H db y ∧ cmpD o da db h = some t ∧ Q (.bl t) H
theorem x_cmp {o : CO} {op : CmpOp} (ho : OpR X (compareOp op) (rCmp (cx X n) o)) (ha : PE X a (tE (cx X n) G F W a')) (hb : PE X b (tE (cx X n) G F W b')) (hm : behindInMarks op b = false) : PE X (.Compare a [op] [b] pos) (tE (cx X n) G F W (.cmp o a' b')) :=
  peImp (pe_cmpR ho ha hb hm) fun σ H Q ⟨ρ, h, σD, R, S, w⟩ => by
    simp only [ev] at w
    refine ⟨ρ, h, σD, R, S, w.bind fun da h1 x H1 ρ1 g1 R1 r1 w1 => ⟨ρ1, h1, σD, R1, g1.relS S, w1.bind fun db h2 y H2 ρ2 g2 R2 r2 w2 => ?_⟩⟩
    cases e : cmpD o da db h2 with
    | none => rw [e] at w2; exact w2.elim
    | some t => rw [e] at w2; exact ⟨ρ2, h2, da, db, t, R2, g2.rd r1, r2, e, Wn.ok R2 w2 (by simp only [rD, RD, RP])⟩
theorem x_chain {o o' : CO} {op op' : CmpOp} (ho : OpR X (compareOp op) (rCmp (cx X n) o)) (ho' : OpR X (compareOp op') (rCmp (cx X n) o')) (ha : PE X a (tE (cx X n) G F W a')) (hb : PE X b (tE (cx X n) G F W b')) (hd : PE X d (tE (cx X n) G F W d'))
    (hm : lastMarks [op, op'] [b, d] = false) : PE X (.Compare a [op, op'] [b, d] pos) (tE (cx X n) G F W (.chain o o' a' b' d')) :=
  peImp (pe_chain ho ho' ha hb hd hm) fun σ H Q ⟨ρ, h, σD, R, S, w⟩ => by
    simp only [ev] at w
    refine ⟨ρ, h, σD, R, S, w.bind fun da h1 x H1 ρ1 g1 R1 r1 w1 => ⟨ρ1, h1, σD, R1, g1.relS S, w1.bind fun db h2 y H2 ρ2 g2 R2 r2 w2 => ?_⟩⟩
    cases e : cmpD o da db h2 with
    | none => rw [e] at w2; exact w2.elim
    | some t =>
      rw [e] at w2
      refine ⟨ρ2, h2, da, db, t, R2, g2.rd r1, r2, e, t, rfl, ?_⟩
      cases t with
      | false =>
        rw [if_neg (by decide)]
        exact Wn.ok R2 w2 (by simp only [rD, RD, RP])
      | true =>
        rw [if_pos rfl]
        refine ⟨ρ2, h2, σD, R2, (g1.trans g2).relS S, Wn.bind (rel := rD (cx X n)) w2 fun dc h3 z H3 ρ3 g3 R3 r3 w3 => ?_⟩
        cases e3 : cmpD o' db dc h3 with
        | none => rw [e3] at w3; exact w3.elim
        | some t => rw [e3] at w3; exact ⟨ρ3, h3, db, dc, t, R3, g3.rd r2, r3, e3, Wn.ok R3 w3 (by simp only [rD, RD, RP])⟩
/-! ### truth -/
theorem RPs.empty {K : PySem.W.Frag} {L : Addr → Prop} {H : Hp} {xs : List P} {vs : List V} (h : RPs K L H xs vs) : vs.isEmpty = xs.isEmpty := by
  cases xs with
  | nil => simp only [RPs] at h; subst h; rfl
  | cons x r => simp only [RPs] at h; obtain ⟨v, t, rfl, _⟩ := h; rfl
theorem RDs.empty {c : Ct} {ρ : List Addr} {L : Addr → Prop} {H : Hp} {xs : List D} {vs : List V} (h : RDs c ρ L H xs vs) : vs.isEmpty = xs.isEmpty := by
  cases xs with
  | nil => simp only [RDs] at h; subst h; rfl
  | cons x r => simp only [RDs] at h; obtain ⟨v, t, rfl, _⟩ := h; rfl
theorem RKs.empty {c : Ct} {L : Addr → Prop} {H : Hp} {kvs : List (P × P)} {qs : List (Key × V)} (h : RKs c L H kvs qs) : qs.isEmpty = kvs.isEmpty := by
  cases kvs with
  | nil => have h' : qs = [] := h; subst h'; rfl
  | cons x r => obtain ⟨k, v, t, rfl, _⟩ := h; rfl
theorem size_le {k : Nat} (h : sizeOk k = true) : k ≤ sizeLine := by
  have := of_decide_eq_true h
  rw [sizeLine_eq]; omega
theorem truV {c : Ct} {ρ : List Addr} {h : Cs} {H : Hp} {d : D} {x : V} {t : Bool} (R : Rel c ρ h H) (r : RD c ρ (Live ρ h) H d x) (e : truth d h = some t) : TruV c.K x H t := by
  cases d with
  | p y =>
    simp only [RD] at r
    cases y with
    | none => simp only [RP] at r; subst r; simp only [truth, Option.some.injEq] at e; subst e; rfl
    | bool b => simp only [RP] at r; subst r; simp only [truth, Option.some.injEq] at e; subst e; rfl
    | int i => simp only [RP] at r; subst r; simp only [truth, Option.some.injEq] at e; subst e; rfl
    | str z =>
      simp only [RP] at r; subst r
      simp only [truth] at e
      split at e
      · rename_i hs
        simp only [Option.some.injEq] at e; subst e
        refine ⟨size_le hs, ?_⟩
        cases hz : z.length with
        | zero => rfl
        | succ m =>
          have e1 : (m + 1 != 0) = true := by simp
          have e2 : (((m + 1 : Nat) : Int) != 0) = true := by
            rw [bne_iff_ne]; omega
          rw [e1, e2]
      · cases e
    | tuple xs =>
      simp only [RP] at r
      obtain ⟨a, vs, rfl, q, r⟩ := r
      simp only [truth, Option.some.injEq] at e; subst e
      exact .inr (.inl ⟨vs, q.sq, by rw [r.empty]⟩)
    | list xs =>
      simp only [RP] at r
      obtain ⟨a, vs, rfl, q, r⟩ := r
      simp only [truth, Option.some.injEq] at e; subst e
      exact .inl ⟨vs, q.sq, by rw [r.empty]⟩
    | dict _ => simp only [RP] at r
  | fn f => simp [truth] at e
  | tup xs =>
    simp only [RD] at r
    obtain ⟨a, vs, rfl, q, r⟩ := r
    simp only [truth, Option.some.injEq] at e; subst e
    exact .inr (.inl ⟨vs, q.sq, by rw [r.empty]⟩)
  | lst xs =>
    simp only [RD] at r
    obtain ⟨a, vs, rfl, q, r⟩ := r
    simp only [truth, Option.some.injEq] at e; subst e
    exact .inl ⟨vs, q.sq, by rw [r.empty]⟩
  | dct nk kvs =>
    simp [truth] at e
  | exn _ _ _ _ => simp [truth] at e
  | ref k =>
    simp only [RD] at r
    obtain ⟨a, rfl, ea⟩ := r
    simp only [truth] at e
    cases ek : h[k]? with
    | none => rw [ek] at e; cases e
    | some o =>
      have q := R.ob k o a ek ea
      rw [ek] at e
      cases o with
      | lst xs =>
        obtain ⟨vs, e1, r⟩ := q
        simp only [Option.some.injEq] at e; subst e
        exact .inl ⟨vs, SqL.of e1, by rw [r.empty]⟩
      | lsr xs =>
        obtain ⟨vs, e1, r⟩ := q
        simp only [Option.some.injEq] at e; subst e
        exact .inl ⟨vs, SqL.of e1, by rw [r.empty]⟩
      | dct nk kvs =>
        cases nk with
        | true => cases e
        | false =>
          obtain ⟨qs, e1, r, _⟩ := q
          simp only [Option.some.injEq] at e; subst e
          exact .inr (.inr ⟨qs, e1, by rw [r.empty]⟩)
      | exc _ _ => cases e
      | dead => cases e
      | held => cases e
theorem x_andOne {op : BoolOp} (ha : PE X a (tE (cx X n) G F W a')) : PE X (.BoolOp op [a] pos) (tE (cx X n) G F W a') := pe_one ha
theorem x_and {r : List Expr} (ha : PE X a (tE (cx X n) G F W a')) (hb : PE X (.BoolOp .And (b :: r) pos) (tE (cx X n) G F W b')) : PE X (.BoolOp .And (a :: b :: r) pos) (tE (cx X n) G F W (.and a' b')) :=
  peImp (pe_andT ha hb) fun σ H Q ⟨ρ, h, σD, R, S, w⟩ => by
    simp only [ev] at w
    refine ⟨ρ, h, σD, R, S, w.bind fun da h1 x H1 ρ1 g1 R1 r1 w1 => ?_⟩
    cases e : truth da h1 with
    | none => rw [e] at w1; exact w1.elim
    | some t =>
      rw [e] at w1
      refine ⟨t, truV R1 r1 e, ?_⟩
      cases t with
      | true => rw [if_pos rfl]; exact ⟨ρ1, h1, σD, R1, g1.relS S, w1⟩
      | false => rw [if_neg (by decide)]; exact Wn.ok R1 w1 r1
theorem x_or {r : List Expr} (ha : PE X a (tE (cx X n) G F W a')) (hb : PE X (.BoolOp .Or (b :: r) pos) (tE (cx X n) G F W b')) : PE X (.BoolOp .Or (a :: b :: r) pos) (tE (cx X n) G F W (.or a' b')) :=
  peImp (pe_orT ha hb) fun σ H Q ⟨ρ, h, σD, R, S, w⟩ => by
    simp only [ev] at w
    refine ⟨ρ, h, σD, R, S, w.bind fun da h1 x H1 ρ1 g1 R1 r1 w1 => ?_⟩
    cases e : truth da h1 with
    | none => rw [e] at w1; exact w1.elim
    | some t =>
      rw [e] at w1
      refine ⟨t, truV R1 r1 e, ?_⟩
      cases t with
      | true => rw [if_pos rfl]; exact Wn.ok R1 w1 r1
      | false => rw [if_neg (by decide)]; exact ⟨ρ1, h1, σD, R1, g1.relS S, w1⟩
theorem x_not (ha : PE X a (tE (cx X n) G F W a')) : PE X (.UnaryOp .Not a pos) (tE (cx X n) G F W (.not a')) :=
  peImp (pe_notT ha) fun σ H Q ⟨ρ, h, σD, R, S, w⟩ => by
    simp only [ev] at w
    refine ⟨ρ, h, σD, R, S, w.bind fun da h1 x H1 ρ1 g1 R1 r1 w1 => ?_⟩
    cases e : truth da h1 with
    | none => rw [e] at w1; exact w1.elim
    | some t => rw [e] at w1; exact ⟨t, truV R1 r1 e, Wn.ok R1 w1 (by simp only [rD, RD, RP])⟩
/-! ### tests -/
/-- whatever an expression is, its test is its value's truth -/
theorem t_truth (ha : PE X a (tE (cx X n) G F W a')) (he : ∀ whole, isTrue a X.env whole = (do let v ← whole; standAt a.pos; holding [v] (truthy v))) : PT X a (tT (cx X n) G F W a') :=
  ptImp (pt_truth ha he) fun σ H Q ⟨ρ, h, σD, R, S, w⟩ => by
    refine ⟨ρ, h, σD, R, S, w.bind fun da h1 x H1 ρ1 g1 R1 r1 w1 => ?_⟩
    cases e : truth da h1 with
    | none => rw [e] at w1; exact w1.elim
    | some t => rw [e] at w1; exact ⟨t, truV R1 r1 e, Wn.ok R1 w1 rfl⟩
theorem bindAssoc {α β γ : Type} (r : R α) (f : α → Cs → R β) (g : β → Cs → R γ) : (r.bind f).bind g = r.bind fun a h => (f a h).bind g := by cases r <;> rfl
theorem t_cmp {o : CO} {op : CmpOp} (ho : OpR X (compareOp op) (rCmp (cx X n) o)) (ha : PE X a (tE (cx X n) G F W a')) (hb : PE X b (tE (cx X n) G F W b')) (hm : behindInMarks op b = false) : PT X (.Compare a [op] [b] pos) (tT (cx X n) G F W (.cmp o a' b')) :=
  ptImp (pt_cmpR ho ha hb hm) fun σ H Q ⟨ρ, h, σD, R, S, w⟩ => by
    simp only [ev, bindAssoc] at w
    refine ⟨ρ, h, σD, R, S, w.bind fun da h1 x H1 ρ1 g1 R1 r1 w1 => ⟨ρ1, h1, σD, R1, g1.relS S, w1.bind fun db h2 y H2 ρ2 g2 R2 r2 w2 => ?_⟩⟩
    cases e : cmpD o da db h2 with
    | none => rw [e] at w2; exact w2.elim
    | some t => rw [e] at w2; exact ⟨ρ2, h2, da, db, t, R2, g2.rd r1, r2, e, t, rfl, Wn.ok R2 w2 rfl⟩
theorem t_chain {o o' : CO} {op op' : CmpOp} (ho : OpR X (compareOp op) (rCmp (cx X n) o)) (ho' : OpR X (compareOp op') (rCmp (cx X n) o')) (ha : PE X a (tE (cx X n) G F W a')) (hb : PE X b (tE (cx X n) G F W b')) (hd : PE X d (tE (cx X n) G F W d'))
    (hm : lastMarks [op, op'] [b, d] = false) : PT X (.Compare a [op, op'] [b, d] pos) (tT (cx X n) G F W (.chain o o' a' b' d')) :=
  ptImp (pt_chain ho ho' ha hb hd hm) fun σ H Q ⟨ρ, h, σD, R, S, w⟩ => by
    simp only [ev, bindAssoc] at w
    refine ⟨ρ, h, σD, R, S, w.bind fun da h1 x H1 ρ1 g1 R1 r1 w1 => ⟨ρ1, h1, σD, R1, g1.relS S, w1.bind fun db h2 y H2 ρ2 g2 R2 r2 w2 => ?_⟩⟩
    cases e : cmpD o da db h2 with
    | none => rw [e] at w2; exact w2.elim
    | some t =>
      rw [e] at w2
      refine ⟨ρ2, h2, da, db, t, R2, g2.rd r1, r2, e, t, rfl, ?_⟩
      cases t with
      | false =>
        rw [if_neg (by decide)]
        exact ⟨false, rfl, Wn.ok R2 w2 rfl⟩
      | true =>
        rw [if_pos rfl]
        simp only [bindAssoc] at w2
        refine ⟨ρ2, h2, σD, R2, (g1.trans g2).relS S, Wn.bind (rel := rD (cx X n)) w2 fun dc h3 z H3 ρ3 g3 R3 r3 w3 => ?_⟩
        cases e3 : cmpD o' db dc h3 with
        | none => rw [e3] at w3; exact w3.elim
        | some t => rw [e3] at w3; exact ⟨ρ3, h3, db, dc, t, R3, g3.rd r2, r3, e3, t, rfl, Wn.ok R3 w3 rfl⟩
theorem t_andOne (ha : PT X a (tT (cx X n) G F W a')) : PW X (.BoolOp .And [a] pos) (tT (cx X n) G F W a') := pw_and1 ha
theorem t_orOne (ha : PT X a (tT (cx X n) G F W a')) : PW X (.BoolOp .Or [a] pos) (tT (cx X n) G F W a') := pw_or1 ha
theorem pwImp {t t' : TT} (h : PW X e t) (i : ∀ σ H Q, t' σ H Q → t σ H Q) : PW X e t' := ⟨fun wh pins s σ H Q I q => h.run wh pins s σ H Q I (i σ H Q q)⟩
/-- the truth of an expression, split by what stands under it -/
theorem tT_and {σ : L2.St} {H : Hp} {Q : Bool → Hp → Prop} (w : tT (cx X n) G F W (.and a' b') σ H Q) : tAnd (tT (cx X n) G F W a') (tT (cx X n) G F W b') σ H Q := by
  obtain ⟨ρ, h, σD, R, S, w⟩ := w
  simp only [ev, bindAssoc] at w
  refine ⟨ρ, h, σD, R, S, ?_⟩
  cases ea : ev G F a' σD h with
  | no _ => rw [ea] at w; exact w
  | ex _ _ _ => rw [ea] at w; exact w
  | ok da h1 =>
    rw [ea] at w
    have w' : Wn (cx X n) W σ ρ h H rB ((match truth da h1 with | some true => ev G F b' σD h1 | some false => Pd.R.ok da h1 | none => Pd.R.no "and").bind fun x h1 => match truth x h1 with | some t => Pd.R.ok t h1 | none => Pd.R.no "truth") Q := w
    show Wn (cx X n) W σ ρ h H rB (match truth da h1 with | some t => Pd.R.ok t h1 | none => Pd.R.no "truth") _
    cases e : truth da h1 with
    | none => rw [e] at w'; exact w'
    | some t =>
      rw [e] at w'
      intro c H1 ρ1 g1 R1 ec
      have ec' : t = c := ec
      subst ec'
      cases t with
      | true => rw [if_pos rfl]; exact ⟨ρ1, h1, σD, R1, g1.relS S, w'.go g1⟩
      | false =>
        rw [if_neg (by decide)]
        have w2 : Wn (cx X n) W σ ρ h H rB (match truth da h1 with | some t => Pd.R.ok t h1 | none => Pd.R.no "truth") Q := w'
        rw [e] at w2
        exact w2 _ _ _ g1 R1 rfl
theorem tT_or {σ : L2.St} {H : Hp} {Q : Bool → Hp → Prop} (w : tT (cx X n) G F W (.or a' b') σ H Q) : tOr (tT (cx X n) G F W a') (tT (cx X n) G F W b') σ H Q := by
  obtain ⟨ρ, h, σD, R, S, w⟩ := w
  simp only [ev, bindAssoc] at w
  refine ⟨ρ, h, σD, R, S, ?_⟩
  cases ea : ev G F a' σD h with
  | no _ => rw [ea] at w; exact w
  | ex _ _ _ => rw [ea] at w; exact w
  | ok da h1 =>
    rw [ea] at w
    have w' : Wn (cx X n) W σ ρ h H rB ((match truth da h1 with | some true => Pd.R.ok da h1 | some false => ev G F b' σD h1 | none => Pd.R.no "or").bind fun x h1 => match truth x h1 with | some t => Pd.R.ok t h1 | none => Pd.R.no "truth") Q := w
    show Wn (cx X n) W σ ρ h H rB (match truth da h1 with | some t => Pd.R.ok t h1 | none => Pd.R.no "truth") _
    cases e : truth da h1 with
    | none => rw [e] at w'; exact w'
    | some t =>
      rw [e] at w'
      intro c H1 ρ1 g1 R1 ec
      have ec' : t = c := ec
      subst ec'
      cases t with
      | true =>
        rw [if_pos rfl]
        have w2 : Wn (cx X n) W σ ρ h H rB (match truth da h1 with | some t => Pd.R.ok t h1 | none => Pd.R.no "truth") Q := w'
        rw [e] at w2
        exact w2 _ _ _ g1 R1 rfl
      | false => rw [if_neg (by decide)]; exact ⟨ρ1, h1, σD, R1, g1.relS S, w'.go g1⟩
theorem t_and {r : List Expr} (ha : PT X a (tT (cx X n) G F W a')) (hb : PW X (.BoolOp .And (b :: r) pos) (tT (cx X n) G F W b')) : PW X (.BoolOp .And (a :: b :: r) pos) (tT (cx X n) G F W (.and a' b')) := pwImp (pw_and ha hb) fun _ _ _ => tT_and
theorem t_or {r : List Expr} (ha : PT X a (tT (cx X n) G F W a')) (hb : PW X (.BoolOp .Or (b :: r) pos) (tT (cx X n) G F W b')) : PW X (.BoolOp .Or (a :: b :: r) pos) (tT (cx X n) G F W (.or a' b')) := pwImp (pw_or ha hb) fun _ _ _ => tT_or
theorem t_not (ha : PT X a (tT (cx X n) G F W a')) : PT X (.UnaryOp .Not a pos) (tT (cx X n) G F W (.not a')) :=
  ptImp (pt_not ha) fun σ H Q ⟨ρ, h, σD, R, S, w⟩ => by
    simp only [ev, bindAssoc] at w
    refine ⟨ρ, h, σD, R, S, ?_⟩
    cases ea : ev G F a' σD h with
    | no _ => rw [ea] at w; exact w
    | ex _ _ _ => rw [ea] at w; exact w
    | ok da h1 =>
      rw [ea] at w
      have w' : Wn (cx X n) W σ ρ h H rB ((match truth da h1 with | some c => Pd.R.ok (D.p (.bool (!c))) h1 | none => Pd.R.no "not").bind fun x h1 => match truth x h1 with | some t => Pd.R.ok t h1 | none => Pd.R.no "truth") Q := w
      show Wn (cx X n) W σ ρ h H rB (match truth da h1 with | some t => Pd.R.ok t h1 | none => Pd.R.no "truth") _
      cases e : truth da h1 with
      | none => rw [e] at w'; exact w'
      | some t =>
        rw [e] at w'
        intro c H1 ρ1 g1 R1 ec
        have ec' : t = c := ec
        subst ec'
        exact w' _ _ _ g1 R1 rfl
/-- a if c else b -/
theorem x_ite (hc : PT X d (tT (cx X n) G F W d')) (ha : PE X a (tE (cx X n) G F W a')) (hb : PE X b (tE (cx X n) G F W b')) : PE X (.IfExp d a b pos) (tE (cx X n) G F W (.ite d' a' b')) :=
  peImp (pe_ifExp hc ha hb) fun σ H Q ⟨ρ, h, σD, R, S, w⟩ => by
    simp only [ev] at w
    refine ⟨ρ, h, σD, R, S, ?_⟩
    cases ea : ev G F d' σD h with
    | no _ => rw [ea] at w; exact w
    | ex _ _ _ => rw [ea] at w; exact w
    | ok da h1 =>
      rw [ea] at w
      have w' : Wn (cx X n) W σ ρ h H (rD (cx X n)) (match truth da h1 with | some true => ev G F a' σD h1 | some false => ev G F b' σD h1 | none => Pd.R.no "ite") Q := w
      show Wn (cx X n) W σ ρ h H rB (match truth da h1 with | some t => Pd.R.ok t h1 | none => Pd.R.no "truth") _
      cases e : truth da h1 with
      | none => rw [e] at w'; exact w'
      | some t =>
        rw [e] at w'
        intro c H1 ρ1 g1 R1 ec
        have ec' : t = c := ec
        subst ec'
        cases t with
        | true => rw [if_pos rfl]; exact ⟨ρ1, h1, σD, R1, g1.relS S, w'.go g1⟩
        | false => rw [if_neg (by decide)]; exact ⟨ρ1, h1, σD, R1, g1.relS S, w'.go g1⟩
theorem t_ite (hc : PT X d (tT (cx X n) G F W d')) (ha : PT X a (tT (cx X n) G F W a')) (hb : PT X b (tT (cx X n) G F W b')) : PT X (.IfExp d a b pos) (tT (cx X n) G F W (.ite d' a' b')) := by
  refine ⟨fun pins s σ H Q I w => ?_⟩
  refine isTrue_IfExp (thn (hc.run pins s σ H (fun t H1 => if t = true then tT (cx X n) G F W a' σ H1 Q else tT (cx X n) G F W b' σ H1 Q) I ?_) fun t s1 ⟨H1, I1, q1⟩ => ?_)
  · obtain ⟨ρ, h, σD, R, S, w⟩ := w
    simp only [ev, bindAssoc] at w
    refine ⟨ρ, h, σD, R, S, ?_⟩
    cases ea : ev G F d' σD h with
    | no _ => rw [ea] at w; exact w
    | ex _ _ _ => rw [ea] at w; exact w
    | ok da h1 =>
      rw [ea] at w
      have w' : Wn (cx X n) W σ ρ h H rB ((match truth da h1 with | some true => ev G F a' σD h1 | some false => ev G F b' σD h1 | none => Pd.R.no "ite").bind fun x h1 => match truth x h1 with | some t => Pd.R.ok t h1 | none => Pd.R.no "truth") Q := w
      show Wn (cx X n) W σ ρ h H rB (match truth da h1 with | some t => Pd.R.ok t h1 | none => Pd.R.no "truth") _
      cases e : truth da h1 with
      | none => rw [e] at w'; exact w'
      | some t =>
        rw [e] at w'
        intro c H1 ρ1 g1 R1 ec
        have ec' : t = c := ec
        subst ec'
        cases t with
        | true => rw [if_pos rfl]; exact ⟨ρ1, h1, σD, R1, g1.relS S, w'.go g1⟩
        | false => rw [if_neg (by decide)]; exact ⟨ρ1, h1, σD, R1, g1.relS S, w'.go g1⟩
  · cases t with
    | true => rw [if_pos rfl] at q1; exact ha.run pins s1 σ H1 Q I1 q1
    | false => rw [if_neg (by decide)] at q1; exact hb.run pins s1 σ H1 Q I1 q1
end
end Pd
end
section
/-! PdY: displays, calls of defs. -/
namespace Pd
open PySem PySem.Spec PyProof.Rows L2
section
variable {c : Ct} {ρ : List Addr} {L : Addr → Prop} {H : Hp}
theorem RPs.length : ∀ {xs : List P} {vs : List V}, RPs c.K L H xs vs → vs.length = xs.length
  | [], vs, h => by simp only [RPs] at h; subst h; rfl
  | x :: xs, vs, h => by
    simp only [RPs] at h
    obtain ⟨v, r, rfl, _, t⟩ := h
    simp [RPs.length t]
theorem RDs.length : ∀ {xs : List D} {vs : List V}, RDs c ρ L H xs vs → vs.length = xs.length
  | [], vs, h => by simp only [RDs] at h; subst h; rfl
  | x :: xs, vs, h => by
    simp only [RDs] at h
    obtain ⟨v, r, rfl, _, t⟩ := h
    simp [RDs.length t]
theorem RDs.nil : RDs c ρ L H [] [] := by simp only [RDs]
theorem RDs.cons {x : D} {xs : List D} {v : V} {vs : List V} (h : RD c ρ L H x v) (t : RDs c ρ L H xs vs) : RDs c ρ L H (x :: xs) (v :: vs) := by
  simp only [RDs]; exact ⟨v, vs, rfl, h, t⟩
theorem RDs.cons_inv {x : D} {xs : List D} {vs : List V} (h : RDs c ρ L H (x :: xs) vs) : ∃ v r, vs = v :: r ∧ RD c ρ L H x v ∧ RDs c ρ L H xs r := by
  simp only [RDs] at h; exact h
theorem RPs.cons {x : P} {xs : List P} {v : V} {vs : List V} (h : RP c.K L H x v) (t : RPs c.K L H xs vs) : RPs c.K L H (x :: xs) (v :: vs) := by
  simp only [RPs]; exact ⟨v, vs, rfl, h, t⟩
theorem RPs.nil : RPs c.K L H [] [] := by simp only [RPs]
theorem RDs.ofP : ∀ {xs : List P} {vs : List V}, RPs c.K L H xs vs → RDs c ρ L H (xs.map D.p) vs
  | [], vs, h => by simp only [RPs] at h; subst h; exact RDs.nil
  | x :: xs, vs, h => by
    simp only [RPs] at h
    obtain ⟨v, r, rfl, h1, t⟩ := h
    exact RDs.cons (by simp only [RD]; exact h1) (RDs.ofP t)
theorem RDs.unP : ∀ {xs : List D} {vs : List V} {ps : List P}, RDs c ρ L H xs vs → unP xs = some ps → RPs c.K L H ps vs
  | [], vs, ps, h, e => by
    simp only [Pd.unP, Option.some.injEq] at e; subst e
    simp only [RDs] at h; subst h
    exact RPs.nil
  | x :: xs, vs, ps, h, e => by
    simp only [RDs] at h
    obtain ⟨v, r, rfl, h1, t⟩ := h
    cases x with
    | p x =>
      simp only [Pd.unP, Option.map_eq_some_iff] at e
      obtain ⟨qs, e1, rfl⟩ := e
      simp only [RD] at h1
      exact RPs.cons h1 (RDs.unP t e1)
    | _ => simp [Pd.unP] at e
theorem unP_map : ∀ (xs : List P), unP (xs.map D.p) = some xs
  | [] => rfl
  | x :: xs => by simp [unP, unP_map xs]
/-- the items of what is a tuple -/
theorem RD.mkTup {a : Addr} {xs : List D} {vs : List V} (q : FTup c.K L H a vs) (r : RDs c ρ L H xs vs) : RD c ρ L H (mkTup xs) (.ref a) := by
  unfold Pd.mkTup
  cases e : unP xs with
  | some ps => simp only [RD, RP]; exact ⟨a, vs, rfl, q, r.unP e⟩
  | none => simp only [RD]; exact ⟨a, vs, rfl, q, r⟩
theorem RD.mkLst {a : Addr} {xs : List D} {vs : List V} (q : FLst c.K L H a vs) (r : RDs c ρ L H xs vs) : RD c ρ L H (mkLst xs) (.ref a) := by
  unfold Pd.mkLst
  cases e : unP xs with
  | some ps => simp only [RD, RP]; exact ⟨a, vs, rfl, q, r.unP e⟩
  | none => simp only [RD]; exact ⟨a, vs, rfl, q, r⟩
end
section
variable {c : Ct} {ρ : List Addr} {h : Cs} {H : Hp}
/-- a new frozen tuple, a new frozen list -/
theorem Rel.newTup (R : Rel c ρ h H) {p : Addr} {xs : List D} {vs : List V} (hp : H p = none) (r : RDs c ρ (Live ρ h) H xs vs) :
    Rel c ρ h (upd H p (.tup vs)) ∧ Go ρ h H ρ h (upd H p (.tup vs)) ∧ RD c ρ (Live ρ h) (upd H p (.tup vs)) (mkTup xs) (.ref p) := by
  obtain ⟨R1, g⟩ := R.new (o := .tup vs) hp
  exact ⟨R1, g, RD.mkTup (.inl ⟨.inl upd_same, R.not_live hp⟩) (g.rds r)⟩
theorem Rel.newLst (R : Rel c ρ h H) {p : Addr} {xs : List D} {vs : List V} (hp : H p = none) (r : RDs c ρ (Live ρ h) H xs vs) :
    Rel c ρ h (upd H p (.lst vs)) ∧ Go ρ h H ρ h (upd H p (.lst vs)) ∧ RD c ρ (Live ρ h) (upd H p (.lst vs)) (mkLst xs) (.ref p) := by
  obtain ⟨R1, g⟩ := R.new (o := .lst vs) hp
  exact ⟨R1, g, RD.mkLst (.inl ⟨.inl upd_same, R.not_live hp⟩) (g.rds r)⟩
/-- a new list, live or not -/
theorem Rel.listD (R : Rel c ρ h H) {live : Bool} {p : Addr} {xs : List D} {vs : List V} (hp : H p = none) (r : RDs c ρ (Live ρ h) H xs vs) :
    ∃ ρ', Rel c ρ' (Pd.listD live xs h).2 (upd H p (.lst vs)) ∧ Go ρ h H ρ' (Pd.listD live xs h).2 (upd H p (.lst vs)) ∧ RD c ρ' (Live ρ' (Pd.listD live xs h).2) (upd H p (.lst vs)) (Pd.listD live xs h).1 (.ref p) := by
  cases live with
  | false =>
    obtain ⟨R1, g, q⟩ := R.newLst hp r
    exact ⟨ρ, R1, g, q⟩
  | true =>
    have al : (Pd.newLst xs).alive = true := by unfold Pd.newLst; cases unP xs <;> rfl
    obtain ⟨R1, g⟩ := R.alloc (o := .lst vs) hp al fun L' H' st e => by
      unfold Pd.newLst
      have r' : RDs c (ρ ++ [p]) L' H' xs vs := RDs.stay (List.prefix_append _ _) st _ _ r
      cases e1 : unP xs with
      | some ps => exact ⟨vs, e, r'.unP e1⟩
      | none => exact ⟨vs, e, r'⟩
    refine ⟨ρ ++ [p], R1, g, ?_⟩
    show RD c (ρ ++ [p]) _ _ (.ref h.length) (.ref p)
    simp only [RD]
    exact ⟨p, rfl, by rw [← R.len]; simp⟩
/-! ### cells that go -/
theorem take_get {α : Type} {l : List α} {n k : Nat} {a : α} (e : (l.take n)[k]? = some a) : k < n ∧ l[k]? = some a := by
  rw [List.getElem?_take] at e
  split at e
  · exact ⟨by assumption, e⟩
  · cases e
theorem Live.take {n : Nat} {a : Addr} (l : Live (ρ.take n) (h.take n) a) : Live ρ h a := by
  obtain ⟨k, o, e1, e2, al⟩ := l
  exact ⟨k, o, (take_get e1).2, (take_get e2).2, al⟩
mutual
theorem RD.low {n : Nat} {L L' : Addr → Prop} (s : ∀ a, L' a → L a) : ∀ (d : D) (v : V), d.low n = true → RD c ρ L H d v → RD c (ρ.take n) L' H d v
  | .p x, v, _, r => by
    have st : Stay L H L' H := fun a o _ e k => ⟨e, fun z => k (s a z)⟩
    simp only [RD] at r ⊢; exact RP.stay st _ _ r
  | .fn f, v, _, r => by simp only [RD] at r ⊢; exact r
  | .ref k, v, hl, r => by
    simp only [RD] at r ⊢
    obtain ⟨a, e, q⟩ := r
    have hk : k < n := of_decide_eq_true (by simpa only [D.low] using hl)
    exact ⟨a, e, by rw [List.getElem?_take, if_pos hk]; exact q⟩
  | .tup xs, v, hl, r => by
    have st : Stay L H L' H := fun a o _ e k => ⟨e, fun z => k (s a z)⟩
    simp only [RD] at r ⊢
    simp only [D.low] at hl
    obtain ⟨a, vs, e, q, r⟩ := r
    exact ⟨a, vs, e, FTup.stay st q, RDs.low s xs vs hl r⟩
  | .lst xs, v, hl, r => by
    have st : Stay L H L' H := fun a o _ e k => ⟨e, fun z => k (s a z)⟩
    simp only [RD] at r ⊢
    simp only [D.low] at hl
    obtain ⟨a, vs, e, q, r⟩ := r
    exact ⟨a, vs, e, FLst.stay st q, RDs.low s xs vs hl r⟩
  | .dct nk kvs, v, _, r => by
    have st : Stay L H L' H := fun a o _ e k => ⟨e, fun z => k (s a z)⟩
    simp only [RD] at r ⊢
    obtain ⟨a, e, k, q⟩ := r
    exact ⟨a, e, fun z => k (s a z), q.stayAt st fun _ _ e => e⟩
  | .exn cl f m x, v, _, r => by
    have st : Stay L H L' H := fun a o _ e k => ⟨e, fun z => k (s a z)⟩
    simp only [RD] at r ⊢
    obtain ⟨a, t1, dx, u, e, q1, q2, q3, q4⟩ := r
    exact ⟨a, t1, dx, u, e, st a _ plain_exA q1.1 q1.2, st t1 _ plain_tup q2.1 q2.2, st dx _ plain_exd q3.1 q3.2, RP.stay st x u q4⟩
theorem RDs.low {n : Nat} {L L' : Addr → Prop} (s : ∀ a, L' a → L a) : ∀ (ds : List D) (vs : List V), D.lows n ds = true → RDs c ρ L H ds vs → RDs c (ρ.take n) L' H ds vs
  | [], vs, _, r => by simp only [RDs] at r ⊢; exact r
  | d :: ds, vs, hl, r => by
    simp only [D.lows, Bool.and_eq_true] at hl
    simp only [RDs] at r ⊢
    obtain ⟨v, t, e, r1, r2⟩ := r
    exact ⟨v, t, e, RD.low s d v hl.1 r1, RDs.low s ds t hl.2 r2⟩
end
theorem Rel.take (R : Rel c ρ h H) {n : Nat} (hl : (h.take n).all (MO.low n) = true) : Rel c (ρ.take n) (h.take n) H where
  len := by simp [R.len]
  ob := fun k o a e1 e2 => by
    have q := R.ob k o a (take_get e1).2 (take_get e2).2
    have lo : o.low n = true := List.all_eq_true.mp hl o (List.mem_of_getElem? e1)
    have s : ∀ a, Live (ρ.take n) (h.take n) a → Live ρ h a := fun a l => l.take
    have st : Stay (Live ρ h) H (Live (ρ.take n) (h.take n)) H := fun a o _ e k => ⟨e, fun z => k (s a z)⟩
    cases o with
    | lst xs => obtain ⟨vs, e, r⟩ := q; exact ⟨vs, e, RPs.stay st _ _ r⟩
    | lsr xs => obtain ⟨vs, e, r⟩ := q; exact ⟨vs, e, RDs.low s _ _ lo r⟩
    | dct nk kvs =>
      have q' : RDct c (Live ρ h) H (fun o => H a = Option.some o) a nk kvs := q
      exact RDct.stayAt st q' fun _ _ e => e
    | exc _ _ => exact q
    | dead => trivial
    | held => exact q
  inj := fun j k a o u e1 e2 e3 e4 l1 l2 => R.inj j k a o u (take_get e1).2 (take_get e2).2 (take_get e3).2 (take_get e4).2 l1 l2
theorem take_pre {α : Type} {l l' : List α} (p : l <+: l') : l'.take l.length = l := by
  obtain ⟨t, rfl⟩ := p
  simp
/-- what lies behind a call, without the cells that nobody holds -/
theorem Rel.trim {ρ' : List Addr} {h' : Cs} {H' : Hp} (R0 : Rel c ρ h H) (g : Go ρ h H ρ' h' H') (R : Rel c ρ' h' H') {d : D} {v : V} (r : RD c ρ' (Live ρ' h') H' d v) :
    ∃ ρ2, Rel c ρ2 (Pd.trim h.length d h') H' ∧ Go ρ h H ρ2 (Pd.trim h.length d h') H' ∧ RD c ρ2 (Live ρ2 (Pd.trim h.length d h')) H' d v := by
  unfold Pd.trim
  cases e : (d.low h.length && (h'.take h.length).all (MO.low h.length)) with
  | false => exact ⟨ρ', R, g, r⟩
  | true =>
    rw [Bool.and_eq_true] at e
    refine ⟨ρ'.take h.length, R.take e.2, ⟨?_, fun a o q k => ⟨(g.stay a o q k).1, fun z => (g.stay a o q k).2 z.take⟩, fun k a e1 e2 => ?_⟩, RD.low (fun a z => z.take) _ _ e.1 r⟩
    · rw [← R0.len, take_pre g.pre]
      exact List.prefix_refl _
    · obtain ⟨e3, e4⟩ := g.held k a e1 e2
      exact ⟨by rw [List.getElem?_take, if_pos (List.getElem?_eq_some_iff.mp e1).1]; exact e3, e4⟩
theorem Wn.trim {W : WX} {σ : L2.St} {r : R D} {Q : VK} (R0 : Rel c ρ h H) (w : Wn c W σ ρ h H (rD c) (trimR h.length r) Q) : Wn c W σ ρ h H (rD c) r Q := by
  cases r with
  | ok d h' => exact fun v H' ρ' g R q => let ⟨ρ2, R2, g2, q2⟩ := R0.trim g R q; w v H' ρ2 g2 R2 q2
  | ex n d h' => exact w
  | no _ => exact w
end
/-! ### argument lists, displays -/
section
variable {X : Cx} {n : Nm} {G : Nat → D} {F : FT} {W : WX} {a b d e : Expr} {a' b' d' : E} {es : List Expr} {irs : List E} {pos : Pos}
theorem xs_nil : PA X [] (tEs (cx X n) G F W []) := paImp pa_nil fun σ H Q ⟨ρ, h, σD, R, S, w⟩ => by
  simp only [evs] at w
  exact Wn.ok R w RDs.nil
theorem xs_cons (ha : PE X a (tE (cx X n) G F W a')) (hr : PA X es (tEs (cx X n) G F W irs)) (hs : starEach (a :: es) X.env = (false, eval a X.env) :: starEach es X.env) : PA X (a :: es) (tEs (cx X n) G F W (a' :: irs)) :=
  paImp (pa_cons ha hr hs) fun σ H Q ⟨ρ, h, σD, R, S, w⟩ => by
    simp only [evs] at w
    refine ⟨ρ, h, σD, R, S, w.bind fun da h1 x H1 ρ1 g1 R1 r1 w1 => ⟨ρ1, h1, σD, R1, g1.relS S, w1.bind fun ds h2 xs H2 ρ2 g2 R2 r2 w2 => ?_⟩⟩
    exact Wn.ok R2 w2 (RDs.cons (g2.rd r1) r2)
theorem evs_length : ∀ {irs : List E} {σD : Sg} {h h' : Cs} {ds : List D}, evs G F irs σD h = .ok ds h' → ds.length = irs.length
  | [], _, _, _, _, e => by simp only [evs, R.ok.injEq] at e; obtain ⟨rfl, _⟩ := e; rfl
  | ir :: irs, σD, h, h', ds, e => by
    simp only [evs] at e
    cases e1 : ev G F ir σD h with
    | ok d h1 =>
      rw [e1] at e
      simp only [R.bind] at e
      cases e2 : evs G F irs σD h1 with
      | ok ds2 h2 =>
        rw [e2] at e
        simp only [R.ok.injEq] at e
        obtain ⟨rfl, _⟩ := e
        simp [evs_length e2]
      | ex _ _ _ => rw [e2] at e; cases e
      | no _ => rw [e2] at e; cases e
    | ex _ _ _ => rw [e1] at e; cases e
    | no _ => rw [e1] at e; cases e
/-- bind, with the equation -/
theorem Wn.bindE {c : Ct} {σ : L2.St} {ρ : List Addr} {h : Cs} {H : Hp} {α β α' β' : Type} {rel : List Addr → Cs → Hp → α → β → Prop} {rel' : List Addr → Cs → Hp → α' → β' → Prop} {r : R α} {f : α → Cs → R α'} {Q : β' → Hp → Prop} {P : β → Hp → Prop} (w : Wn c W σ ρ h H rel' (r.bind f) Q)
    (k : ∀ (a : α) (h1 : Cs) (b : β) (H1 : Hp) (ρ1 : List Addr), r = .ok a h1 → Go ρ h H ρ1 h1 H1 → Rel c ρ1 h1 H1 → rel ρ1 h1 H1 a b → Wn c W σ ρ1 h1 H1 rel' (f a h1) Q → P b H1) : Wn c W σ ρ h H rel r P := by
  cases r with
  | ok a h' => exact fun b H' ρ' g R q => k a h' b H' ρ' rfl g R q (w.go g)
  | ex n d h' => exact w
  | no _ => exact w
theorem x_tup {j : Nat} (ha : PA X es (tEs (cx X n) G F W irs)) (hl : irs.length ≤ 100000) : PE X (.Tuple es j pos) (tE (cx X n) G F W (.tup irs)) :=
  peImp (pe_tup ha) fun σ H Q ⟨ρ, h, σD, R, S, w⟩ => by
    simp only [ev] at w
    refine ⟨ρ, h, σD, R, S, w.bindE fun ds h1 xs H1 ρ1 e g1 R1 r1 w1 => ⟨?_, fun p hp => ?_⟩⟩
    · have r1' : RDs (cx X n) ρ1 (Live ρ1 h1) H1 ds xs := r1
      rw [r1'.length, evs_length e, sizeLine_eq]; omega
    · obtain ⟨R2, g2, q⟩ := R1.newTup hp r1
      exact w1 _ _ ρ1 g2 R2 q
theorem x_lst {live : Bool} (ha : PA X es (tEs (cx X n) G F W irs)) (hl : irs.length ≤ 100000) : PE X (.List es pos) (tE (cx X n) G F W (.lst live irs)) :=
  peImp (pe_lst ha) fun σ H Q ⟨ρ, h, σD, R, S, w⟩ => by
    simp only [ev] at w
    refine ⟨ρ, h, σD, R, S, w.bindE fun ds h1 xs H1 ρ1 e g1 R1 r1 w1 => ⟨?_, fun p hp => ?_⟩⟩
    · have r1' : RDs (cx X n) ρ1 (Live ρ1 h1) H1 ds xs := r1
      rw [r1'.length, evs_length e, sizeLine_eq]; omega
    · obtain ⟨ρ2, R2, g2, q⟩ := R1.listD (live := live) hp r1
      exact w1 _ _ ρ2 g2 R2 q
/-! ### calls of defs -/
/-- what a def promises: what the IR's function says -/
def spF (c : Ct) (F : FT) (f np : Nat) : Sp := fun vs H Q E => vs.length = np ∧ ∃ ρ h ds, Rel c ρ h H ∧ RDs c ρ (Live ρ h) H ds vs ∧ Wn c (fun cls d _ H' => E cls d H') [] ρ h H (rD c) (F f ds h) Q
/-- the f-th def, called x, keeps the promise, to k levels -/
structure DefOk (c : Ct) (mg : Str → Option Value) (base : Heap) (F : FT) (k f : Nat) (x : Str) (np : Nat) : Prop where
  ok : ∃ (fd : FuncData) (ps : List Str), FnOk c.prog c.w c.K mg base (L2.CX c.prog c.w) k (c.fa f) fd ps (spF c F f np) ∧ ps.length = np ∧ Binds c.K fd ps []
  mg : mg x = some (.ref (c.fa f))
  kp : PySem.W.keepIn c.K (.ref (c.fa f)) = true
theorem x_call {k f np : Nat} {x : Str} {p : Pos} (df : DefOk (cx X n) X.mg X.base F k f x np) (hr : Room k X.A) (hg : Gl X x) (tk : Takes X W) (ha : PA X (a :: es) (tEs (cx X n) G F W irs)) (hn : irs.length = np)
    (hd : (x == ("__debug__" : Str)) = false) (he : starEach (a :: es) X.env = (false, eval a X.env) :: starEach es X.env) (hpl : (backTo pos (starEach es X.env)).any (·.1) = false) :
    PE X (.Call (.Name x p) (a :: es) [] pos) (tE (cx X n) G F W (.call f irs)) := by
  obtain ⟨⟨fd, ps, ok, hl, bd⟩, mg, kp⟩ := df
  refine peImp (pe_callS ok hr hg mg kp bd (E := WE W) (fun σ => L2.passAt tk σ) ha hd he hpl) fun σ H Q ⟨ρ, h, σD, R, S, w⟩ => ?_
  simp only [ev] at w
  refine ⟨ρ, h, σD, R, S, w.bindE fun ds h1 xs H1 ρ1 e g1 R1 r1 w1 => ?_⟩
  have r1' : RDs (cx X n) ρ1 (Live ρ1 h1) H1 ds xs := r1
  refine ⟨by rw [r1'.length, evs_length e]; exact hn, ρ1, h1, ds, R1, r1, ?_⟩
  have w2 := Wn.trim R1 w1
  revert w2
  cases F f ds h1 with
  | ok d h' => exact fun w2 => w2
  | ex m d h' => exact fun w2 => w2
  | no _ => exact fun w2 => w2
end
end Pd
end
section
/-! PdS: statements. -/
namespace Pd
open PySem PySem.Spec PyProof.Rows L2
/-- what a statement's outcome wants of what follows -/
def Wo (c : Ct) (W : WX) (ρ : List Addr) (h : Cs) (H : Hp) (o : O) (D : L2.Ends) : Prop := match o with
  | .nx σD h' => ∀ (H' : Hp) (ρ' : List Addr) (σ' : L2.St), Go ρ h H ρ' h' H' → Rel c ρ' h' H' → RelS c ρ' h' H' σD σ' → D.nx σ' H'
  | .bk σD h' => ∀ (H' : Hp) (ρ' : List Addr) (σ' : L2.St), Go ρ h H ρ' h' H' → Rel c ρ' h' H' → RelS c ρ' h' H' σD σ' → D.bk σ' H'
  | .ct σD h' => ∀ (H' : Hp) (ρ' : List Addr) (σ' : L2.St), Go ρ h H ρ' h' H' → Rel c ρ' h' H' → RelS c ρ' h' H' σD σ' → D.ct σ' H'
  | .rt d h' => ∀ (v : V) (H' : Hp) (ρ' : List Addr), Go ρ h H ρ' h' H' → Rel c ρ' h' H' → RD c ρ' (Live ρ' h') H' d v → D.rt v H'
  | .ex n d σD h' => ∀ (H' : Hp) (ρ' : List Addr) (σ' : L2.St) (v : V) (dd : Addr), Go ρ h H ρ' h' H' → Rel c ρ' h' H' → RelS c ρ' h' H' σD σ' → RD c ρ' (Live ρ' h') H' d v → H' dd = some (.xd [(c.fld n, v)]) → W (.ref (c.ca n)) (some dd) σ' H'
  | .no _ => False
section
variable {c : Ct} {W : WX} {σ : L2.St} {σD : Sg} {ρ ρ1 : List Addr} {h h1 : Cs} {H H1 : Hp} {D D' : L2.Ends} {α β : Type} {rel : List Addr → Cs → Hp → α → β → Prop}
theorem Wo.go {o : O} (g : Go ρ h H ρ1 h1 H1) (w : Wo c W ρ h H o D) : Wo c W ρ1 h1 H1 o D := by
  cases o with
  | nx _ _ => exact fun H' ρ' σ' g' => w H' ρ' σ' (g.trans g')
  | bk _ _ => exact fun H' ρ' σ' g' => w H' ρ' σ' (g.trans g')
  | ct _ _ => exact fun H' ρ' σ' g' => w H' ρ' σ' (g.trans g')
  | rt _ _ => exact fun v H' ρ' g' => w v H' ρ' (g.trans g')
  | ex _ _ _ _ => exact fun H' ρ' σ' v dd g' => w H' ρ' σ' v dd (g.trans g')
  | no _ => exact w
/-- an expression of a statement -/
theorem Wo.st {r : R α} {f : α → Cs → O} {P : β → Hp → Prop} (S : RelS c ρ h H σD σ) (w : Wo c W ρ h H (r.st σD f) D)
    (k : ∀ (a : α) (h1 : Cs) (b : β) (H1 : Hp) (ρ1 : List Addr), r = .ok a h1 → Go ρ h H ρ1 h1 H1 → Rel c ρ1 h1 H1 → rel ρ1 h1 H1 a b → Wo c W ρ1 h1 H1 (f a h1) D → P b H1) : Wn c W σ ρ h H rel r P := by
  cases r with
  | ok a h' => exact fun b H' ρ' g R q => k a h' b H' ρ' rfl g R q (w.go g)
  | ex n d h' => exact fun H' ρ' v dd g R r e => w H' ρ' σ v dd g R (g.relS S) r e
  | no _ => exact w
theorem Wo.nx {h' : Cs} (R : Rel c ρ h' H) (S : RelS c ρ h' H σD σ) (g : Go ρ1 h1 H1 ρ h' H) (w : Wo c W ρ1 h1 H1 (.nx σD h') D) : D.nx σ H := w H ρ σ g R S
end
section
variable (c : Ct) (G : Nat → D) (F : FT) (W : WX)
def tS (ir : S) : TS := fun D σ H => ∃ ρ h σD, Rel c ρ h H ∧ RelS c ρ h H σD σ ∧ Wo c W ρ h H (exec G F ir σD h) D
def tSs (irs : List S) : TS := fun D σ H => ∃ ρ h σD, Rel c ρ h H ∧ RelS c ρ h H σD σ ∧ Wo c W ρ h H (execs G F irs σD h) D
/-- nothing but the slots vs is written -/
def Same (vs : List Nat) (σ σ' : L2.St) : Prop := σ'.length = σ.length ∧ ∀ i, i ∉ vs → σ'[i]? = σ[i]?
/-- a target -/
def tG (t : T) : TG := fun v σ H Q => ∃ ρ h σD d, Rel c ρ h H ∧ RelS c ρ h H σD σ ∧ RD c ρ (Live ρ h) H d v ∧ match asgT t d σD h with
  | some σD' => ∀ σ', RelS c ρ h H σD' σ' → Same t.vars σ σ' → Q σ' H
  | none => False
def tGs (ts : List T) : TGs := fun vs σ H Q => ∃ ρ h σD ds, Rel c ρ h H ∧ RelS c ρ h H σD σ ∧ RDs c ρ (Live ρ h) H ds vs ∧ match asgTs ts ds σD h with
  | some σD' => ∀ σ', RelS c ρ h H σD' σ' → Same (T.varss ts) σ σ' → Q σ' H
  | none => False
end
theorem pgImp {X : Cx} {e : Expr} {t t' : TG} (h : PG X e t) (i : ∀ v σ H Q, t' v σ H Q → t v σ H Q) : PG X e t' := ⟨fun pins s σ H v u Q I r q => h.run pins s σ H v u Q I r (i v σ H Q q)⟩
theorem pgsImp {X : Cx} {e : List Expr} {t t' : TGs} (h : PGs X e t) (i : ∀ v σ H Q, t' v σ H Q → t v σ H Q) : PGs X e t' := ⟨fun pins s σ H v u Q I r q => h.run pins s σ H v u Q I r (i v σ H Q q)⟩
section
variable {X : Cx} {n : Nm} {G : Nat → D} {F : FT} {W : WX} {a b d e : Expr} {a' b' d' e' : E} {es : List Expr} {irs : List E} {pos : Pos}
theorem RelS.set {c : Ct} {ρ : List Addr} {h : Cs} {H : Hp} {σD : Sg} {σ : L2.St} {i : Nat} {d : D} {v : V} (S : RelS c ρ h H σD σ) (r : RD c ρ (Live ρ h) H d v) : RelS c ρ h H (σD.set i (some d)) (σ.set i (some v)) := by
  refine ⟨by simp [S.1], fun j x e => ?_⟩
  by_cases z : j = i
  · subst z
    have lt : j < (σD.set j (some d)).length := (List.getElem?_eq_some_iff.mp e).1
    rw [List.length_set] at lt
    rw [List.getElem?_set_self lt] at e
    cases e
    exact ⟨v, List.getElem?_set_self (by rw [← S.1]; exact lt), r⟩
  · rw [List.getElem?_set_ne (Ne.symm z)] at e
    rw [List.getElem?_set_ne (Ne.symm z)]
    exact S.2 j x e
/-! ### targets -/
theorem g_var {i : Nat} {x : Str} (hN : X.N.Nodup) (hi : X.N[i]? = some x) (hx : Loc X.env.scope x) (hf : X.fn x = true ∨ X.env.scope.names.lookup x = some .local) : PG X (.Name x pos) (tG (cx X n) (.v i)) :=
  pgImp (pg_name hN hi hx hf) fun v σ H Q ⟨ρ, h, σD, d, R, S, r, w⟩ => by
    simp only [asgT] at w
    split at w
    · rename_i σ1 e1
      split at e1
      · cases e1; exact w _ (S.set r) ⟨by simp, fun j hj => by rw [List.getElem?_set_ne]; simpa [T.vars, eq_comm] using hj⟩
      · cases e1
    · exact w.elim
theorem gs_nil : PGs X [] (tGs (cx X n) []) := pgsImp pgs_nil fun vs σ H Q ⟨ρ, h, σD, ds, R, S, r, w⟩ => by
  cases ds with
  | nil => simp only [RDs] at r; subst r; simp only [asgTs] at w; exact ⟨rfl, w σ S ⟨rfl, fun _ _ => rfl⟩⟩
  | cons _ _ => simp only [asgTs] at w
theorem gs_cons {t : T} {ts : List T} {es : List Expr} (h1 : PG X e (tG (cx X n) t)) (h2 : PGs X es (tGs (cx X n) ts)) (hs : (assignEach (e :: es) X.env).map (·.2) = assign e X.env :: (assignEach es X.env).map (·.2)) : PGs X (e :: es) (tGs (cx X n) (t :: ts)) :=
  pgsImp (pgs_cons h1 h2 hs) fun vs σ H Q ⟨ρ, h, σD, ds, R, S, r, w⟩ => by
    cases ds with
    | nil => simp only [asgTs] at w
    | cons d ds =>
      obtain ⟨v, r', rfl, r1, r2⟩ := r.cons_inv
      refine ⟨v, r', rfl, ρ, h, σD, d, R, S, r1, ?_⟩
      simp only [asgTs] at w
      cases e1 : asgT t d σD h with
      | none => rw [e1] at w; exact w
      | some σ1 =>
        rw [e1] at w
        intro σ' S' s1
        refine ⟨ρ, h, σ1, ds, R, S', r2, ?_⟩
        have w2 : match asgTs ts ds σ1 h with | some σD' => ∀ σ', RelS (cx X n) ρ h H σD' σ' → Same (T.varss (t :: ts)) σ σ' → Q σ' H | none => False := w
        cases e3 : asgTs ts ds σ1 h with
        | none => rw [e3] at w2; exact w2
        | some σ2 =>
          rw [e3] at w2
          exact fun σ'' S'' s2 => w2 σ'' S'' ⟨s2.1.trans s1.1, fun i hi => by
            simp only [T.varss, List.mem_append, not_or] at hi
            exact (s2.2 i hi.2).trans (s1.2 i hi.1)⟩
theorem tupOf_rel {c : Ct} {ρ : List Addr} {L : Addr → Prop} {H : Hp} {d : D} {v : V} {xs : List D} (r : RD c ρ L H d v) (e : tupOf d = some xs) : ∃ a vs, v = .ref a ∧ FTup c.K L H a vs ∧ RDs c ρ L H xs vs := by
  cases d with
  | p y =>
    cases y with
    | tuple ys =>
      simp only [tupOf, Option.some.injEq] at e; subst e
      simp only [RD, RP] at r
      obtain ⟨a, vs, rfl, q, r⟩ := r
      exact ⟨a, vs, rfl, q, RDs.ofP r⟩
    | _ => simp [tupOf] at e
  | tup ys =>
    simp only [tupOf, Option.some.injEq] at e; subst e
    simp only [RD] at r
    exact r
  | _ => simp [tupOf] at e
theorem asgTs_length : ∀ {ts : List T} {ds : List D} {σ σ' : Sg} {h : Cs}, asgTs ts ds σ h = some σ' → ds.length = ts.length
  | [], [], _, _, _, _ => rfl
  | [], _ :: _, _, _, _, e => by simp [asgTs] at e
  | _ :: _, [], _, _, _, e => by simp [asgTs] at e
  | t :: ts, d :: ds, σ, σ', h, e => by
    simp only [asgTs] at e
    cases e1 : asgT t d σ h with
    | none => rw [e1] at e; cases e
    | some σ1 => rw [e1] at e; simp [asgTs_length e]
theorem g_tup {ts : List T} {k : Nat} (hc : X.calm = true) (h : PGs X es (tGs (cx X n) ts)) (hl : ts.length = es.length) (hn : (assignEach es X.env).length = es.length) (hst : (assignEach es X.env).findIdx? (·.1) = none) : PG X (.Tuple es k pos) (tG (cx X n) (.tup ts)) :=
  pgImp (pg_tup hc h hn hst) fun v σ H Q ⟨ρ, h, σD, d, R, S, r, w⟩ => by
    simp only [asgT] at w
    cases e : tupOf d with
    | none => rw [e] at w; exact w.elim
    | some xs =>
      rw [e] at w
      obtain ⟨a, vs, rfl, q, r1⟩ := tupOf_rel r e
      refine ⟨a, vs, rfl, q.sq, ?_, ρ, h, σD, xs, R, S, r1, (by simpa only [T.vars] using w)⟩
      have w' : match asgTs ts xs σD h with | some σD' => ∀ σ', RelS (cx X n) ρ h H σD' σ' → Same (T.vars (.tup ts)) σ σ' → Q σ' H | none => False := w
      cases e1 : asgTs ts xs σD h with
      | none => rw [e1] at w'; exact w'.elim
      | some σ1 => rw [r1.length, asgTs_length e1, hl]
/-! ### statements -/
theorem ss_nil : PSs X [] (tSs (cx X n) G F W []) := pssImp pss_nil fun D σ H ⟨ρ, h, σD, R, S, w⟩ => by
  simp only [execs] at w
  exact Wo.nx R S Go.refl w
theorem ss_cons {st : Stmt} {rest : List Stmt} {s : S} {r : List S} (h1 : PS X st (tS (cx X n) G F W s)) (h2 : PSs X rest (tSs (cx X n) G F W r)) : PSs X (st :: rest) (tSs (cx X n) G F W (s :: r)) :=
  pssImp (pss_cons h1 h2) fun D σ H ⟨ρ, h, σD, R, S, w⟩ => by
    simp only [execs] at w
    refine ⟨ρ, h, σD, R, S, ?_⟩
    cases e : exec G F s σD h with
    | nx σ' h' => rw [e] at w; exact fun H' ρ' σ1 g R1 S1 => ⟨ρ', h', σ', R1, S1, w.go g⟩
    | bk _ _ => rw [e] at w; exact w
    | ct _ _ => rw [e] at w; exact w
    | rt _ _ => rw [e] at w; exact w
    | ex _ _ _ _ => rw [e] at w; exact w
    | no _ => rw [e] at w; exact w
theorem s_asg {tg : Expr} {t : T} (he : PE X e (tE (cx X n) G F W e')) (hg : PG X tg (tG (cx X n) t)) (hs : swapsWithSole [tg] e pos.line X.env = pure false) (hw : swappedStores [tg] e X.env = pure none) (hz : (assignEach [tg] X.env).map (·.2) = [assign tg X.env]) : PS X (.Assign [tg] e pos) (tS (cx X n) G F W (.asg t e')) :=
  psImp (ps_asg he hg hs hw hz) fun D σ H ⟨ρ, h, σD, R, S, w⟩ => by
    simp only [exec] at w
    refine ⟨ρ, h, σD, R, S, w.st S fun d h1 x H1 ρ1 e1 g1 R1 r1 w1 => ?_⟩
    obtain ⟨ρ2, R2, g2, r2⟩ := R.trim g1 R1 r1
    refine ⟨ρ2, _, σD, d, R2, g2.relS S, r2, ?_⟩
    rw [e1] at w
    have w' : Wo (cx X n) W ρ h H (match asgT t d σD (Pd.trim h.length d h1) with | some σ' => O.nx σ' (Pd.trim h.length d h1) | none => O.no "target") D := w
    cases e2 : asgT t d σD (Pd.trim h.length d h1) with
    | none => rw [e2] at w'; exact w'.elim
    | some σ1 =>
      rw [e2] at w'
      exact fun σ' S' _ => w' H1 ρ2 σ' g2 R2 S'
theorem s_ex (he : PE X e (tE (cx X n) G F W e')) (hs : swapsWith e none pos.line X.env = pure false) : PS X (.Expr e pos) (tS (cx X n) G F W (.ex e')) :=
  psImp (ps_expr he hs) fun D σ H ⟨ρ, h, σD, R, S, w⟩ => by
    simp only [exec] at w
    refine ⟨ρ, h, σD, R, S, w.st S fun d h1 x H1 ρ1 e1 g1 R1 r1 w1 => ?_⟩
    obtain ⟨ρ2, R2, g2, r2⟩ := R.trim (d := .p .none) (v := .non) g1 R1 (by simp only [RD, RP])
    rw [e1] at w
    exact w H1 ρ2 σ g2 R2 (g2.relS S)
theorem s_doc {x : Str} {j : Nat} {pos' : Pos} : PS X (.Expr (.Constant (.str x) j pos) pos') (tS (cx X n) G F W .pass) := psImp ps_doc fun D σ H ⟨ρ, h, σD, R, S, w⟩ => by
  simp only [exec] at w
  exact Wo.nx R S Go.refl w
theorem s_ret (he : PE X e (tE (cx X n) G F W e')) : PS X (.Return (some e) pos) (tS (cx X n) G F W (.ret e')) :=
  psImp (ps_ret he) fun D σ H ⟨ρ, h, σD, R, S, w⟩ => by
    simp only [exec] at w
    refine ⟨ρ, h, σD, R, S, w.st S fun d h1 x H1 ρ1 e1 g1 R1 r1 w1 => w1 x H1 ρ1 Go.refl R1 r1⟩
theorem s_retn : PS X (.Return none pos) (tS (cx X n) G F W .retn) := psImp ps_retN fun D σ H ⟨ρ, h, σD, R, S, w⟩ => by
  simp only [exec] at w
  exact w .non H ρ Go.refl R (by simp only [RD, RP])
theorem s_pass : PS X (.Pass pos) (tS (cx X n) G F W .pass) := psImp ps_pass fun D σ H ⟨ρ, h, σD, R, S, w⟩ => by
  simp only [exec] at w
  exact Wo.nx R S Go.refl w
theorem s_brk : PS X (.Break pos) (tS (cx X n) G F W .brk) := psImp ps_break fun D σ H ⟨ρ, h, σD, R, S, w⟩ => by
  simp only [exec] at w
  exact w H ρ σ Go.refl R S
theorem s_cnt : PS X (.Continue pos) (tS (cx X n) G F W .cnt) := psImp ps_continue fun D σ H ⟨ρ, h, σD, R, S, w⟩ => by
  simp only [exec] at w
  exact w H ρ σ Go.refl R S
theorem s_never {st : Stmt} : PS X st (tS (cx X n) G F W .never) := psImp ps_never fun D σ H ⟨ρ, h, σD, R, S, w⟩ => by
  simp only [exec] at w
  exact w.elim
/-- a test within a statement -/
theorem Wo.tst {c : Ct} {σ : L2.St} {σD : Sg} {ρ : List Addr} {h : Cs} {H : Hp} {D : L2.Ends} {f : Bool → Cs → O} {P : Bool → Hp → Prop} {w : String} {irc : E} (R0 : Rel c ρ h H) (S : RelS c ρ h H σD σ)
    (w : Wo c W ρ h H ((ev G F irc σD h).st σD fun x h1 => match truth x h1 with | some t => f t h1 | none => .no w) D)
    (k : ∀ (t : Bool) (h1 : Cs) (H1 : Hp) (ρ1 : List Addr), Go ρ h H ρ1 h1 H1 → Rel c ρ1 h1 H1 → Wo c W ρ1 h1 H1 (f t h1) D → P t H1) : tT c G F W irc σ H P := by
  refine ⟨ρ, h, σD, R0, S, ?_⟩
  cases e : ev G F irc σD h with
  | no _ => rw [e] at w; exact w
  | ex m d h' => rw [e] at w; exact fun H' ρ' v dd g R r e => w H' ρ' σ v dd g R (g.relS S) r e
  | ok x h1 =>
    rw [e] at w
    simp only [Pd.R.st] at w
    simp only [Pd.R.bind]
    cases e1 : truth x h1 with
    | none => rw [e1] at w; exact w
    | some t =>
      rw [e1] at w
      intro b H' ρ' g R r
      have r' : t = b := r
      subst r'
      exact k t h1 H' ρ' g R (w.go g)
theorem s_ite {a2 b2 : List Stmt} {as bs : List S} (hc : PT X d (tT (cx X n) G F W d')) (ha : PSs X a2 (tSs (cx X n) G F W as)) (hb : PSs X b2 (tSs (cx X n) G F W bs)) : PS X (.If d a2 b2 pos) (tS (cx X n) G F W (.ite d' as bs)) :=
  psImp (ps_if hc ha hb) fun D σ H ⟨ρ, h, σD, R, S, w⟩ => by
    simp only [exec] at w
    have w' : Wo (cx X n) W ρ h H ((ev G F d' σD h).st σD fun x h1 => match truth x h1 with | some t => (if t = true then execs G F as σD h1 else execs G F bs σD h1) | none => .no "if") D := by
      cases e : ev G F d' σD h with
      | ok x h1 =>
        rw [e] at w
        simp only [Pd.R.st] at w ⊢
        cases e1 : truth x h1 with
        | none => rw [e1] at w; exact w
        | some t => rw [e1] at w; cases t <;> exact w
      | ex _ _ _ => rw [e] at w; exact w
      | no _ => rw [e] at w; exact w
    refine Wo.tst R S w' fun t h1 H1 ρ1 g1 R1 w1 => ?_
    cases t with
    | true => rw [if_pos rfl] at w1 ⊢; exact ⟨ρ1, h1, σD, R1, g1.relS S, w1⟩
    | false => rw [if_neg (by decide)] at w1 ⊢; exact ⟨ρ1, h1, σD, R1, g1.relS S, w1⟩
theorem s_whl {body : List Stmt} {bs : List S} (hp : PassesOwn (model X.prog X.w) X.A X.env X.xe) (hc : PT X d (tT (cx X n) G F W d')) (hb : PSs X body (tSs (cx X n) G F W bs)) : PS X (.While d body [] pos) (tS (cx X n) G F W (.whl d' bs)) :=
  psImp (ps_while hp hc hb) fun D σ H ⟨ρ, h, σD, R, S, w⟩ => by
    simp only [exec] at w
    refine ⟨fun m σ H => ∃ ρ h σD, Rel (cx X n) ρ h H ∧ RelS (cx X n) ρ h H σD σ ∧ Wo (cx X n) W ρ h H (whlGo (ev G F d') (execs G F bs) m σD h) D, ⟨fuel, ρ, h, σD, R, S, w⟩, ?_⟩
    clear w R S
    rintro m σ H ⟨ρ, h, σD, R, S, w⟩
    cases m with
    | zero => simp only [whlGo] at w; exact w.elim
    | succ m =>
      simp only [whlGo] at w
      have w' : Wo (cx X n) W ρ h H ((ev G F d' σD h).st σD fun x h1 => match truth x h1 with | some t => (if t = true then (match execs G F bs σD h1 with | .nx σ' h' => whlGo (ev G F d') (execs G F bs) m σ' h' | .ct σ' h' => whlGo (ev G F d') (execs G F bs) m σ' h' | .bk σ' h' => .nx σ' h' | o => o) else .nx σD h1) | none => .no "while") D := by
        cases e : ev G F d' σD h with
        | ok x h1 =>
          rw [e] at w
          simp only [Pd.R.st] at w ⊢
          cases e1 : truth x h1 with
          | none => rw [e1] at w; exact w
          | some t => rw [e1] at w; cases t <;> exact w
        | ex _ _ _ => rw [e] at w; exact w
        | no _ => rw [e] at w; exact w
      refine Wo.tst R S w' fun t h1 H1 ρ1 g1 R1 w1 => ?_
      cases t with
      | false =>
        rw [if_neg (by decide)] at w1 ⊢
        exact Wo.nx R1 (g1.relS S) Go.refl w1
      | true =>
        rw [if_pos rfl] at w1 ⊢
        refine ⟨fun σ' H' => ∃ ρ h σD, Rel (cx X n) ρ h H' ∧ RelS (cx X n) ρ h H' σD σ' ∧ Wo (cx X n) W ρ h H' (whlGo (ev G F d') (execs G F bs) m σD h) D, fun σ' H' q => ⟨m, Nat.lt_succ_self m, q⟩, ρ1, h1, σD, R1, g1.relS S, ?_⟩
        cases e : execs G F bs σD h1 with
        | nx σ' h' => rw [e] at w1; exact fun H' ρ' σ'' g R S => ⟨ρ', h', σ', R, S, w1.go g⟩
        | ct σ' h' => rw [e] at w1; exact fun H' ρ' σ'' g R S => ⟨ρ', h', σ', R, S, w1.go g⟩
        | bk σ' h' => rw [e] at w1; exact fun H' ρ' σ'' g R S => w1 H' ρ' σ'' g R S
        | rt _ _ => rw [e] at w1; exact w1
        | ex _ _ _ _ => rw [e] at w1; exact w1
        | no _ => rw [e] at w1; exact w1
end
end Pd
end
section
/-! PdI: what loops and comprehensions walk: enumerate of a tuple; one rule over lists, tuples, texts. -/
namespace Pd
open PySem PySem.Spec PyProof.Rows L2
open Sem (wp)
set_option maxHeartbeats 1000000 in
theorem meets_enum1 {v : Value} {o : Obj} {H : Heap → Prop} (B : Begins v o H) :
    Meets (Builtin.«enumerate.__new__» ⟨[.type "enumerate", v], []⟩) (fun _ R s => H s.heap ∧
      R (.ok (.ret (.ref (s.heap.push o).objs.size))) { s with heap := (s.heap.push o).push { cls := .type "enumerate", data := .fields #[.none, .bool false, .ref s.heap.objs.size, rawInt 0, .none, .none] } }) :=
  .of_wp fun prog w A R s h => by
    obtain ⟨hp, g, d, tk, os⟩ := s; obtain ⟨h1, h⟩ := h
    have hsub := sub_enumerate
    have q1 : ∀ {A' : Around} {E : Value → Shared → Prop} {Q : Value → Shared → Prop}, Q (.ref hp.objs.size) ⟨hp.push o, g, d, tk, os⟩ → wpAny (model prog w) A' (pyIter v) Q E ⟨hp, g, d, tk, os⟩ :=
      fun q => B.iter prog w _ _ ⟨hp, g, d, tk, os⟩ _ h1 q
    wp_walk
    refine wpAny_stack_any fun st => wpAny_pure ?_
    split
    · rename_i c _ _ _ _ _
      cases (c == Value.type "enumerate")
      · wp_walk using q1
        exact ⟨_, rfl, h⟩
      · wp_walk using q1
        exact ⟨_, rfl, h⟩
    · wp_walk using q1
      exact ⟨_, rfl, h⟩
section
variable {prog : Program} {w : World} {A : Around} {E : Value → Shared → Prop} {s : Shared}
theorem call_enum1 {v : Value} {o : Obj} {H : Heap → Prop} {Q : Value → Shared → Prop} (B : Begins v o H) (h1 : H s.heap)
    (h : ∀ h', IsEnum h' (s.heap.objs.size + 1) s.heap.objs.size 0 .none → h'.get? s.heap.objs.size = some o → h'.objs.size = s.heap.objs.size + 2 →
      (∀ b o, s.heap.get? b = some o → h'.get? b = some o) → Q (.ref (s.heap.objs.size + 1)) { s with heap := h' }) :
    wpAny (model prog w) A (call (.type "enumerate") [v]) Q E s := by
  refine callType_new F.called_enumerate (by decide) (F.typeCall_enumerate_1 _) (F.newCall_enumerate_1 _) (fun obj => F.args_object_init_2 obj _) F.entry_enumerate_new
    (meets_enum1 B) ⟨h1, ?_⟩
  have hz : (s.heap.push o).objs.size = s.heap.objs.size + 1 := Heap.size_push ..
  show _ ∧ _
  rw [hz]
  have he : IsEnum ((s.heap.push o).push { cls := .type "enumerate", data := .fields #[.none, .bool false, .ref s.heap.objs.size, rawInt 0, .none, .none] }) (s.heap.objs.size + 1) s.heap.objs.size 0 .none := by
    have := Heap.get?_push_size (s.heap.push o) (o := { cls := .type "enumerate", data := .fields #[.none, .bool false, .ref s.heap.objs.size, rawInt 0, .none, .none] }) rfl
    rw [hz] at this; exact this
  refine ⟨⟨_, he, rfl⟩, h _ he (Heap.get?_push_of_some _ (Heap.get?_push_size _ B.free)) (by rw [Heap.size_push, hz]) fun b o x => Heap.get?_push_of_some _ (Heap.get?_push_of_some _ x)⟩
end
/-- enumerate(tuple): the tuple at a, each item in a new pair -/
def IteT (K : PySem.W.Frag) (a : Addr) : It :=
  ⟨fun i H => ∃ (xs : List V) (x : V), SqT K H a xs ∧ xs[i]? = some x, fun i H v H' => ∃ T x, v = .ref T ∧ H T = none ∧ H' = upd H T (.tup [.int (i : Nat), x]) ∧ ∀ xs, SqT K H a xs → xs[i]? = some x, fun i H => ∃ xs : List V, SqT K H a xs ∧ xs.length = i⟩
theorem turn_enumT {P : Program} {w : World} {K : PySem.W.Frag} {elts : List Expr} {kk : Nat} {tpos : Pos} (a e it : Addr) :
    Turn P w K (.Tuple elts kk tpos) (IteT K a) [e, it] e (fun i h => (∃ old, IsEnum h e it ((i : Nat) : Int) old) ∧ h.IsTupleIter it a i ∧ e ≠ it ∧ a ≠ it ∧ a ≠ e) where
  mem := by simp
  obj := fun i h st b hb => by
    obtain ⟨⟨old, he⟩, ⟨o, ho, hc, hd⟩, _⟩ := st
    have e' : b = e ∨ b = it := by simpa using hb
    rcases e' with z | z
    · rw [z]; exact ⟨_, he, fun v q => nomatch q⟩
    · rw [z]; exact ⟨o, ho, fun v q => by rw [hd] at q; cases q⟩
  keep := fun i h h' st k => let ⟨⟨old, he⟩, hi, hne⟩ := st; ⟨⟨old, k e (by simp) _ he⟩, hi.at fun o q => k it (by simp) o q, hne⟩
  item := by
    intro X hP hw hK hc i pins s σ H E I hf st hg
    subst hP hw hK
    obtain ⟨⟨old, he⟩, hit, hne, hai, hae⟩ := st
    obtain ⟨xs, x, hq, hx⟩ := hg
    obtain ⟨its, rv, p, hz⟩ := I.tuple hq
    obtain ⟨u, hu, ru⟩ := rv.get hx
    have hel : e < s.heap.objs.size := Heap.lt_size he
    have hil : it < s.heap.objs.size := by obtain ⟨_, q, _⟩ := hit; exact Heap.lt_size q
    have hul : i < its.toArray.size := by simpa using (List.getElem?_eq_some_iff.mp hu).1
    refine wpAny_pyNext_enum_itemC (Draws.tuple (A := X.A.in1) (I.ok.hd hc) it a hai its.toArray) he ⟨hit, (show s.heap.IsTuple a its.toArray from p)⟩ hul hne (by simp [hne, Ne.symm hae]) fun x' h' tk hx' ho hst hT hsz hk => ?_
    have hxu : x' = u := by
      have h1 : its[i]? = some x' := by simpa using hx'
      rw [hu] at h1; exact (Option.some.inj h1).symm
    subst hxu
    refine ⟨_, rfl, wpAny_letOwnedTupleGo_enum (s := { s with heap := h', toks := tk + 1 }) ho fun h'' he' sb => ?_⟩
    have hT2 : h''.get? s.heap.objs.size = some { cls := .type "tuple", data := .seq #[.int i tk, x'] } := (sb.2 _ (Nat.ne_of_gt hel)).trans hT
    have new : ObjOk X.prog X.w (upd H s.heap.objs.size (.tup [.int (i : Nat), x])) h'' s.heap.objs.size (.tup [.int (i : Nat), x]) :=
      ⟨by show 2 ≤ sizeLine; decide, [.int i tk, x'], .cons ⟨_, rfl⟩ (.cons ru .nil), ⟨_, hT2, rfl, _, rfl⟩⟩
    have I1 : Inv X pins σ (upd H s.heap.objs.size (.tup [.int (i : Nat), x])) { s with heap := h'', toks := tk + 1 } :=
      I.turnedNew (ch := [e, it]) (fun b o hb q => (sb.2 b (fun z => hb (by simp [z]))).trans (hk b o (fun z => hb (by simp [z])) (fun z => hb (by simp [z])) q)) hf (Nat.le_refl _) new
    refine ⟨.ref s.heap.objs.size, _, I1, rfl, ⟨_, x, rfl, I.hok.fresh (Nat.le_refl _), rfl, fun ys hy => by rw [I.tuple_inj hy hq]; exact hx⟩, ⟨⟨x', ?_⟩, hst.1.at fun o q => (sb.2 it (Ne.symm hne)).trans q, hne, hai, hae⟩, fun b hb => ?_⟩
    · have e1 : ((i + 1 : Nat) : Int) = (i : Int) + 1 := by omega
      rw [e1]; exact he'
    · have hb' : b < s.heap.objs.size := by
        have e' : b = e ∨ b = it := by simpa using hb
        rcases e' with z | z
        · rw [z]; exact hel
        · rw [z]; exact hil
      rw [upd_ne (Nat.ne_of_lt hb')]
      exact (hf b hb).1
  done := by
    intro X hP hw hK hc i pins s σ H E I hf st hg
    subst hP hw hK
    obtain ⟨⟨old, he⟩, hit, hne, hai, hae⟩ := st
    obtain ⟨xs, hq, hx⟩ := hg
    obtain ⟨its, rv, p, hz⟩ := I.tuple hq
    obtain ⟨f0, f1, f2, f3, f4, f5⟩ := hf it (by simp)
    have hl : its.toArray.size = i := by have := rv.length; simp; omega
    refine wpAny_pyNext_enum_endD (Draws.tuple (A := X.A.in1) (I.ok.hd hc) it a hai its.toArray) he (by rw [hl]; exact ⟨hit, (show s.heap.IsTuple a its.toArray from p)⟩) fun h' eb => ⟨rfl, I.turned (t' := s.toks) (fun b o hb q => eb b o hb q) f0 f1 f3 f4 f5⟩
  self := fun A i s Q E st h => let ⟨⟨_, he⟩, _⟩ := st; wpAny_pyIter_enum he h
def iEnumA (K : PySem.W.Frag) (ta : TA) : TI := fun σ H R => ta σ H fun vs H1 => ∃ a xs, vs = [.ref a] ∧ ((SqL K H1 a xs ∧ R (Ite K a) H1) ∨ (SqT K H1 a xs ∧ R (IteT K a) H1))
theorem pi_enumA {X : Cx} {e : Expr} {ta : TA} {p pos tpos : Pos} {elts : List Expr} {kk : Nat} (hg : Gl X "enumerate") (hm : X.mg "enumerate" = none) (ha : PA X [e] ta) (hs : starEach [e] X.env = [(false, eval e X.env)]) :
    PI X (.Tuple elts kk tpos) (.Call (.Name "enumerate" p) [e] [] pos) (iEnumA X.K ta) := by
  refine ⟨fun pins s σ H R I h => ?_⟩
  refine Call_ (ld_blt I hg hm boot_enumerate (PyProof.Rows.callWith_type1 (thn (ha.run pos pins s σ H _ I h) fun us s1 ⟨vs, H1, I1, r1, q1⟩ => ?_) hs rfl))
  obtain ⟨a, xs, ex, q1⟩ := q1
  subst ex
  cases r1 with
  | cons r rr =>
    cases rr
    cases r
    have fresh : ∀ b ∈ [s1.heap.objs.size + 1, s1.heap.objs.size], FpOk X pins H1 b := fun b hb => by
      have e' : b = s1.heap.objs.size + 1 ∨ b = s1.heap.objs.size := by simpa using hb
      have hle : s1.heap.objs.size ≤ b := by
        rcases e' with z | z
        · rw [z]; exact Nat.le_add_right _ _
        · rw [z]; exact Nat.le_refl _
      exact I1.fpOk hle (I1.hok.fresh hle)
    rcases q1 with ⟨hq, q⟩ | ⟨hq, q⟩
    · obtain ⟨its, rv, p', hz⟩ := I1.list hq
      refine call_enumerate_list p'.isList fun h' he hit hsz hk => wpAny_pyIter_enum he ?_
      have I2 : Inv X pins σ H1 { s1 with heap := h' } := I1.kept (t' := s1.toks) hk
      exact ⟨s1.heap.objs.size + 1, [s1.heap.objs.size + 1, s1.heap.objs.size], _, _, H1, rfl, I2, turn_enum a (s1.heap.objs.size + 1) s1.heap.objs.size, ⟨⟨.none, he⟩, hit, Nat.succ_ne_self _⟩, fresh, q⟩
    · obtain ⟨its, rv, p', hz⟩ := I1.tuple hq
      have p2 : s1.heap.IsTuple a its.toArray := p'
      have hal : a < s1.heap.objs.size := by obtain ⟨o, ho, _⟩ := p2; exact Heap.lt_size ho
      refine call_enum1 (begins_tuple a its.toArray) p2 fun h' he hit hsz hk => wpAny_pyIter_enum he ?_
      have I2 : Inv X pins σ H1 { s1 with heap := h' } := I1.kept (t' := s1.toks) hk
      exact ⟨s1.heap.objs.size + 1, [s1.heap.objs.size + 1, s1.heap.objs.size], _, _, H1, rfl, I2, turn_enumT a (s1.heap.objs.size + 1) s1.heap.objs.size, ⟨⟨.none, he⟩, ⟨_, hit, rfl, rfl⟩, Nat.succ_ne_self _, Nat.ne_of_lt hal, Nat.ne_of_lt (Nat.lt_succ_of_lt hal)⟩, fresh, q⟩
/-- a list, a tuple, a text, whichever comes -/
def iAny (K : PySem.W.Frag) (te : TE) : TI := fun σ H R => te σ H fun x H1 => (∃ a xs, x = .ref a ∧ SqL K H1 a xs ∧ R (Itl K a) H1) ∨ (∃ a xs, x = .ref a ∧ SqT K H1 a xs ∧ R (Itt K a) H1) ∨ (∃ z, x = .str z ∧ R (Its z) H1)
theorem pi_any {X : Cx} {tg l : Expr} {tl : TE} (hl : PE X l tl) : PI X tg l (iAny X.K tl) := by
  refine ⟨fun pins s σ H R I h => ?_⟩
  refine thn (hl.run pins s σ H _ I h) fun v s1 ⟨x, H1, I1, r1, q1⟩ => ?_
  rcases q1 with ⟨a, xs, e, hq, q⟩ | ⟨a, xs, e, hq, q⟩ | ⟨z, e, q⟩
  · subst e
    cases r1
    obtain ⟨its, rv, p, hz⟩ := I1.list hq
    exact wpAny_pyIter_list p.isList (pi_one (tk := s1.toks) I1 _ (turn_list a _) ⟨_, Heap.get?_push_size _ rfl, rfl, rfl⟩ q)
  · subst e
    cases r1
    obtain ⟨its, rv, p, hz⟩ := I1.tuple hq
    exact wpAny_pyIter_tuple (show s1.heap.IsTuple a its.toArray from p) (pi_one (tk := s1.toks) I1 _ (turn_tuple a _) ⟨_, Heap.get?_push_size _ rfl, rfl, rfl⟩ q)
  · subst e
    obtain ⟨t, rfl⟩ := r1
    cases ha : z.cps.all (· < 128)
    · exact wpAny_pyIter_wide ha (pi_one (tk := s1.toks) I1 _ (turn_str _ z t "str_iterator" (.inr rfl)) ⟨_, Heap.get?_push_size _ rfl, rfl, rfl⟩ q)
    · exact wpAny_pyIter_ascii ha (pi_one (tk := s1.toks) I1 _ (turn_str _ z t "str_ascii_iterator" (.inl rfl)) ⟨_, Heap.get?_push_size _ rfl, rfl, rfl⟩ q)
theorem walk_enumT {K : PySem.W.Frag} {a : Addr} {xs : List V} : Walk (IteT K a) xs.length (fun H => SqT K H a xs) (YPair (fun i => some (.int (i : Nat))) (fun i => xs[i]?)) := by
  refine ⟨fun i _ hi q => ⟨xs, xs[i], q, by simp [hi]⟩, fun _ q => ⟨xs, q, rfl⟩, fun i H v H' _ q y => ?_⟩
  obtain ⟨T, x, h1, h2, h3, h4⟩ := y
  exact ⟨T, .int (i : Nat), x, h1, h2, h3, rfl, h4 xs q⟩
end Pd
end
section
/-! PdF: loops, comprehensions. -/
namespace Pd
open PySem PySem.Spec PyProof.Rows L2
section
variable {c : Ct} {ρ ρ' : List Addr} {h h' : Cs} {H H' : Hp}
/-- the cells of ds live -/
def Alv (ρ : List Addr) (h : Cs) (ds : List D) : Prop := ∀ k, D.ref k ∈ ds → ∃ m a, h[k]? = some m ∧ ρ[k]? = some a ∧ m.alive = true
theorem Rel.holdAll : ∀ (ds : List D) {h : Cs}, Rel c ρ h H → Alv ρ h ds → Rel c ρ (Pd.hold ds h) H ∧ (∀ b, Live ρ (Pd.hold ds h) b ↔ Live ρ h b) ∧ (Pd.hold ds h).length = h.length
  | [], h, R, _ => ⟨R, fun _ => Iff.rfl, rfl⟩
  | d :: r, h, R, al => by
    have alr : Alv ρ h r := fun k hk => al k (List.mem_cons_of_mem _ hk)
    cases d with
    | ref k =>
      obtain ⟨m, a, ek, ea, am⟩ := al k List.mem_cons_self
      obtain ⟨R1, lv1⟩ := R.hold ek ea am
      have lt : k < h.length := (List.getElem?_eq_some_iff.mp ek).1
      obtain ⟨R2, lv2, e2⟩ := Rel.holdAll r R1 fun j hj => by
        obtain ⟨m', a', e1, e2, al'⟩ := alr j hj
        by_cases z : j = k
        · subst z; exact ⟨.held, a', List.getElem?_set_self lt, e2, rfl⟩
        · exact ⟨m', a', by rw [List.getElem?_set_ne (Ne.symm z)]; exact e1, e2, al'⟩
      exact ⟨R2, fun b => (lv2 b).trans (lv1 b), e2.trans (List.length_set ..)⟩
    | p _ => exact Rel.holdAll r R alr
    | fn _ => exact Rel.holdAll r R alr
    | tup _ => exact Rel.holdAll r R alr
    | lst _ => exact Rel.holdAll r R alr
    | dct _ _ => exact Rel.holdAll r R alr
    | exn _ _ _ _ => exact Rel.holdAll r R alr
theorem set_same {α : Type} {l : List α} {k : Nat} {x : α} (e : l[k]? = some x) : l.set k x = l := by
  apply List.ext_getElem?
  intro j
  by_cases z : j = k
  · subst z; rw [List.getElem?_set_self (List.getElem?_eq_some_iff.mp e).1, e]
  · rw [List.getElem?_set_ne (Ne.symm z)]
theorem Rel.unholdAll : ∀ (ds : List D) {h : Cs}, Rel c ρ h H → Alv ρ h ds → Go ρ (Pd.hold ds h) H ρ' h' H' → Rel c ρ' h' H' →
    Rel c ρ' (Pd.unhold ds h h') H' ∧ Go ρ h H ρ' (Pd.unhold ds h h') H' ∧ (∀ b, Live ρ' (Pd.unhold ds h h') b ↔ Live ρ' h' b)
  | [], h, R, _, g, R' => ⟨R', g, fun _ => Iff.rfl⟩
  | d :: r, h, R, al, g, R' => by
    have alr : Alv ρ h r := fun k hk => al k (List.mem_cons_of_mem _ hk)
    cases d with
    | ref k =>
      obtain ⟨m, a, ek, ea, am⟩ := al k List.mem_cons_self
      obtain ⟨R1, lv1⟩ := R.hold ek ea am
      have lt : k < h.length := (List.getElem?_eq_some_iff.mp ek).1
      obtain ⟨R2, g2, lv2⟩ := Rel.unholdAll r R1 (fun j hj => by
        obtain ⟨m', a', e1, e2, al'⟩ := alr j hj
        by_cases z : j = k
        · subst z; exact ⟨.held, a', List.getElem?_set_self lt, e2, rfl⟩
        · exact ⟨m', a', by rw [List.getElem?_set_ne (Ne.symm z)]; exact e1, e2, al'⟩) g R'
      have eu : Pd.unhold (D.ref k :: r) h h' = (Pd.unhold r (h.set k .held) h').set k m := by simp only [Pd.unhold, ek]; rfl
      rw [eu]
      by_cases z : m = .held
      · subst z
        have e0 : h.set k MO.held = h := set_same ek
        rw [e0] at R2 g2 lv2 ⊢
        have e1 := (g2.held k a ek ea).1
        rw [set_same e1]
        exact ⟨R2, g2, lv2⟩
      · have hH := (g2.held k a (List.getElem?_set_self lt) ea).2
        have st : Stay (Live ρ h) H (Live ρ' (Pd.unhold r (h.set k .held) h')) H' := fun b o po e n => g2.stayR b o po e fun l => n ((lv1 b).mp l)
        obtain ⟨R3, g3, lv3⟩ := Go.unhold R ek ea am z am g2 R2 (RM.stay g2.pre st (R.ob k m a ek ea) fun u e => hH.trans e)
        exact ⟨R3, g3, fun b => (lv3 b).trans (lv2 b)⟩
    | p _ => exact Rel.unholdAll r R alr g R'
    | fn _ => exact Rel.unholdAll r R alr g R'
    | tup _ => exact Rel.unholdAll r R alr g R'
    | lst _ => exact Rel.unholdAll r R alr g R'
    | dct _ _ => exact Rel.unholdAll r R alr g R'
    | exn _ _ _ _ => exact Rel.unholdAll r R alr g R'
theorem unhold_ge : ∀ (ds : List D) {h h' : Cs} {j : Nat}, h.length ≤ j → (Pd.unhold ds h h')[j]? = h'[j]?
  | [], _, _, _, _ => rfl
  | d :: r, h, h', j, hj => by
    cases d with
    | ref k =>
      simp only [Pd.unhold]
      have ih : (Pd.unhold r (setC h k .held) h')[j]? = h'[j]? := unhold_ge r (by unfold setC; rw [List.length_set]; exact hj)
      cases e : h[k]? with
      | none => exact ih
      | some o =>
        have lt : k < h.length := (List.getElem?_eq_some_iff.mp e).1
        show (List.set _ k o)[j]? = _
        rw [List.getElem?_set_ne (by omega)]
        exact ih
    | p _ => exact unhold_ge r hj
    | fn _ => exact unhold_ge r hj
    | tup _ => exact unhold_ge r hj
    | lst _ => exact unhold_ge r hj
    | dct _ _ => exact unhold_ge r hj
    | exn _ _ _ _ => exact unhold_ge r hj
theorem Live.of_set {k : Nat} {m m' : MO} {b : Addr} (ek : h[k]? = some m) (am : m.alive = true) (l : Live ρ (h.set k m') b) : Live ρ h b := by
  obtain ⟨j, u, e1, e2, l⟩ := l
  rcases set_get e2 with ⟨z, _⟩ | ⟨_, e3⟩
  · subst z; exact ⟨j, m, e1, ek, am⟩
  · exact ⟨j, u, e1, e3, l⟩
/-- a cell above those of the start is changed, and what stands there -/
theorem Go.cells {H2 : Hp} {k : Nat} {a : Addr} {m m' : MO} (R0 : Rel c ρ h H) (g : Go ρ h H ρ' h' H') (hk : h.length ≤ k) (ha : H a = none) (hH : ∀ b, b ≠ a → H2 b = H' b) (ek : h'[k]? = some m) (am : m.alive = true) : Go ρ h H ρ' (h'.set k m') H2 :=
  ⟨g.pre, fun b o e n => by
    have nb : b ≠ a := fun z => by subst z; rw [ha] at e; cases e
    obtain ⟨e1, n1⟩ := g.stay b o e n
    exact ⟨(hH b nb).trans e1, fun l => n1 (l.of_set ek am)⟩, fun j b e1 e2 => by
    have lt : j < h.length := (List.getElem?_eq_some_iff.mp e1).1
    obtain ⟨e3, e4⟩ := g.held j b e1 e2
    have nb : b ≠ a := fun z => by
      subst z
      obtain ⟨o, e⟩ : ∃ o, H b = Option.some o := R0.ob j .held b e1 e2
      rw [ha] at e; cases e
    exact ⟨by rw [List.getElem?_set_ne (by omega)]; exact e3, (hH b nb).trans e4⟩⟩
/-- a cell's object is another one -/
theorem Rel.set (R : Rel c ρ h H) {k : Nat} {a : Addr} {m m' : MO} {o : HO} (ek : h[k]? = some m) (ea : ρ[k]? = some a) (al : m.alive = true)
    (q : ∀ (L' : Addr → Prop) (H' : Hp), Stay (Live ρ h) H L' H' → H' a = some o → RM c ρ L' H' a m') :
    Rel c ρ (h.set k m') (upd H a o) ∧ Stay (Live ρ h) H (Live ρ (h.set k m')) (upd H a o) := by
  have la : Live ρ h a := ⟨k, m, ea, ek, al⟩
  have st : Stay (Live ρ h) H (Live ρ (h.set k m')) (upd H a o) := Stay.of fun b u e n => ⟨by rw [upd_ne (fun z => n (by rw [z]; exact la))]; exact e, fun l => n (l.of_set ek al)⟩
  refine ⟨⟨by simp [R.len], fun j u b e1 e2 => ?_, fun i j b u w e1 e2 e3 e4 l1 l2 => ?_⟩, st⟩
  · rcases set_get e1 with ⟨z, e3⟩ | ⟨z, e3⟩
    · subst z; subst e3
      rw [ea] at e2; cases e2
      exact q _ _ st upd_same
    · by_cases l : u.alive = true
      · have nb : b ≠ a := fun eb => z (R.inj j k a u m (eb ▸ e2) ea e3 ek l al)
        exact RM.stay (List.prefix_refl _) st (R.ob j u b e3 e2) fun w e => by rw [upd_ne nb]; exact e
      · cases u with
        | dead => trivial
        | held => exact absurd rfl l
        | lst _ => exact absurd rfl l
        | lsr _ => exact absurd rfl l
        | dct _ _ => exact absurd rfl l
        | exc _ _ => exact absurd rfl l
  · have old : ∀ (j : Nat) (u : MO), (h.set k m')[j]? = some u → u.alive = true → ∃ u', h[j]? = some u' ∧ u'.alive = true := fun j u e l => by
      rcases set_get e with ⟨z, _⟩ | ⟨_, e3⟩
      · subst z; exact ⟨m, ek, al⟩
      · exact ⟨u, e3, l⟩
    obtain ⟨u', e3', l1'⟩ := old i u e3 l1
    obtain ⟨w', e4', l2'⟩ := old j w e4 l2
    exact R.inj i j b u' w' e1 e2 e3' e4' l1' l2'
theorem upd_self {H : Hp} {a : Addr} {o : HO} (e : H a = some o) : upd H a o = H := by
  funext b
  by_cases z : b = a
  · subst z; rw [upd_same, e]
  · rw [upd_ne z]
/-- a cell held dies -/
theorem Rel.drop (R : Rel c ρ h H) {k : Nat} {a : Addr} {m : MO} (ek : h[k]? = some m) (ea : ρ[k]? = some a) (al : m.alive = true) :
    Rel c ρ (h.set k .dead) H ∧ ¬ Live ρ (h.set k .dead) a ∧ Stay (Live ρ h) H (Live ρ (h.set k .dead)) H := by
  have st : Stay (Live ρ h) H (Live ρ (h.set k .dead)) H := Stay.of fun b u e n => ⟨e, fun l => n (l.of_set ek al)⟩
  refine ⟨⟨by simp [R.len], fun j u b e1 e2 => ?_, fun i j b u w e1 e2 e3 e4 l1 l2 => ?_⟩, fun ⟨j, u, e1, e2, l⟩ => ?_, st⟩
  · rcases set_get e1 with ⟨_, e3⟩ | ⟨_, e3⟩
    · subst e3; trivial
    · exact RM.stay (List.prefix_refl _) st (R.ob j u b e3 e2) fun _ e => e
  · rcases set_get e3 with ⟨_, z⟩ | ⟨_, e3⟩
    · subst z; cases l1
    rcases set_get e4 with ⟨_, z⟩ | ⟨_, e4⟩
    · subst z; cases l2
    exact R.inj i j b u w e1 e2 e3 e4 l1 l2
  · rcases set_get e2 with ⟨_, z⟩ | ⟨z, e3⟩
    · subst z; cases l
    · exact z (R.inj j k a u m e1 ea e3 ek l al)
theorem RelS.stay {σD : Sg} {σ : L2.St} (hp : ρ <+: ρ') (st : Stay (Live ρ h) H (Live ρ' h') H') (S : RelS c ρ h H σD σ) : RelS c ρ' h' H' σD σ := ⟨S.1, fun i d e => let ⟨v, e1, q⟩ := S.2 i d e; ⟨v, e1, RD.stay hp st d v q⟩⟩
/-! ### what is walked -/
/-- J walks xs from here on -/
def Wk (c : Ct) (ρ : List Addr) (h : Cs) (H : Hp) (xs : List D) (J : It) : Prop := ∃ (G : Hp → Prop) (Y : Nat → Hp → V → Hp → Prop), Walk J xs.length G Y ∧
  ∀ (ρ' : List Addr) (h' : Cs) (H' : Hp), Go ρ h H ρ' h' H' → Rel c ρ' h' H' → G H' ∧ ∀ (i : Nat) (x : V) (H2 : Hp) (d : D), Y i H' x H2 → xs[i]? = some d → Go ρ' h' H' ρ' h' H2 ∧ Rel c ρ' h' H2 ∧ RD c ρ' (Live ρ' h') H2 d x
theorem RDs.get {L : Addr → Prop} : ∀ {xs : List D} {vs : List V} {i : Nat} {d : D}, RDs c ρ L H xs vs → xs[i]? = some d → ∃ v, vs[i]? = some v ∧ RD c ρ L H d v
  | [], _, i, _, _, e => by simp at e
  | x :: xs, vs, 0, d, r, e => by
    obtain ⟨v, t, rfl, r1, _⟩ := r.cons_inv
    simp only [List.getElem?_cons_zero, Option.some.injEq] at e; subst e
    exact ⟨v, rfl, r1⟩
  | x :: xs, vs, i + 1, d, r, e => by
    obtain ⟨v, t, rfl, _, r2⟩ := r.cons_inv
    simp only [List.getElem?_cons_succ] at e ⊢
    exact RDs.get r2 e
theorem Wk.lst {a : Addr} {xs : List D} {vs : List V} (hq : ∀ (ρ' : List Addr) (h' : Cs) (H' : Hp), Go ρ h H ρ' h' H' → SqL c.K H' a vs) (r : RDs c ρ (Live ρ h) H xs vs) : Wk c ρ h H xs (Itl c.K a) := by
  refine ⟨_, _, r.length ▸ walk_list (K := c.K) (a := a) (xs := vs), fun ρ' h' H' g R => ⟨hq ρ' h' H' g, fun i x H2 d y e => ?_⟩⟩
  obtain ⟨rfl, y⟩ := y
  obtain ⟨v, e1, r1⟩ := RDs.get (g.rds r) e
  rw [e1] at y; cases y
  exact ⟨Go.refl, R, r1⟩
theorem Wk.tup {a : Addr} {xs : List D} {vs : List V} (q : FTup c.K (Live ρ h) H a vs) (r : RDs c ρ (Live ρ h) H xs vs) : Wk c ρ h H xs (Itt c.K a) := by
  refine ⟨_, _, r.length ▸ walk_tup (K := c.K) (a := a) (xs := vs), fun ρ' h' H' g R => ⟨(FTup.stay g.stayR q).sq, fun i x H2 d y e => ?_⟩⟩
  obtain ⟨rfl, y⟩ := y
  obtain ⟨v, e1, r1⟩ := RDs.get (g.rds r) e
  rw [e1] at y; cases y
  exact ⟨Go.refl, R, r1⟩
theorem Wk.range {a b : Int} : Wk c ρ h H (rangeL a b) (Itr a (b - a).toNat) := by
  have hl : (rangeL a b).length = (b - a).toNat := by simp [rangeL]
  refine ⟨_, _, (by rw [hl]; exact walk_range (lo := a)), fun ρ' h' H' g R => ⟨trivial, fun i x H2 d y e => ?_⟩⟩
  obtain ⟨rfl, rfl⟩ := y
  have hi := (List.getElem?_eq_some_iff.mp e).1
  rw [hl] at hi
  simp only [rangeL, List.getElem?_map, List.getElem?_range hi, Option.map_some, Option.some.injEq] at e
  subst e
  exact ⟨Go.refl, R, by simp only [RD, RP]⟩
theorem Wk.str {z : Str} : Wk c ρ h H (z.cps.toList.map fun c => D.p (chr1 c)) (Its z) := by
  have hl : (z.cps.toList.map fun c => D.p (chr1 c)).length = z.cps.size := by simp
  refine ⟨_, _, (by rw [hl]; exact walk_str (z := z)), fun ρ' h' H' g R => ⟨trivial, fun i x H2 d y e => ?_⟩⟩
  obtain ⟨rfl, k, ek, rfl⟩ := y
  have e' : z.cps.toList[i]? = some k := by simpa using ek
  simp only [List.getElem?_map, e', Option.map_some, Option.some.injEq] at e
  subst e
  exact ⟨Go.refl, R, by simp only [RD, RP, chr1]⟩
/-- a new pair -/
theorem pair_new {dx dy : D} {x y : V} {T : Addr} (R : Rel c ρ h H) (hT : H T = none) (rx : RD c ρ (Live ρ h) H dx x) (ry : RD c ρ (Live ρ h) H dy y) :
    Go ρ h H ρ h (upd H T (.tup [x, y])) ∧ Rel c ρ h (upd H T (.tup [x, y])) ∧ RD c ρ (Live ρ h) (upd H T (.tup [x, y])) (mkTup [dx, dy]) (.ref T) := by
  obtain ⟨R1, g, q⟩ := R.newTup hT (RDs.cons rx (RDs.cons ry RDs.nil))
  exact ⟨g, R1, q⟩
theorem enumD_length : ∀ (n : Nat) (xs : List D), (enumD n xs).length = xs.length
  | _, [] => rfl
  | n, x :: xs => by simp [enumD, enumD_length (n + 1) xs]
theorem enumD_get : ∀ (n : Nat) (xs : List D) {i : Nat} {d : D}, (enumD n xs)[i]? = some d → ∃ x, xs[i]? = some x ∧ d = mkTup [.p (.int (n + i : Nat)), x]
  | _, [], i, _, e => by simp [enumD] at e
  | n, x :: xs, 0, d, e => by
    simp only [enumD, List.getElem?_cons_zero, Option.some.injEq] at e
    exact ⟨x, rfl, e.symm⟩
  | n, x :: xs, i + 1, d, e => by
    simp only [enumD, List.getElem?_cons_succ] at e
    obtain ⟨y, e1, e2⟩ := enumD_get (n + 1) xs e
    exact ⟨y, e1, by rw [e2, show n + 1 + i = n + (i + 1) by omega]⟩
theorem zipD_length : ∀ (xs ys : List D), (zipD xs ys).length = min xs.length ys.length
  | [], ys => by simp [zipD]
  | x :: xs, [] => by simp [zipD]
  | x :: xs, y :: ys => by simp only [zipD, List.length_cons, zipD_length xs ys]; omega
theorem zipD_get : ∀ (xs ys : List D) {i : Nat} {d : D}, (zipD xs ys)[i]? = some d → ∃ x y, xs[i]? = some x ∧ ys[i]? = some y ∧ d = mkTup [x, y]
  | [], ys, i, _, e => by simp [zipD] at e
  | x :: xs, [], i, _, e => by simp [zipD] at e
  | x :: xs, y :: ys, 0, d, e => by
    simp only [zipD, List.getElem?_cons_zero, Option.some.injEq] at e
    exact ⟨x, y, rfl, rfl, e.symm⟩
  | x :: xs, y :: ys, i + 1, d, e => by
    simp only [zipD, List.getElem?_cons_succ] at e
    exact zipD_get xs ys e
theorem Wk.enumOf {xs : List D} {vs : List V} {J : It} {G : Hp → Prop} (w : Walk J vs.length G (YPair (fun i => some (.int (i : Nat))) (fun i => vs[i]?))) (hq : ∀ (ρ' : List Addr) (h' : Cs) (H' : Hp), Go ρ h H ρ' h' H' → G H') (r : RDs c ρ (Live ρ h) H xs vs) : Wk c ρ h H (enumD 0 xs) J := by
  refine ⟨G, _, (by rw [enumD_length, ← r.length]; exact w), fun ρ' h' H' g R => ⟨hq ρ' h' H' g, fun i x H2 d y e => ?_⟩⟩
  obtain ⟨T, u, v, rfl, hT, rfl, e1, e2⟩ := y
  obtain ⟨d', e3, rfl⟩ := enumD_get 0 xs e
  obtain ⟨v', e4, r1⟩ := RDs.get (g.rds r) e3
  have e2' : vs[i]? = some v := e2
  rw [e4] at e2'; cases e2'
  cases e1
  rw [Nat.zero_add]
  exact pair_new R hT (by simp only [RD, RP]) r1
theorem Wk.zipOf {xs ys : List D} {vs us : List V} {J : It} {n : Nat} {G : Hp → Prop} (hn : n = min vs.length us.length) (w : Walk J n G (YPair (fun i => vs[i]?) (fun i => us[i]?))) (hq : ∀ (ρ' : List Addr) (h' : Cs) (H' : Hp), Go ρ h H ρ' h' H' → G H')
    (r : RDs c ρ (Live ρ h) H xs vs) (r2 : RDs c ρ (Live ρ h) H ys us) : Wk c ρ h H (zipD xs ys) J := by
  refine ⟨G, _, (by rw [zipD_length, ← r.length, ← r2.length, ← hn]; exact w), fun ρ' h' H' g R => ⟨hq ρ' h' H' g, fun i x H2 d y e => ?_⟩⟩
  obtain ⟨T, u, v, rfl, hT, rfl, e1, e2⟩ := y
  obtain ⟨d1, d2, e3, e4, rfl⟩ := zipD_get xs ys e
  obtain ⟨v1, e5, q1⟩ := RDs.get (g.rds r) e3
  obtain ⟨v2, e6, q2⟩ := RDs.get (g.rds r2) e4
  have e1' : vs[i]? = some u := e1
  have e2' : us[i]? = some v := e2
  rw [e5] at e1'; cases e1'
  rw [e6] at e2'; cases e2'
  exact pair_new R hT q1 q2
/-! ### the readings -/
/-- a list's items, at V's level, and how it stays -/
theorem lstOf_rel {d : D} {v : V} {xs : List D} (R : Rel c ρ h H) (r : RD c ρ (Live ρ h) H d v) (e : lstOf d h = some xs) :
    ∃ a vs, v = .ref a ∧ SqL c.K H a vs ∧ RDs c ρ (Live ρ h) H xs vs ∧ ((∀ k, d ≠ .ref k) ∧ FLst c.K (Live ρ h) H a vs ∨ ∃ k m, d = .ref k ∧ ρ[k]? = some a ∧ h[k]? = some m ∧ m.alive = true ∧ H a = some (.lst vs)) := by
  cases d with
  | p y =>
    cases y with
    | list ys =>
      simp only [lstOf, Option.some.injEq] at e; subst e
      simp only [RD, RP] at r
      obtain ⟨a, vs, rfl, q, r⟩ := r
      exact ⟨a, vs, rfl, q.sq, RDs.ofP r, .inl ⟨fun k z => (nomatch z), q⟩⟩
    | _ => simp [lstOf] at e
  | lst ys =>
    simp only [lstOf, Option.some.injEq] at e; subst e
    simp only [RD] at r
    obtain ⟨a, vs, rfl, q, r⟩ := r
    exact ⟨a, vs, rfl, q.sq, r, .inl ⟨fun k z => (nomatch z), q⟩⟩
  | ref k =>
    simp only [RD] at r
    obtain ⟨a, rfl, ea⟩ := r
    simp only [lstOf] at e
    cases ek : h[k]? with
    | none => rw [ek] at e; cases e
    | some o =>
      have q := R.ob k o a ek ea
      rw [ek] at e
      cases o with
      | lst ys =>
        obtain ⟨vs, e1, r⟩ := q
        simp only [Option.some.injEq] at e; subst e
        exact ⟨a, vs, rfl, SqL.of e1, RDs.ofP r, .inr ⟨k, _, rfl, ea, ek, rfl, e1⟩⟩
      | lsr ys =>
        obtain ⟨vs, e1, r⟩ := q
        simp only [Option.some.injEq] at e; subst e
        exact ⟨a, vs, rfl, SqL.of e1, r, .inr ⟨k, _, rfl, ea, ek, rfl, e1⟩⟩
      | dct _ _ => cases e
      | exc _ _ => cases e
      | dead => cases e
      | held => cases e
  | fn _ => simp [lstOf] at e
  | tup _ => simp [lstOf] at e
  | dct _ _ => simp [lstOf] at e
  | exn _ _ _ _ => simp [lstOf] at e
/-- .. held while it is walked -/
theorem lstOf_held {d : D} {v : V} {xs : List D} {ds : List D} (R : Rel c ρ h H) (r : RD c ρ (Live ρ h) H d v) (e : lstOf d h = some xs) (hd : d ∈ ds) (al : Alv ρ h ds) :
    ∃ a vs, v = .ref a ∧ SqL c.K H a vs ∧ RDs c ρ (Live ρ (Pd.hold ds h)) H xs vs ∧ ∀ (ρ' : List Addr) (h' : Cs) (H' : Hp), Go ρ (Pd.hold ds h) H ρ' h' H' → SqL c.K H' a vs := by
  obtain ⟨a, vs, rfl, q, rs, k⟩ := lstOf_rel R r e
  obtain ⟨R1, lv, _⟩ := R.holdAll ds al
  have st : Stay (Live ρ h) H (Live ρ (Pd.hold ds h)) H := Stay.of fun b o e n => ⟨e, fun l => n ((lv b).mp l)⟩
  refine ⟨a, vs, rfl, q, RDs.stay (List.prefix_refl _) st _ _ rs, fun ρ' h' H' g => ?_⟩
  rcases k with ⟨_, q⟩ | ⟨k, m, rfl, ea, ek, am, e1⟩
  · exact (FLst.stay g.stayR (FLst.stay st q)).sq
  · have hk : (Pd.hold ds h)[k]? = some .held := hold_at ds h al hd
    exact SqL.of ((g.held k a hk ea).2.trans e1)
where
  hold_at : ∀ (ds : List D) (h : Cs) {k : Nat}, Alv ρ h ds → D.ref k ∈ ds → (Pd.hold ds h)[k]? = some .held
  | [], _, _, _, hm => by cases hm
  | d :: r, h, k, al, hm => by
    have alr : Alv ρ h r := fun k hk => al k (List.mem_cons_of_mem _ hk)
    have keep : ∀ (r : List D) (h : Cs), h[k]? = some .held → (Pd.hold r h)[k]? = some .held := keepH
    cases d with
    | ref j =>
      obtain ⟨m, a, ek, ea, am⟩ := al j List.mem_cons_self
      have lt : j < h.length := (List.getElem?_eq_some_iff.mp ek).1
      by_cases z : k = j
      · subst z; exact keep r _ (List.getElem?_set_self lt)
      · have hm' : D.ref k ∈ r := by
          rcases List.mem_cons.mp hm with e | e
          · cases e; exact absurd rfl z
          · exact e
        refine hold_at r (h.set j .held) (fun i hi => ?_) hm'
        obtain ⟨m', a', e1, e2, al'⟩ := alr i hi
        by_cases z : i = j
        · subst z; exact ⟨.held, a', List.getElem?_set_self lt, e2, rfl⟩
        · exact ⟨m', a', by rw [List.getElem?_set_ne (Ne.symm z)]; exact e1, e2, al'⟩
    | p _ => exact hold_at r h alr ((List.mem_cons.mp hm).resolve_left (fun z => nomatch z))
    | fn _ => exact hold_at r h alr ((List.mem_cons.mp hm).resolve_left (fun z => nomatch z))
    | tup _ => exact hold_at r h alr ((List.mem_cons.mp hm).resolve_left (fun z => nomatch z))
    | lst _ => exact hold_at r h alr ((List.mem_cons.mp hm).resolve_left (fun z => nomatch z))
    | dct _ _ => exact hold_at r h alr ((List.mem_cons.mp hm).resolve_left (fun z => nomatch z))
    | exn _ _ _ _ => exact hold_at r h alr ((List.mem_cons.mp hm).resolve_left (fun z => nomatch z))
  keepH {k : Nat} : ∀ (r : List D) (h : Cs), h[k]? = some .held → (Pd.hold r h)[k]? = some .held
  | [], _, e => e
  | d :: r, h, e => by
    cases d with
    | ref j =>
      refine keepH r _ ?_
      by_cases z : k = j
      · subst z; exact List.getElem?_set_self (List.getElem?_eq_some_iff.mp e).1
      · show (List.set h j .held)[k]? = _
        rw [List.getElem?_set_ne (Ne.symm z)]; exact e
    | p _ => exact keepH r h e
    | fn _ => exact keepH r h e
    | tup _ => exact keepH r h e
    | lst _ => exact keepH r h e
    | dct _ _ => exact keepH r h e
    | exn _ _ _ _ => exact keepH r h e
end
section
variable (c : Ct) (G : Nat → D) (F : FT) (W : WX)
/-- what is walked: the IR's kind and arguments -/
def tI (ik : IK) (irs : List E) : TI := fun σ H Rr => ∃ ρ h σD, Rel c ρ h H ∧ RelS c ρ h H σD σ ∧ match evs G F irs σD h with
  | .ok ds h1 => (match walk ik ds h1 with
    | some xs => ∀ (ρ1 : List Addr) (H1 : Hp), Go ρ h H ρ1 h1 H1 → Rel c ρ1 h1 H1 → Alv ρ1 h1 ds → ∀ J, Wk c ρ1 (Pd.hold ds h1) H1 xs J → Rr J H1
    | none => False)
  | .ex n d h' => ExW c W σ ρ h H n d h'
  | .no _ => False
end
theorem piImp {X : Cx} {tg e : Expr} {t t' : TI} (h : PI X tg e t) (i : ∀ σ H R, t' σ H R → t σ H R) : PI X tg e t' := ⟨fun pins s σ H R I q => h.run pins s σ H R I (i σ H R q)⟩
section
variable {X : Cx} {n : Nm} {G : Nat → D} {F : FT} {W : WX} {a b d e : Expr} {a' b' d' e' : E} {es : List Expr} {irs : List E} {pos : Pos}
theorem tI_args {c : Ct} {ik : IK} {σ : L2.St} {H : Hp} {Rr : It → Hp → Prop} {P : List V → Hp → Prop} (w : tI c G F W ik irs σ H Rr)
    (k : ∀ (ds : List D) (h1 : Cs) (vs : List V) (H1 : Hp) (ρ1 : List Addr) (xs : List D), ds.length = irs.length → Rel c ρ1 h1 H1 → RDs c ρ1 (Live ρ1 h1) H1 ds vs → walk ik ds h1 = some xs → (Alv ρ1 h1 ds → ∀ J, Wk c ρ1 (Pd.hold ds h1) H1 xs J → Rr J H1) → P vs H1) : tEs c G F W irs σ H P := by
  obtain ⟨ρ, h, σD, R, S, w⟩ := w
  refine ⟨ρ, h, σD, R, S, ?_⟩
  cases e : evs G F irs σD h with
  | no _ => rw [e] at w; exact w
  | ex _ _ _ => rw [e] at w; exact w
  | ok ds h1 =>
    rw [e] at w
    intro vs H1 ρ1 g1 R1 r1
    have w' : match walk ik ds h1 with | some xs => ∀ (ρ1 : List Addr) (H1 : Hp), Go ρ h H ρ1 h1 H1 → Rel c ρ1 h1 H1 → Alv ρ1 h1 ds → ∀ J, Wk c ρ1 (Pd.hold ds h1) H1 xs J → Rr J H1 | none => False := w
    cases e1 : walk ik ds h1 with
    | none => rw [e1] at w'; exact w'.elim
    | some xs =>
      rw [e1] at w'
      exact k ds h1 vs H1 ρ1 xs (evs_length e) R1 r1 e1 (w' ρ1 H1 g1 R1)
theorem alv_one {c : Ct} {ρ : List Addr} {h : Cs} {H : Hp} {d : D} {v : V} (R : Rel c ρ h H) (r : RD c ρ (Live ρ h) H d v) (e : ∀ k, d = .ref k → ∃ m, h[k]? = some m ∧ m.alive = true) : Alv ρ h [d] := fun k hk => by
  have z : d = .ref k := by simpa using (List.mem_singleton.mp hk).symm
  subst z
  obtain ⟨m, e1, e2⟩ := e k rfl
  simp only [RD] at r
  obtain ⟨a, _, q⟩ := r
  exact ⟨m, a, e1, q, e2⟩
theorem lstOf_alive {d : D} {h : Cs} {xs : List D} (e : lstOf d h = some xs) : ∀ k, d = .ref k → ∃ m, h[k]? = some m ∧ m.alive = true := fun k z => by
  subst z
  simp only [lstOf] at e
  cases ek : h[k]? with
  | none => rw [ek] at e; cases e
  | some o =>
    rw [ek] at e
    cases o with
    | lst _ => exact ⟨_, rfl, rfl⟩
    | lsr _ => exact ⟨_, rfl, rfl⟩
    | dct _ _ => cases e
    | exc _ _ => cases e
    | dead => cases e
    | held => cases e
theorem tupOf_alive {d : D} {h : Cs} {xs : List D} (e : tupOf d = some xs) : ∀ k, d = .ref k → ∃ m, h[k]? = some m ∧ m.alive = true := fun k z => by
  subst z; simp [tupOf] at e
theorem rds_one {c : Ct} {ρ : List Addr} {L : Addr → Prop} {H : Hp} {d : D} {vs : List V} (r : RDs c ρ L H [d] vs) : ∃ v, vs = [v] ∧ RD c ρ L H d v := by
  obtain ⟨v, t, rfl, r1, r2⟩ := r.cons_inv
  simp only [RDs] at r2
  subst r2
  exact ⟨v, rfl, r1⟩
theorem rds_two {c : Ct} {ρ : List Addr} {L : Addr → Prop} {H : Hp} {d e : D} {vs : List V} (r : RDs c ρ L H [d, e] vs) : ∃ v u, vs = [v, u] ∧ RD c ρ L H d v ∧ RD c ρ L H e u := by
  obtain ⟨v, t, rfl, r1, r2⟩ := r.cons_inv
  obtain ⟨u, rfl, r3⟩ := rds_one r2
  exact ⟨v, u, rfl, r1, r3⟩
theorem holdS {c : Ct} {ρ : List Addr} {h : Cs} {H : Hp} {ds : List D} (R : Rel c ρ h H) (al : Alv ρ h ds) : Stay (Live ρ h) H (Live ρ (Pd.hold ds h)) H := by
  obtain ⟨_, lv, _⟩ := R.holdAll ds al
  exact Stay.of fun b o e n => ⟨e, fun l => n ((lv b).mp l)⟩
theorem len2 {α : Type} {l : List α} (h : l.length = 2) : ∃ a b, l = [a, b] := by
  match l, h with
  | [a, b], _ => exact ⟨a, b, rfl⟩
theorem i_seq {tg l : Expr} {l' : E} (hl : PE X l (tE (cx X n) G F W l')) : PI X tg l (tI (cx X n) G F W .seq [l']) :=
  piImp (pi_any hl) fun σ H Rr w => by
    have w2 := tI_args (P := fun vs H1 => ∃ x, vs = [x] ∧ ((∃ a xs, x = .ref a ∧ SqL X.K H1 a xs ∧ Rr (Itl X.K a) H1) ∨ (∃ a xs, x = .ref a ∧ SqT X.K H1 a xs ∧ Rr (Itt X.K a) H1) ∨ (∃ z, x = .str z ∧ Rr (Its z) H1))) w fun ds h1 vs H1 ρ1 xs hl R1 r1 e1 kk => by
      obtain ⟨d, rfl⟩ := List.length_eq_one_iff.mp hl
      obtain ⟨v, rfl, r2⟩ := rds_one r1
      refine ⟨v, rfl, ?_⟩
      have e2 : walkS d h1 = some xs := e1
      unfold walkS at e2
      cases el : lstOf d h1 with
      | some ys =>
        rw [el] at e2
        cases e2
        have al := alv_one R1 r2 (lstOf_alive el)
        obtain ⟨a, us, rfl, q, r3, st⟩ := lstOf_held R1 r2 el (List.mem_singleton.mpr rfl) al
        exact .inl ⟨a, us, rfl, q, kk al _ (Wk.lst st r3)⟩
      | none =>
        rw [el] at e2
        have e3 : walkT d = some xs := e2
        unfold walkT at e3
        cases et : tupOf d with
        | some ys =>
          rw [et] at e3
          cases e3
          have al : Alv ρ1 h1 [d] := alv_one R1 r2 (tupOf_alive et)
          obtain ⟨a, us, rfl, q, r3⟩ := tupOf_rel r2 et
          have st := holdS R1 al
          exact .inr (.inl ⟨a, us, rfl, q.sq, kk al _ (Wk.tup (FTup.stay st q) (RDs.stay (List.prefix_refl _) st _ _ r3))⟩)
        | none =>
          rw [et] at e3
          cases d with
          | p y =>
            cases y with
            | str z =>
              cases e3
              simp only [RD, RP] at r2
              subst r2
              exact .inr (.inr ⟨z, rfl, kk (fun k hk => by simp at hk) _ Wk.str⟩)
            | _ => cases e3
          | _ => cases e3
    obtain ⟨ρ, h, σD, R, S, w2⟩ := w2
    refine ⟨ρ, h, σD, R, S, ?_⟩
    simp only [evs] at w2
    refine w2.bind fun dd h1 x H1 ρ1 g1 R1 r1 w3 => ?_
    obtain ⟨x', e, q⟩ := w3 [x] H1 ρ1 Go.refl R1 (RDs.cons r1 RDs.nil)
    cases e
    exact q
theorem i_range1 {tg a : Expr} {a' : E} {p pos : Pos} (hg : Gl X "range") (hm : X.mg "range" = none) (ha : PA X [a] (tEs (cx X n) G F W [a'])) (hs : starEach [a] X.env = [(false, eval a X.env)]) : PI X tg (.Call (.Name "range" p) [a] [] pos) (tI (cx X n) G F W .range [a']) :=
  piImp (pi_range1 hg hm ha hs) fun σ H Rr w => tI_args w fun ds h1 vs H1 ρ1 xs hl R1 r1 e1 kk => by
    obtain ⟨d, rfl⟩ := List.length_eq_one_iff.mp hl
    obtain ⟨v, rfl, r2⟩ := rds_one r1
    cases d with
    | p y =>
      cases y with
      | int j =>
        simp only [walk] at e1
        split at e1
        · rename_i hb
          simp only [Bool.and_eq_true, decide_eq_true_eq] at hb
          cases e1
          simp only [RD, RP] at r2
          subst r2
          refine ⟨j, rfl, by omega, by omega, ?_⟩
          have := kk (fun k hk => by simp at hk) _ (Wk.range (a := 0) (b := j))
          simpa using this
        · cases e1
      | _ => simp [walk] at e1
    | _ => simp [walk] at e1
theorem i_range2 {tg a b : Expr} {a' b' : E} {p pos : Pos} (hg : Gl X "range") (hm : X.mg "range" = none) (ha : PA X [a, b] (tEs (cx X n) G F W [a', b'])) (hs : starEach [a, b] X.env = [(false, eval a X.env), (false, eval b X.env)]) (hs2 : starEach [b] X.env = [(false, eval b X.env)]) :
    PI X tg (.Call (.Name "range" p) [a, b] [] pos) (tI (cx X n) G F W .range [a', b']) :=
  piImp (pi_range2 hg hm ha hs hs2) fun σ H Rr w => tI_args w fun ds h1 vs H1 ρ1 xs hl R1 r1 e1 kk => by
    obtain ⟨d, d2, rfl⟩ := len2 hl
    obtain ⟨v, u, rfl, r2, r3⟩ := rds_two r1
    cases d with
    | p y =>
      cases y with
      | int i =>
        cases d2 with
        | p y2 =>
          cases y2 with
          | int j =>
            simp only [walk] at e1
            split at e1
            · rename_i hb
              simp only [Bool.and_eq_true, decide_eq_true_eq] at hb
              cases e1
              simp only [RD, RP] at r2 r3
              subst r2; subst r3
              exact ⟨i, j, rfl, ⟨by omega, by omega, by omega, by omega⟩, kk (fun k hk => by simp at hk) _ (Wk.range (a := i) (b := j))⟩
            · cases e1
          | _ => simp [walk] at e1
        | _ => simp [walk] at e1
      | _ => simp [walk] at e1
    | _ => simp [walk] at e1
theorem i_enum {a : Expr} {a' : E} {p pos tpos : Pos} {elts : List Expr} {kk : Nat} (hg : Gl X "enumerate") (hm : X.mg "enumerate" = none) (ha : PA X [a] (tEs (cx X n) G F W [a'])) (hs : starEach [a] X.env = [(false, eval a X.env)]) :
    PI X (.Tuple elts kk tpos) (.Call (.Name "enumerate" p) [a] [] pos) (tI (cx X n) G F W .enum [a']) :=
  piImp (pi_enumA hg hm ha hs) fun σ H Rr w => tI_args w fun ds h1 vs H1 ρ1 xs hl R1 r1 e1 kk => by
    obtain ⟨d, rfl⟩ := List.length_eq_one_iff.mp hl
    obtain ⟨v, rfl, r2⟩ := rds_one r1
    simp only [walk] at e1
    cases el : lstOf d h1 with
    | some ys =>
      rw [el] at e1
      cases e1
      have al := alv_one R1 r2 (lstOf_alive el)
      obtain ⟨a, us, rfl, q, r3, st⟩ := lstOf_held R1 r2 el (List.mem_singleton.mpr rfl) al
      exact ⟨a, us, rfl, .inl ⟨q, kk al _ (Wk.enumOf walk_enum st r3)⟩⟩
    | none =>
      rw [el] at e1
      have e2 : (tupOf d).map (enumD 0) = some xs := e1
      cases et : tupOf d with
      | none => rw [et] at e2; cases e2
      | some ys =>
        rw [et] at e2
        cases e2
        have al : Alv ρ1 h1 [d] := alv_one R1 r2 (tupOf_alive et)
        obtain ⟨a, us, rfl, q, r3⟩ := tupOf_rel r2 et
        have st := holdS R1 al
        exact ⟨a, us, rfl, .inr ⟨q.sq, kk al _ (Wk.enumOf walk_enumT (fun ρ' h' H' g => (FTup.stay g.stayR (FTup.stay st q)).sq) (RDs.stay (List.prefix_refl _) st _ _ r3))⟩⟩
theorem alv_two {ρ : List Addr} {h : Cs} {d e : D} (a : Alv ρ h [d]) (b : Alv ρ h [e]) : Alv ρ h [d, e] := fun k hk => by
  rcases List.mem_cons.mp hk with z | z
  · exact a k (List.mem_singleton.mpr z)
  · exact b k z
theorem walk_zipT {K : PySem.W.Frag} {a b : Addr} {xs ys : List V} {n : Nat} (hn : n = min xs.length ys.length) : Walk (RZ.ItzT K a b) n (fun H => SqT K H a xs ∧ SqT K H b ys) (YPair (fun i => xs[i]?) (fun i => ys[i]?)) := by
  subst hn
  refine ⟨fun i _ hi q => ?_, fun _ q => ⟨xs, ys, q.1, q.2, by omega⟩, fun i H v H' _ q y => ?_⟩
  · have h1 : i < xs.length := by omega
    have h2 : i < ys.length := by omega
    exact ⟨xs, ys, xs[i], ys[i], q.1, q.2, by simp [h1], by simp [h2]⟩
  · obtain ⟨T, x, z, h1, h2, h3, h4, h5⟩ := y
    exact ⟨T, x, z, h1, h2, h3, h4 xs q.1, h5 ys q.2⟩
theorem i_zip {a b : Expr} {a' b' : E} {p pos tpos : Pos} {elts : List Expr} {kk : Nat} (hg : Gl X "zip") (hm : X.mg "zip" = none) (ha : PA X [a, b] (tEs (cx X n) G F W [a', b'])) (hs : starEach [a, b] X.env = (false, eval a X.env) :: starEach [b] X.env) (hpl : (backTo pos (starEach [b] X.env)).any (·.1) = false) :
    PI X (.Tuple elts kk tpos) (.Call (.Name "zip" p) [a, b] [] pos) (tI (cx X n) G F W .zip [a', b']) :=
  piImp (RZ.pi_zipA hg hm ha hs hpl) fun σ H Rr w => tI_args w fun ds h1 vs H1 ρ1 xs hl R1 r1 e1 kk => by
    obtain ⟨d, d2, rfl⟩ := len2 hl
    obtain ⟨v, u, rfl, r2, r3⟩ := rds_two r1
    simp only [walk] at e1
    have tup : ∀ {ys zs : List D}, tupOf d = some ys → tupOf d2 = some zs → xs = zipD ys zs → ∃ a b xs ys, [v, u] = [V.ref a, V.ref b] ∧ ((SqL X.K H1 a xs ∧ SqL X.K H1 b ys ∧ Rr (Itz X.K a b) H1) ∨ (SqT X.K H1 a xs ∧ SqT X.K H1 b ys ∧ Rr (RZ.ItzT X.K a b) H1)) := fun {ys zs} et et2 ex => by
      subst ex
      have al : Alv ρ1 h1 [d, d2] := alv_two (alv_one R1 r2 (tupOf_alive et)) (alv_one R1 r3 (tupOf_alive et2))
      obtain ⟨a, us, rfl, q, r4⟩ := tupOf_rel r2 et
      obtain ⟨b, ws, rfl, q2, r5⟩ := tupOf_rel r3 et2
      have st := holdS R1 al
      exact ⟨a, b, us, ws, rfl, .inr ⟨q.sq, q2.sq, kk al _ (Wk.zipOf rfl (walk_zipT rfl) (fun ρ' h' H' g => ⟨(FTup.stay g.stayR (FTup.stay st q)).sq, (FTup.stay g.stayR (FTup.stay st q2)).sq⟩) (RDs.stay (List.prefix_refl _) st _ _ r4) (RDs.stay (List.prefix_refl _) st _ _ r5))⟩⟩
    have tups : (match tupOf d, tupOf d2 with | some xs, some ys => some (zipD xs ys) | _, _ => none) = some xs → ∃ a b xs ys, [v, u] = [V.ref a, V.ref b] ∧ ((SqL X.K H1 a xs ∧ SqL X.K H1 b ys ∧ Rr (Itz X.K a b) H1) ∨ (SqT X.K H1 a xs ∧ SqT X.K H1 b ys ∧ Rr (RZ.ItzT X.K a b) H1)) := fun e => by
      cases et : tupOf d with
      | none => rw [et] at e; cases e
      | some ys =>
        cases et2 : tupOf d2 with
        | none => rw [et, et2] at e; cases e
        | some zs => rw [et, et2] at e; cases e; exact tup et et2 rfl
    cases el : lstOf d h1 with
    | none => rw [el] at e1; exact tups e1
    | some ys =>
      cases el2 : lstOf d2 h1 with
      | none => rw [el, el2] at e1; exact tups e1
      | some zs =>
        rw [el, el2] at e1
        cases e1
        have al : Alv ρ1 h1 [d, d2] := alv_two (alv_one R1 r2 (lstOf_alive el)) (alv_one R1 r3 (lstOf_alive el2))
        obtain ⟨a, us, rfl, q, r4, st⟩ := lstOf_held R1 r2 el List.mem_cons_self al
        obtain ⟨b, ws, rfl, q2, r5, st2⟩ := lstOf_held R1 r3 el2 (List.mem_cons_of_mem _ (List.mem_singleton.mpr rfl)) al
        exact ⟨a, b, us, ws, rfl, .inl ⟨q, q2, kk al _ (Wk.zipOf rfl (walk_zip rfl) (fun ρ' h' H' g => ⟨st ρ' h' H' g, st2 ρ' h' H' g⟩) r4 r5)⟩⟩
end
end Pd
end
section
/-! PdL: for, list comprehensions. -/
namespace Pd
open PySem PySem.Spec PyProof.Rows L2
section
variable {X : Cx} {n : Nm} {G : Nat → D} {F : FT} {W : WX} {a b d e : Expr} {a' b' d' e' : E} {es : List Expr} {irs : List E} {pos : Pos}
theorem ex_of_st {c : Ct} {σ : L2.St} {σD : Sg} {ρ : List Addr} {h : Cs} {H : Hp} {D : L2.Ends} {m : Nat} {d : Pd.D} {h' : Cs} (S : RelS c ρ h H σD σ) (w : Wo c W ρ h H (.ex m d σD h') D) : ExW c W σ ρ h H m d h' :=
  fun H' ρ' v dd g R r e => w H' ρ' σ v dd g R (g.relS S) r e
theorem s_for {tg iter : Expr} {t : T} {ik : IK} {body : List Stmt} {bs : List S} (hp : PassesOwn (model X.prog X.w) X.A X.env X.xe) (hc : X.calm = true) (hi : PI X tg iter (tI (cx X n) G F W ik irs)) (hg : PG X tg (tG (cx X n) t)) (hb : PSs X body (tSs (cx X n) G F W bs))
    (hs : ∀ x, foldedSetIterable iter X.env x = pure x) : PS X (.For tg iter body [] pos) (tS (cx X n) G F W (.for t ik irs bs)) :=
  psImp (ps_for hp hc hi hg hb hs) fun D σ H ⟨ρ, h, σD, R, S, w⟩ => by
    simp only [exec] at w
    refine ⟨ρ, h, σD, R, S, ?_⟩
    cases e : evs G F irs σD h with
    | no _ => rw [e] at w; exact w
    | ex m d h' => rw [e] at w; exact ex_of_st S w
    | ok ds h1 =>
      rw [e] at w
      simp only [Pd.R.st] at w
      show match walk ik ds h1 with | some xs => _ | none => False
      cases e1 : walk ik ds h1 with
      | none => rw [e1] at w; exact w
      | some xs =>
        rw [e1] at w
        intro ρ1 H1 g1 R1 al J wk
        have w1 : Wo (cx X n) W ρ1 h1 H1 (O.unhold ds h1 (forGo t (execs G F bs) xs σD (Pd.hold ds h1))) D := Wo.go g1 w
        clear w
        obtain ⟨Gp, Y, wlk, hw⟩ := wk
        obtain ⟨R2, lv2, ln2⟩ := R1.holdAll ds al
        have st2 := holdS R1 al
        refine for_it wlk (fun i σ' H' => ∃ ρ' h' σD', Go ρ1 (Pd.hold ds h1) H1 ρ' h' H' ∧ Rel (cx X n) ρ' h' H' ∧ RelS (cx X n) ρ' h' H' σD' σ' ∧ Wo (cx X n) W ρ1 h1 H1 (O.unhold ds h1 (forGo t (execs G F bs) (xs.drop i) σD' h')) D)
          ⟨ρ1, _, σD, Go.refl, R2, (g1.relS S).stay (List.prefix_refl _) st2, by rw [List.drop_zero]; exact w1⟩ (fun i σ' H' _ ⟨ρ', h', σD', g, R', _, _⟩ => (hw ρ' h' H' g R').1) ?_ ?_
        · rintro i x σ' H' H2 hi ⟨ρ', h', σD', g, R', S', w'⟩ y
          have ei : xs[i]? = some xs[i] := List.getElem?_eq_getElem hi
          obtain ⟨g2, R3, rx⟩ := (hw ρ' h' H' g R').2 i x H2 _ y ei
          refine ⟨ρ', h', σD', xs[i], R3, g2.relS S', rx, ?_⟩
          rw [List.drop_eq_getElem_cons hi] at w'
          simp only [forGo] at w'
          cases e2 : asgT t xs[i] σD' h' with
          | none => rw [e2] at w'; exact w'
          | some σ1 =>
            rw [e2] at w'
            intro σ2 S2 _
            refine ⟨ρ', h', σ1, R3, S2, ?_⟩
            have g3 := g.trans g2
            have back : ∀ {h'' : Cs} {H'' : Hp} {ρ'' : List Addr}, Go ρ' h' H2 ρ'' h'' H'' → Rel (cx X n) ρ'' h'' H'' → Rel (cx X n) ρ'' (Pd.unhold ds h1 h'') H'' ∧ Go ρ1 h1 H1 ρ'' (Pd.unhold ds h1 h'') H'' ∧ Stay (Live ρ'' h'') H'' (Live ρ'' (Pd.unhold ds h1 h'')) H'' := fun {h'' H'' ρ''} g4 R4 => by
              obtain ⟨q1, q2, q3⟩ := R1.unholdAll ds al (g3.trans g4) R4
              exact ⟨q1, q2, Stay.of fun b o e n => ⟨e, fun l => n ((q3 b).mp l)⟩⟩
            have w2 : Wo (cx X n) W ρ1 h1 H1 (O.unhold ds h1 (match execs G F bs σ1 h' with
              | .nx σ' h' => forGo t (execs G F bs) (xs.drop (i + 1)) σ' h'
              | .ct σ' h' => forGo t (execs G F bs) (xs.drop (i + 1)) σ' h'
              | .bk σ' h' => .nx σ' h'
              | o => o)) D := w'
            cases e3 : execs G F bs σ1 h' with
            | nx σ5 h5 => rw [e3] at w2; exact fun H'' ρ'' σ'' g4 R4 S4 => ⟨ρ'', h5, σ5, g3.trans g4, R4, S4, w2⟩
            | ct σ5 h5 => rw [e3] at w2; exact fun H'' ρ'' σ'' g4 R4 S4 => ⟨ρ'', h5, σ5, g3.trans g4, R4, S4, w2⟩
            | bk σ5 h5 =>
              rw [e3] at w2
              intro H'' ρ'' σ'' g4 R4 S4
              obtain ⟨q1, q2, q3⟩ := back g4 R4
              exact w2 H'' ρ'' σ'' q2 q1 (S4.stay (List.prefix_refl _) q3)
            | rt d5 h5 =>
              rw [e3] at w2
              intro v H'' ρ'' g4 R4 r4
              obtain ⟨q1, q2, q3⟩ := back g4 R4
              exact w2 v H'' ρ'' q2 q1 (RD.stay (List.prefix_refl _) q3 _ _ r4)
            | ex m d5 σ5 h5 =>
              rw [e3] at w2
              intro H'' ρ'' σ'' v dd g4 R4 S4 r4 e4
              obtain ⟨q1, q2, q3⟩ := back g4 R4
              exact w2 H'' ρ'' σ'' v dd q2 q1 (S4.stay (List.prefix_refl _) q3) (RD.stay (List.prefix_refl _) q3 _ _ r4) e4
            | no _ => rw [e3] at w2; exact w2
        · rintro σ' H' ⟨ρ', h', σD', g, R', S', w'⟩
          rw [List.drop_length] at w'
          simp only [forGo, O.unhold] at w'
          obtain ⟨q1, q2, q3⟩ := R1.unholdAll ds al g R'
          exact w' H' ρ' σ' q2 q1 (S'.stay (List.prefix_refl _) (Stay.of fun b o e n => ⟨e, fun l => n ((q3 b).mp l)⟩))
/-! ### comprehensions -/
/-- no error is taken here -/
abbrev W0 : WX := fun _ _ _ _ => False
section
variable (c : Ct) (G : Nat → D) (F : FT) (W : WX)
def tTs (irs : List E) : TT := fun σ H Q => ∃ ρ h σD, Rel c ρ h H ∧ RelS c ρ h H σD σ ∧ Wn c W σ ρ h H rB (evt G F irs σD h) Q
end
theorem ts_nil : PTs X [] (tTs (cx X n) G F W []) := ⟨fun pins s σ H Q I ⟨ρ, h, σD, R, S, w⟩ => pts_nil.run pins s σ H Q I (by
  simp only [evt] at w
  exact Wn.ok R w rfl)⟩
theorem ts_one (ha : PT X a (tT (cx X n) G F W a')) : PTs X [a] (tTs (cx X n) G F W [a']) := ⟨fun pins s σ H Q I ⟨ρ, h, σD, R, S, w⟩ => (pts_one ha).run pins s σ H Q I (by
  simp only [evt] at w
  refine ⟨ρ, h, σD, R, S, ?_⟩
  cases e : ev G F a' σD h with
  | no _ => rw [e] at w; exact w
  | ex _ _ _ => rw [e] at w; exact w
  | ok x h1 =>
    rw [e] at w
    have w' : Wn (cx X n) W σ ρ h H rB (match truth x h1 with | some true => evt G F [] σD h1 | some false => .ok false h1 | none => .no "if") Q := w
    show Wn (cx X n) W σ ρ h H rB (match truth x h1 with | some t => .ok t h1 | none => .no "truth") Q
    cases e1 : truth x h1 with
    | none => rw [e1] at w'; exact w'
    | some t => rw [e1] at w'; cases t <;> exact w')⟩
theorem RelS.wipe {c : Ct} {ρ : List Addr} {h : Cs} {H : Hp} {σD : Sg} {σ : L2.St} (S : RelS c ρ h H σD σ) : ∀ (ws : List Nat), RelS c ρ h H (Pd.wipe ws σD) (L2.wipe σ ws)
  | [] => S
  | i :: ws => by
    have S1 := RelS.wipe S ws
    refine ⟨by simp [Pd.wipe, L2.wipe, S1.1], fun j d e => ?_⟩
    simp only [Pd.wipe] at e
    by_cases z : i = j
    · subst z
      by_cases hl : i < (Pd.wipe ws σD).length
      · rw [List.getElem?_set_self hl] at e; cases e
      · rw [List.getElem?_eq_none (by simpa using hl)] at e; cases e
    · rw [List.getElem?_set_ne z] at e
      obtain ⟨v, e1, r⟩ := S1.2 j d e
      exact ⟨v, by simp only [L2.wipe]; rw [List.getElem?_set_ne z]; exact e1, r⟩
theorem wipe_get (σ : L2.St) : ∀ (ws : List Nat) (i : Nat), (L2.wipe σ ws)[i]? = if i ∈ ws ∧ i < σ.length then some none else σ[i]?
  | [], i => by simp [L2.wipe]
  | v :: ws, i => by
    simp only [L2.wipe]
    by_cases z : v = i
    · subst z
      by_cases hl : v < σ.length
      · rw [List.getElem?_set_self (by rw [wipe_length]; exact hl), if_pos ⟨List.mem_cons_self, hl⟩]
      · rw [List.getElem?_eq_none (by simp [wipe_length]; omega), if_neg (fun q => hl q.2), List.getElem?_eq_none (by omega)]
    · rw [List.getElem?_set_ne z, wipe_get σ ws i]
      have e : (i ∈ v :: ws ∧ i < σ.length) ↔ (i ∈ ws ∧ i < σ.length) := by simp [Ne.symm z]
      by_cases q : i ∈ ws ∧ i < σ.length
      · rw [if_pos q, if_pos (e.mpr q)]
      · rw [if_neg q, if_neg (fun k => q (e.mp k))]
theorem wipe_same {σ σ' : L2.St} {vs ws : List Nat} (hs : Same vs σ σ') (hv : ∀ i ∈ vs, i ∈ ws) : L2.wipe σ' ws = L2.wipe σ ws := by
  apply List.ext_getElem?
  intro i
  rw [wipe_get, wipe_get, hs.1]
  by_cases z : i ∈ ws ∧ i < σ.length
  · rw [if_pos z, if_pos z]
  · rw [if_neg z, if_neg z]
    by_cases q : i ∈ ws
    · have hl : ¬ i < σ.length := fun l => z ⟨q, l⟩
      rw [List.getElem?_eq_none (by rw [hs.1]; omega), List.getElem?_eq_none (by omega)]
    · exact hs.2 i fun k => q (hv i k)
theorem wipe_wipe (σ : L2.St) (ws : List Nat) : L2.wipe (L2.wipe σ ws) ws = L2.wipe σ ws := by
  apply List.ext_getElem?
  intro i
  rw [wipe_get, wipe_length, wipe_get]
  split
  · rfl
  · rfl
/-- the accumulating list, held -/
structure Acc (c : Ct) (ρ : List Addr) (h : Cs) (H : Hp) (k : Nat) (D0 : Addr) (acc : List D) (accs : List V) : Prop where
  ek : h[k]? = some .held
  ea : ρ[k]? = some D0
  at_ : H D0 = some (.lst accs)
  rs : RDs c ρ (Live ρ h) H acc accs
theorem Acc.go {c : Ct} {ρ ρ' : List Addr} {h h' : Cs} {H H' : Hp} {k : Nat} {D0 : Addr} {acc : List D} {accs : List V} (A : Acc c ρ h H k D0 acc accs) (g : Go ρ h H ρ' h' H') : Acc c ρ' h' H' k D0 acc accs :=
  ⟨(g.held k D0 A.ek A.ea).1, pre_get g.pre A.ea, (g.held k D0 A.ek A.ea).2.trans A.at_, g.rds A.rs⟩
/-- one item more -/
theorem Acc.push {c : Ct} {ρ0 ρ : List Addr} {h0 h : Cs} {H0 H : Hp} {k : Nat} {D0 : Addr} {acc : List D} {accs : List V} {y : D} {v : V} (R0 : Rel c ρ0 h0 H0) (g : Go ρ0 h0 H0 ρ h H) (hk : h0.length ≤ k) (hD : H0 D0 = none) (A : Acc c ρ h H k D0 acc accs) (R : Rel c ρ h H) (r : RD c ρ (Live ρ h) H y v) :
    Rel c ρ h (upd H D0 (.lst (accs ++ [v]))) ∧ Go ρ0 h0 H0 ρ h (upd H D0 (.lst (accs ++ [v]))) ∧ Acc c ρ h (upd H D0 (.lst (accs ++ [v]))) k D0 (acc ++ [y]) (accs ++ [v]) ∧ Stay (Live ρ h) H (Live ρ h) (upd H D0 (.lst (accs ++ [v]))) := by
  obtain ⟨R1, st⟩ := R.set (m' := .held) (o := .lst (accs ++ [v])) A.ek A.ea rfl fun L' H' _ e => ⟨_, e⟩
  rw [set_same A.ek] at R1 st
  have g1 := Go.cells (m' := .held) (H2 := upd H D0 (.lst (accs ++ [v]))) R0 g hk hD (fun b nb => upd_ne nb) A.ek rfl
  rw [set_same A.ek] at g1
  refine ⟨R1, g1, ⟨A.ek, A.ea, upd_same, ?_⟩, st⟩
  exact rds_append (RDs.stay (List.prefix_refl _) st _ _ A.rs) (RD.stay (List.prefix_refl _) st _ _ r)
where
  rds_append {c : Ct} {ρ : List Addr} {L : Addr → Prop} {H : Hp} {y : D} {v : V} : ∀ {xs : List D} {vs : List V}, RDs c ρ L H xs vs → RD c ρ L H y v → RDs c ρ L H (xs ++ [y]) (vs ++ [v])
    | [], vs, r, q => by simp only [RDs] at r; subst r; exact RDs.cons q RDs.nil
    | x :: xs, vs, r, q => by
      obtain ⟨u, t, rfl, r1, r2⟩ := r.cons_inv
      exact RDs.cons r1 (rds_append r2 q)
/-- the end: what the new list is -/
theorem lc_end {c : Ct} {σ : L2.St} {ρ1 ρ' : List Addr} {h1 h' : Cs} {H1 H' : Hp} {ds : List D} {D0 : Addr} {acc : List D} {accs : List V} {live : Bool} {Q : VK} (R1 : Rel c ρ1 h1 H1) (al : Alv ρ1 h1 ds) (hD : H1 D0 = none)
    (g : Go ρ1 (Pd.hold ds h1) H1 ρ' h' H') (R' : Rel c ρ' h' H') (A : Acc c ρ' h' H' h1.length D0 acc accs) (w : Wn c W σ ρ1 h1 H1 (rD c) (lcEnd live h1.length acc (Pd.unhold ds h1 h')) Q) : Q (.ref D0) H' := by
  obtain ⟨q1, q2, q3⟩ := R1.unholdAll ds al g R'
  have st : Stay (Live ρ' h') H' (Live ρ' (Pd.unhold ds h1 h')) H' := Stay.of fun b o e n => ⟨e, fun l => n ((q3 b).mp l)⟩
  have ek : (Pd.unhold ds h1 h')[h1.length]? = some .held := (unhold_ge ds (Nat.le_refl _)).trans A.ek
  have rs := RDs.stay (List.prefix_refl _) st _ _ A.rs
  generalize Pd.unhold ds h1 h' = hu at w q1 q2 q3 st ek rs
  cases live with
  | true =>
    have alv : (newLst acc).alive = true := by unfold newLst; cases unP acc <;> rfl
    obtain ⟨R2, lv⟩ := q1.swap (m' := newLst acc) ek A.ea rfl alv (by
      unfold newLst
      cases e : unP acc with
      | some ps => exact ⟨accs, A.at_, rs.unP e⟩
      | none => exact ⟨accs, A.at_, rs⟩)
    have g2 := Go.cells (m' := newLst acc) (H2 := H') R1 q2 (Nat.le_refl _) hD (fun b _ => rfl) ek rfl
    exact w (.ref D0) H' ρ' g2 R2 (by simp only [rD, RD]; exact ⟨D0, rfl, A.ea⟩)
  | false =>
    obtain ⟨R2, nl, st2⟩ := q1.drop ek A.ea rfl
    have g2 := Go.cells (m' := .dead) (H2 := H') R1 q2 (Nat.le_refl _) hD (fun b _ => rfl) ek rfl
    have r2 : RD c ρ' (Live ρ' (hu.set h1.length .dead)) H' (mkLst acc) (.ref D0) := RD.mkLst (.inl ⟨.inl A.at_, nl⟩) (RDs.stay (List.prefix_refl _) st2 _ _ rs)
    obtain ⟨ρ2, R3, g3, r3⟩ := R1.trim g2 R2 r2
    exact w (.ref D0) H' ρ2 g3 R3 r3
/-- a comprehension's reading -/
theorem lc_read {c : Ct} {live : Bool} {ws : List Nat} {elt' : E} {t : T} {ik : IK} {its ifs' : List E} (htv : ∀ i ∈ t.vars, i ∈ ws) {σ : L2.St} {H : Hp} {Q : VK} (w : tE c G F W (.lc live ws elt' t ik its ifs') σ H Q) :
    tLc (tI c G F W ik its) (tG c t) (tTs c G F W0 ifs') (tE c G F W0 elt') ws σ H Q := by
  obtain ⟨ρ, h, σD, R, S, w⟩ := w
  simp only [ev] at w
  refine ⟨ρ, h, σD, R, S, ?_⟩
  cases e : evs G F its σD h with
  | no _ => rw [e] at w; exact w
  | ex m d h' => rw [e] at w; exact w
  | ok ds h1 =>
    rw [e] at w
    simp only [Pd.R.bind] at w
    show match walk ik ds h1 with | some xs => _ | none => False
    cases e1 : walk ik ds h1 with
    | none => rw [e1] at w; exact w
    | some xs =>
      rw [e1] at w
      intro ρ1 H1 g1 R1 al J wk D0 hD0
      obtain ⟨f, hf⟩ : ∃ f : D → List D → Cs → Pd.R (List D), f = (fun x acc h2 => match asgT t x (Pd.wipe ws σD) h2 with
        | some σ' => (evt G F ifs' σ' h2).bind fun c h3 => (match c with
          | true => (ev G F elt' σ' h3).bind fun y h4 => pushA acc y h4
          | false => .ok acc h3)
        | none => .no "target") := ⟨_, rfl⟩
      have w1 : Wn c W σ ρ1 h1 H1 (rD c) (Pd.R.bind (Pd.R.unhold ds h1 (Pd.R.tame (lcGo f xs [] (Pd.hold ds h1 ++ [.held])))) fun ys h2 => lcEnd live h1.length ys h2) Q := by
        subst hf; exact Wn.go g1 w
      clear w
      obtain ⟨Gp, Y, wlk, hw⟩ := wk
      obtain ⟨R2, lv2, ln2⟩ := R1.holdAll ds al
      have st2 := holdS R1 al
      obtain ⟨R3, g3⟩ := R2.alloc (o := .lst []) (m := .held) hD0 rfl fun L' H' _ e => ⟨_, e⟩
      have lρ : ρ1.length = h1.length := R1.len
      have A0 : Acc c (ρ1 ++ [D0]) (Pd.hold ds h1 ++ [.held]) (upd H1 D0 (.lst [])) h1.length D0 [] [] :=
        ⟨by rw [← ln2]; simp, by rw [← lρ]; simp, upd_same, RDs.nil⟩
      have S3 : RelS c (ρ1 ++ [D0]) (Pd.hold ds h1 ++ [.held]) (upd H1 D0 (.lst [])) (Pd.wipe ws σD) (L2.wipe σ ws) := g3.relS (((g1.relS S).stay (List.prefix_refl _) st2).wipe ws)
      refine lc_it wlk (fun i H' => ∃ ρ' h' acc accs, Go ρ1 (Pd.hold ds h1) H1 ρ' h' H' ∧ Rel c ρ' h' H' ∧ Acc c ρ' h' H' h1.length D0 acc accs ∧ RelS c ρ' h' H' (Pd.wipe ws σD) (L2.wipe σ ws) ∧ Wn c W σ ρ1 h1 H1 (rD c) (Pd.R.bind (Pd.R.unhold ds h1 (Pd.R.tame (lcGo f (xs.drop i) acc h'))) fun ys h2 => lcEnd live h1.length ys h2) Q)
        ⟨_, _, [], [], g3, R3, A0, S3, by rw [List.drop_zero]; exact w1⟩ (fun i H' _ ⟨ρ', h', acc, accs, g, R', _⟩ => (hw ρ' h' H' g R').1) ?_ ?_
      · rintro i x H' H2 hi ⟨ρ', h', acc, accs, g, R', A, S', w'⟩ y
        have ei : xs[i]? = some xs[i] := List.getElem?_eq_getElem hi
        obtain ⟨g2, R4, rx⟩ := (hw ρ' h' H' g R').2 i x H2 _ y ei
        refine ⟨ρ', h', Pd.wipe ws σD, xs[i], R4, g2.relS S', rx, ?_⟩
        rw [List.drop_eq_getElem_cons hi] at w'
        simp only [lcGo] at w'
        have ef : f xs[i] acc h' = (match asgT t xs[i] (Pd.wipe ws σD) h' with
          | some σ' => (evt G F ifs' σ' h').bind fun c h3 => (match c with
            | true => (ev G F elt' σ' h3).bind fun y h4 => pushA acc y h4
            | false => .ok acc h3)
          | none => .no "target") := by rw [hf]
        cases e2 : asgT t xs[i] (Pd.wipe ws σD) h' with
        | none => rw [ef, e2] at w'; exact w'
        | some σ1 =>
          rw [e2] at ef
          dsimp only at ef
          intro σ2 S2 sm
          refine ⟨(wipe_same sm htv).trans (wipe_wipe σ ws), ρ', h', σ1, R4, S2, ?_⟩
          have g5 := g.trans g2
          have A5 := A.go g2
          have S5 := g2.relS S'
          cases e3 : evt G F ifs' σ1 h' with
          | no _ => rw [ef, e3] at w'; exact w'
          | ex _ _ _ => rw [ef, e3] at w'; exact w'.elim
          | ok c3 h3 =>
            simp only [e3, Pd.R.bind] at ef
            intro b H3 ρ3 g6 R6 eb
            have eb' : c3 = b := eb
            subst eb'
            cases c3 with
            | false =>
              rw [if_neg (by decide)]
              rw [ef] at w'
              exact ⟨ρ3, h3, acc, accs, g5.trans g6, R6, A5.go g6, g6.relS S5, w'⟩
            | true =>
              rw [if_pos rfl]
              refine ⟨ρ3, h3, σ1, R6, g6.relS S2, ?_⟩
              simp only at ef
              cases e4 : ev G F elt' σ1 h3 with
              | no _ => rw [ef, e4] at w'; exact w'
              | ex _ _ _ => rw [ef, e4] at w'; exact w'.elim
              | ok y4 h4 =>
                simp only [e4, Pd.R.bind] at ef
                intro v H4 ρ4 g7 R7 r7
                have A7 := (A5.go g6).go g7
                have S7 := g7.relS (g6.relS S5)
                have g8 := (g5.trans g6).trans g7
                unfold pushA at ef
                split at ef
                · rename_i hsz
                  have hlen : accs.length < sizeLine := by
                    rw [A7.rs.length]
                    have h1 := of_decide_eq_true hsz
                    rw [sizeLine_eq]; omega
                  refine ⟨accs, A7.at_, hlen, ?_⟩
                  obtain ⟨R8, g9, A8, st8⟩ := A7.push R2 g8 (by rw [ln2]; exact Nat.le_refl _) hD0 R7 r7
                  rw [ef] at w'
                  exact ⟨ρ4, h4, _, _, g9, R8, A8, S7.stay (List.prefix_refl _) st8, w'⟩
                · rw [ef] at w'; exact w'.elim
      · rintro H' ⟨ρ', h', acc, accs, g, R', A, S', w'⟩
        rw [List.drop_length] at w'
        simp only [lcGo, Pd.R.tame, Pd.R.unhold, Pd.R.bind] at w'
        exact lc_end R1 al hD0 g R' A w'
theorem x_lc {elt tg iter : Expr} {ifs : List Expr} {scope : Scope} {own : List (Str × Nat)} {live : Bool} {ws : List Nat} {elt' : E} {t : T} {ik : IK} {its ifs' : List E} (hc : X.calm = true) (hN : X.N.Nodup) (hi : PI X tg iter (tI (cx X n) G F W ik its)) (ok : BlkOk X.N X.env.scope scope own)
    (hws : ws = own.map (·.2)) (htv : ∀ i ∈ t.vars, i ∈ ws)
    (hg : ∀ (s : Shared) (H : Hp) (C : Addr) (cl : List (Str × Addr)) (fp : List Addr), PG (X.blk s H scope (compEnvC scope cl C X.env) fp) tg (tG (cx X n) t))
    (ht : ∀ (s : Shared) (H : Hp) (C : Addr) (cl : List (Str × Addr)) (fp : List Addr), PTs (X.blk s H scope (compEnvC scope cl C X.env) fp) ifs (tTs (cx X n) G F W0 ifs'))
    (he : ∀ (s : Shared) (H : Hp) (C : Addr) (cl : List (Str × Addr)) (fp : List Addr), PE (X.blk s H scope (compEnvC scope cl C X.env) fp) elt (tE (cx X n) G F W0 elt')) (hs : ∀ x, foldedSetIterable iter X.env x = pure x) :
    PE X (.ListComp elt [⟨tg, iter, ifs, 0⟩] scope pos) (tE (cx X n) G F W (.lc live ws elt' t ik its ifs')) := by
  subst hws
  exact peImp (pe_lc hc hN hi ok hg ht he hs) fun σ H Q w => lc_read htv w
theorem tE_imp {c : Ct} {σ : L2.St} {H : Hp} {Q Q' : VK} (w : tE c G F W e' σ H Q) (k : ∀ x H, Q x H → Q' x H) : tE c G F W e' σ H Q' := by
  obtain ⟨ρ, h, σD, R, S, w⟩ := w
  exact ⟨ρ, h, σD, R, S, w.imp k⟩
/-- an assignment's reading -/
theorem asg_read {c : Ct} {t : T} {D : L2.Ends} {σ : L2.St} {H : Hp} (w : tS c G F W (.asg t e') D σ H) : tE c G F W e' σ H (fun x H1 => tG c t x σ H1 D.nx) := by
  obtain ⟨ρ, h, σD, R, S, w⟩ := w
  simp only [exec] at w
  refine ⟨ρ, h, σD, R, S, w.st S fun d h1 x H1 ρ1 e1 g1 R1 r1 w1 => ?_⟩
  obtain ⟨ρ2, R2, g2, r2⟩ := R.trim g1 R1 r1
  refine ⟨ρ2, _, σD, d, R2, g2.relS S, r2, ?_⟩
  rw [e1] at w
  have w' : Wo c W ρ h H (match asgT t d σD (Pd.trim h.length d h1) with | some σ' => O.nx σ' (Pd.trim h.length d h1) | none => O.no "target") D := w
  cases e2 : asgT t d σD (Pd.trim h.length d h1) with
  | none => rw [e2] at w'; exact w'.elim
  | some σ1 =>
    rw [e2] at w'
    exact fun σ' S' _ => w' H1 ρ2 σ' g2 R2 S'
theorem asg_name {c : Ct} {i : Nat} {x : V} {σ : L2.St} {H : Hp} {Q : L2.St → Hp → Prop} (w : tG c (.v i) x σ H Q) : gName i x σ H Q := by
  obtain ⟨ρ, h, σD, d, R, S, r, w⟩ := w
  simp only [asgT] at w
  split at w
  · rename_i σ1 e1
    split at e1
    · cases e1; exact w _ (S.set r) ⟨by simp, fun j hj => by rw [List.getElem?_set_ne]; simpa [T.vars, eq_comm] using hj⟩
    · cases e1
  · exact w.elim
/-- name = [..]: the comprehension's own stores -/
theorem s_asgLc {elt tg iter : Expr} {ifs : List Expr} {scope : Scope} {own : List (Str × Nat)} {live : Bool} {ws : List Nat} {elt' : E} {t : T} {ik : IK} {its ifs' : List E} {i : Nat} {y : Str} {py spos : Pos} (hc : X.calm = true) (hN : X.N.Nodup) (hy : X.N[i]? = some y) (hyl : X.env.scope.names.lookup y = some .local)
    (hsw : swapsWith (.ListComp elt [⟨tg, iter, ifs, 0⟩] scope pos) (some (.Name y py)) spos.line X.env = pure true) (hi : PI X tg iter (tI (cx X n) G F W ik its)) (ok : BlkOk X.N X.env.scope scope own)
    (hws : ws = own.map (·.2)) (htv : ∀ i ∈ t.vars, i ∈ ws)
    (hg : ∀ (s : Shared) (H : Hp) (C : Addr) (cl : List (Str × Addr)) (fp : List Addr), PG (X.blk s H scope (compEnvC scope cl C X.env) fp) tg (tG (cx X n) t))
    (ht : ∀ (s : Shared) (H : Hp) (C : Addr) (cl : List (Str × Addr)) (fp : List Addr), PTs (X.blk s H scope (compEnvC scope cl C X.env) fp) ifs (tTs (cx X n) G F W0 ifs'))
    (he : ∀ (s : Shared) (H : Hp) (C : Addr) (cl : List (Str × Addr)) (fp : List Addr), PE (X.blk s H scope (compEnvC scope cl C X.env) fp) elt (tE (cx X n) G F W0 elt')) (hs : ∀ x, foldedSetIterable iter X.env x = pure x) :
    PS X (.Assign [.Name y py] (.ListComp elt [⟨tg, iter, ifs, 0⟩] scope pos) spos) (tS (cx X n) G F W (.asg (.v i) (.lc live ws elt' t ik its ifs'))) := by
  subst hws
  exact psImp (ps_setLc hc hN hy hyl hsw hi ok hg ht he hs) fun D σ H w => by
    exact lc_read htv (tE_imp (asg_read w) fun x H1 q => asg_name q)
end
end Pd
end
section
/-! PdOp: operators, comparisons. -/
namespace Pd
open PySem PySem.Spec PyProof.Rows L2
section
variable {X : Cx} {n : Nm}
/-- an operator by cases -/
theorem opCases {f : Value → Value → Sem Value} {r : R2} (h : ∀ x y H Q, r x y H Q → ∃ r', OpR X f r' ∧ r' x y H Q) : OpR X f r := fun pins s σ H x y v u Q I rx ry q => by
  obtain ⟨r', ho, q'⟩ := h x y H Q q
  exact ho pins s σ H x y v u Q I rx ry q'
theorem mulOk_ok {i j : Int} (h : mulOk i j = true) : IntMulOk i j := by
  have h' : i.natAbs.log2 + j.natAbs.log2 < bitsMost := of_decide_eq_true h
  have bi : Builtin.Int.intBits i ≤ i.natAbs.log2 + 1 := by unfold Builtin.Int.intBits; split <;> omega
  have bj : Builtin.Int.intBits j ≤ j.natAbs.log2 + 1 := by unfold Builtin.Int.intBits; split <;> omega
  refine IntMulOk.of_le bi bj ?_
  unfold bitsMost at h'
  omega
theorem rd_int {c : Ct} {ρ : List Addr} {L : Addr → Prop} {H : Hp} {i : Int} {x : V} (r : RD c ρ L H (.p (.int i)) x) : x = .int i := by simp only [RD, RP] at r; exact r
theorem rd_bool {c : Ct} {ρ : List Addr} {L : Addr → Prop} {H : Hp} {i : Bool} {x : V} (r : RD c ρ L H (.p (.bool i)) x) : x = .bl i := by simp only [RD, RP] at r; exact r
theorem rd_str {c : Ct} {ρ : List Addr} {L : Addr → Prop} {H : Hp} {i : Str} {x : V} (r : RD c ρ L H (.p (.str i)) x) : x = .str i := by simp only [RD, RP] at r; exact r
theorem rd_none {c : Ct} {ρ : List Addr} {L : Addr → Prop} {H : Hp} {x : V} (r : RD c ρ L H (.p .none) x) : x = .non := by simp only [RD, RP] at r; exact r
theorem op_powB : OpR X (binaryOp .Pow) (rI (fun i j => 0 ≤ j ∧ j ≤ 10000 ∧ i.natAbs.log2 < 10000) fun i j => .int (i ^ j.toNat)) := opI fun i j _ _ _ _ _ hc q => by
  obtain ⟨h0, h1, h2⟩ := hc
  refine pow_int h0 ?_ q
  have bi : Builtin.Int.intBits i ≤ i.natAbs.log2 + 1 := by unfold Builtin.Int.intBits; split <;> omega
  have b2 : Builtin.Int.intBits i ≤ 10000 := by omega
  have : (Builtin.Int.intBits i : Int) * j ≤ 10000 * 10000 := by
    refine Int.mul_le_mul (by omega) h1 h0 (by omega)
  omega
theorem op_fdivL : OpR X (binaryOp .FloorDiv) (rI (fun _ j => j ≠ 0 ∧ j.natAbs.log2 < 9000) fun i j => .int (i.fdiv j)) := opI fun _ _ _ _ _ _ _ hc q => floordiv_int hc.1 q (.inl (PyProof.noPylong_of_log2 hc.2))
theorem op_mulL : OpR X (binaryOp .Mult) (rI (fun i j => IntMulOk i j) fun i j => .int (i * j)) := opI fun _ _ _ _ _ _ _ hc q => mul_int q hc
/-- two ints -/
theorem intBin_ok {o : BO} {op : Operator} (ho : op = (match o with | .add => .Add | .sub => .Sub | .mul => .Mult | .fdiv => .FloorDiv | .mod => .Mod | .pow => .Pow)) {i j : Int} {d : D} (e : intBin o i j = some d) :
    ∃ k : Int, d = .p (.int k) ∧ ∀ (H : Hp) (Q : VK), Q (.int k) H → ∃ r', OpR X (binaryOp op) r' ∧ r' (.int i) (.int j) H Q := by
  subst ho
  cases o with
  | add => cases e; exact ⟨_, rfl, fun H Q q => ⟨_, op_add, i, j, rfl, rfl, q⟩⟩
  | sub => cases e; exact ⟨_, rfl, fun H Q q => ⟨_, op_sub, i, j, rfl, rfl, q⟩⟩
  | mul =>
    simp only [intBin] at e
    split at e
    · rename_i h; cases e; exact ⟨_, rfl, fun H Q q => ⟨_, op_mulL, i, j, rfl, rfl, mulOk_ok h, q⟩⟩
    · cases e
  | fdiv =>
    simp only [intBin] at e
    split at e
    · rename_i h
      cases e
      simp only [divOk, Bool.and_eq_true, decide_eq_true_eq] at h
      exact ⟨_, rfl, fun H Q q => ⟨_, op_fdivL, i, j, rfl, rfl, h, q⟩⟩
    · cases e
  | mod =>
    simp only [intBin] at e
    split at e
    · rename_i h
      cases e
      simp only [divOk, Bool.and_eq_true, decide_eq_true_eq] at h
      exact ⟨_, rfl, fun H Q q => ⟨_, op_modN, i, j, rfl, rfl, h.1, q⟩⟩
    · cases e
  | pow =>
    simp only [intBin] at e
    split at e
    · rename_i h
      cases e
      simp only [Bool.and_eq_true, decide_eq_true_eq] at h
      exact ⟨_, rfl, fun H Q q => ⟨_, op_powB, i, j, rfl, rfl, ⟨h.1.1, h.1.2, h.2⟩, q⟩⟩
    · cases e
theorem op_list2 (K : PySem.W.Frag) (hK : K = X.K) : OpR X (binaryOp .Add) (fun x y H Q => ∃ a b xs ys, x = .ref a ∧ y = .ref b ∧ SqL K H a xs ∧ SqL K H b ys ∧ xs.length + ys.length ≤ sizeLine ∧ ∀ p, H p = none → Q (.ref p) (upd H p (.lst (xs ++ ys)))) := by
  subst hK
  intro pins s σ H x y v u Q I rx ry h
  obtain ⟨a, b, xs, ys, rfl, rfl, ha, hb, hz, q⟩ := h
  cases rx
  cases ry
  obtain ⟨its, r1, ⟨⟨cls, dd, data, sl⟩, n1, ho, hc, _, hd⟩, z1⟩ := I.list ha
  obtain ⟨its2, r2, ⟨⟨cls2, dd2, data2, sl2⟩, n2, ho2, hc2, _, hd2⟩, z2⟩ := I.list hb
  simp only at hc hd hc2 hd2
  subst hc hd hc2 hd2
  have l1 := r1.length
  have l2 := r2.length
  refine concat_meets ⟨_, ho, rfl⟩ ⟨_, ho2, rfl⟩ noFill_list_add seq_list_add PySem.F.slot_list_add PySem.F.entry_list_add (PySem.F.args_list_add_2 _ _) (list_addW a b its.toArray its2.toArray n1 n2 dd dd2 sl sl2 (by simp; omega)) ⟨ho, ho2, ?_⟩
  have ea : its.toArray ++ its2.toArray = (its ++ its2).toArray := by simp
  rw [ea]
  exact ⟨.ref _, _, I.lnew (t' := s.toks) (r1.append r2) (by rw [List.length_append]; omega), rfl, q _ I.fresh⟩
end
section
variable {c : Ct} {ρ : List Addr} {h : Cs} {H : Hp}
theorem RDs.append {L : Addr → Prop} : ∀ {xs ys : List D} {vs us : List V}, RDs c ρ L H xs vs → RDs c ρ L H ys us → RDs c ρ L H (xs ++ ys) (vs ++ us)
  | [], ys, vs, us, r, q => by simp only [RDs] at r; subst r; exact q
  | x :: xs, ys, vs, us, r, q => by
    obtain ⟨u, t, rfl, r1, r2⟩ := r.cons_inv
    exact RDs.cons r1 (RDs.append r2 q)
theorem RDs.rep {L : Addr → Prop} {xs : List D} {vs : List V} (r : RDs c ρ L H xs vs) : ∀ (k : Nat), RDs c ρ L H (List.replicate k xs).flatten (List.replicate k vs).flatten
  | 0 => RDs.nil
  | k + 1 => by
    rw [List.replicate_succ, List.replicate_succ, List.flatten_cons, List.flatten_cons]
    exact r.append (RDs.rep r k)
theorem size_sum {a b : Nat} (h : sizeOk (a + b) = true) : a + b ≤ sizeLine := size_le h
end
section
variable {X : Cx} {n : Nm}
theorem opBI {f : Value → Value → Sem Value} {g : Int → Int → Int}
    (rule : ∀ (b : Bool) (j : Int) (u : Tok) (s : Shared) (Q : Value → Shared → Prop) (E : Value → Shared → Prop), Q (.int (g (if b = true then (1 : Int) else 0) j) s.toks) { s with toks := s.toks + 1 } → wpAny (model X.prog X.w) X.A (f (.bool b) (.int j u)) Q E s) :
    OpR X f (fun x y H Q => ∃ (b : Bool) (j : Int), x = .bl b ∧ y = .int j ∧ Q (.int (g (if b = true then (1 : Int) else 0) j)) H) := fun pins s σ H x y v u Q I rx ry ⟨b, j, e1, e2, q⟩ => by
  subst e1; subst e2
  obtain ⟨t, rfl⟩ := ry
  cases rx
  exact rule b j t s _ _ ⟨.int (g (if b = true then (1 : Int) else 0) j), H, I.tok _, ⟨_, rfl⟩, q⟩
theorem opIB {f : Value → Value → Sem Value} {g : Int → Int → Int}
    (rule : ∀ (i : Int) (t : Tok) (b : Bool) (s : Shared) (Q : Value → Shared → Prop) (E : Value → Shared → Prop), Q (.int (g i (if b = true then (1 : Int) else 0)) s.toks) { s with toks := s.toks + 1 } → wpAny (model X.prog X.w) X.A (f (.int i t) (.bool b)) Q E s) :
    OpR X f (fun x y H Q => ∃ (i : Int) (b : Bool), x = .int i ∧ y = .bl b ∧ Q (.int (g i (if b = true then (1 : Int) else 0))) H) := fun pins s σ H x y v u Q I rx ry ⟨i, b, e1, e2, q⟩ => by
  subst e1; subst e2
  obtain ⟨t, rfl⟩ := rx
  cases ry
  exact rule i t b s _ _ ⟨.int (g i (if b = true then (1 : Int) else 0)), H, I.tok _, ⟨_, rfl⟩, q⟩
theorem opBB {f : Value → Value → Sem Value} {g : Int → Int → Int}
    (rule : ∀ (a b : Bool) (s : Shared) (Q : Value → Shared → Prop) (E : Value → Shared → Prop), Q (.int (g (if a = true then (1 : Int) else 0) (if b = true then (1 : Int) else 0)) s.toks) { s with toks := s.toks + 1 } → wpAny (model X.prog X.w) X.A (f (.bool a) (.bool b)) Q E s) :
    OpR X f (fun x y H Q => ∃ (a b : Bool), x = .bl a ∧ y = .bl b ∧ Q (.int (g (if a = true then (1 : Int) else 0) (if b = true then (1 : Int) else 0))) H) := fun pins s σ H x y v u Q I rx ry ⟨a, b, e1, e2, q⟩ => by
  subst e1; subst e2
  cases rx
  cases ry
  exact rule a b s _ _ ⟨.int (g (if a = true then (1 : Int) else 0) (if b = true then (1 : Int) else 0)), H, I.tok _, ⟨_, rfl⟩, q⟩
theorem b2i_if (b : Bool) : b2i b = if b = true then (1 : Int) else 0 := by cases b <;> rfl
/-- a truth value among numbers -/
theorem mixBin_ok {o : BO} {op : Operator} (ho : op = (match o with | .add => .Add | .sub => .Sub | .mul => .Mult | .fdiv => .FloorDiv | .mod => .Mod | .pow => .Pow)) {d : D} :
    (∀ (b : Bool) (j : Int), mixBin o (if b = true then 1 else 0) j = some d → ∃ k : Int, d = .p (.int k) ∧ ∀ (H : Hp) (Q : VK), Q (.int k) H → ∃ r', OpR X (binaryOp op) r' ∧ r' (.bl b) (.int j) H Q) ∧
    (∀ (i : Int) (b : Bool), mixBin o i (if b = true then 1 else 0) = some d → ∃ k : Int, d = .p (.int k) ∧ ∀ (H : Hp) (Q : VK), Q (.int k) H → ∃ r', OpR X (binaryOp op) r' ∧ r' (.int i) (.bl b) H Q) ∧
    (∀ (a b : Bool), mixBin o (if a = true then 1 else 0) (if b = true then 1 else 0) = some d → ∃ k : Int, d = .p (.int k) ∧ ∀ (H : Hp) (Q : VK), Q (.int k) H → ∃ r', OpR X (binaryOp op) r' ∧ r' (.bl a) (.bl b) H Q) := by
  subst ho
  cases o with
  | add =>
    refine ⟨fun b j e => ?_, fun i b e => ?_, fun a b e => ?_⟩
    · cases e; exact ⟨_, rfl, fun H Q q => ⟨_, opBI (g := fun i j => i + j) fun _ _ _ _ _ _ q => IntBool.add_bool_int q, b, j, rfl, rfl, q⟩⟩
    · cases e; exact ⟨_, rfl, fun H Q q => ⟨_, opIB (g := fun i j => i + j) fun _ _ _ _ _ _ q => add_int_bool q, i, b, rfl, rfl, q⟩⟩
    · cases e; exact ⟨_, rfl, fun H Q q => ⟨_, opBB (g := fun i j => i + j) fun _ _ _ _ _ q => add_bool (by rw [b2i_if, b2i_if]; exact q), a, b, rfl, rfl, q⟩⟩
  | sub =>
    refine ⟨fun b j e => ?_, fun i b e => ?_, fun a b e => ?_⟩
    · cases e; exact ⟨_, rfl, fun H Q q => ⟨_, opBI (g := fun i j => i - j) fun _ _ _ _ _ _ q => IntBool.sub_bool_int q, b, j, rfl, rfl, q⟩⟩
    · cases e; exact ⟨_, rfl, fun H Q q => ⟨_, opIB (g := fun i j => i - j) fun _ _ _ _ _ _ q => IntBool.sub_int_bool q, i, b, rfl, rfl, q⟩⟩
    · cases e; exact ⟨_, rfl, fun H Q q => ⟨_, opBB (g := fun i j => i - j) fun _ _ _ _ _ q => sub_bool (by rw [b2i_if, b2i_if]; exact q), a, b, rfl, rfl, q⟩⟩
  | mul => exact ⟨fun b j e => by simp [mixBin] at e, fun i b e => by simp [mixBin] at e, fun a b e => by simp [mixBin] at e⟩
  | fdiv => exact ⟨fun b j e => by simp [mixBin] at e, fun i b e => by simp [mixBin] at e, fun a b e => by simp [mixBin] at e⟩
  | mod => exact ⟨fun b j e => by simp [mixBin] at e, fun i b e => by simp [mixBin] at e, fun a b e => by simp [mixBin] at e⟩
  | pow => exact ⟨fun b j e => by simp [mixBin] at e, fun i b e => by simp [mixBin] at e, fun a b e => by simp [mixBin] at e⟩
/-- what is left of an operator behind the numbers -/
def binRest (o : BO) (a b : D) (h : Cs) : Option D := match o with
  | .add => (match a, b with
    | .p (.str x), .p (.str y) => if sizeOk (x.length + y.length) then some (.p (.str (x ++ y))) else none
    | _, .p (.int _) => none
    | a, b => catD a b h)
  | .mul => (match a, b with
    | .p (.str x), .p (.int j) => if repOk x.length j then some (.p (.str ⟨(List.replicate (repI j) x.cps).foldl (· ++ ·) #[]⟩)) else none
    | a, .p (.int j) => repD a j h
    | _, _ => none)
  | _ => none
theorem binop_split {o : BO} {op : Operator} (ho : op = (match o with | .add => .Add | .sub => .Sub | .mul => .Mult | .fdiv => .FloorDiv | .mod => .Mod | .pow => .Pow))
    (hr : ∀ x y H Q, (∃ ρ h da db d, Rel (cx X n) ρ h H ∧ RD (cx X n) ρ (Live ρ h) H da x ∧ RD (cx X n) ρ (Live ρ h) H db y ∧ binRest o da db h = some d ∧
      ∀ (v : V) (H' : Hp) (ρ' : List Addr), Go ρ h H ρ' h H' → Rel (cx X n) ρ' h H' → RD (cx X n) ρ' (Live ρ' h) H' d v → Q v H') → ∃ r', OpR X (binaryOp op) r' ∧ r' x y H Q) :
    OpR X (binaryOp op) (rOp (cx X n) (binop o)) := opCases fun x y H Q ⟨ρ, h, da, db, d, R, ra, rb, e, w⟩ => by
  have num : (∃ k : Int, d = .p (.int k) ∧ ∀ (H : Hp) (Q : VK), Q (.int k) H → ∃ r', OpR X (binaryOp op) r' ∧ r' x y H Q) → ∃ r', OpR X (binaryOp op) r' ∧ r' x y H Q := fun ⟨k, z, f⟩ => f H Q (w (.int k) H ρ Go.refl R (by subst z; simp only [RD, RP]))
  have other : binRest o da db h = some d → ∃ r', OpR X (binaryOp op) r' ∧ r' x y H Q := fun e => hr x y H Q ⟨ρ, h, da, db, d, R, ra, rb, e, w⟩
  obtain ⟨m1, m2, m3⟩ := mixBin_ok (X := X) (d := d) ho
  cases da with
  | p a =>
    cases a with
    | int i =>
      cases db with
      | p b =>
        cases b with
        | int j => have ex := rd_int ra; have ey := rd_int rb; subst ex; subst ey; exact num (intBin_ok ho e)
        | bool t => have ex := rd_int ra; have ey := rd_bool rb; subst ex; subst ey; exact num (m2 i t e)
        | _ => exact other (by cases o <;> exact e)
      | _ => exact other (by cases o <;> exact e)
    | bool s0 =>
      cases db with
      | p b =>
        cases b with
        | int j => have ex := rd_bool ra; have ey := rd_int rb; subst ex; subst ey; exact num (m1 s0 j e)
        | bool t => have ex := rd_bool ra; have ey := rd_bool rb; subst ex; subst ey; exact num (m3 s0 t e)
        | _ => exact other (by cases o <;> exact e)
      | _ => exact other (by cases o <;> exact e)
    | _ => cases db with
      | p b => cases b <;> exact other (by cases o <;> exact e)
      | _ => exact other (by cases o <;> exact e)
  | _ => cases db with
    | p b => cases b <;> exact other (by cases o <;> exact e)
    | _ => exact other (by cases o <;> exact e)
theorem o_sub : OpR X (binaryOp .Sub) (rOp (cx X n) (binop .sub)) := binop_split rfl fun x y H Q ⟨ρ, h, da, db, d, R, ra, rb, e, w⟩ => by cases e
theorem o_fdiv : OpR X (binaryOp .FloorDiv) (rOp (cx X n) (binop .fdiv)) := binop_split rfl fun x y H Q ⟨ρ, h, da, db, d, R, ra, rb, e, w⟩ => by cases e
theorem o_mod : OpR X (binaryOp .Mod) (rOp (cx X n) (binop .mod)) := binop_split rfl fun x y H Q ⟨ρ, h, da, db, d, R, ra, rb, e, w⟩ => by cases e
theorem o_pow : OpR X (binaryOp .Pow) (rOp (cx X n) (binop .pow)) := binop_split rfl fun x y H Q ⟨ρ, h, da, db, d, R, ra, rb, e, w⟩ => by cases e
theorem o_add : OpR X (binaryOp .Add) (rOp (cx X n) (binop .add)) := binop_split rfl fun x y H Q ⟨ρ, h, da, db, d, R, ra, rb, e, w⟩ => by
  have cat : catD da db h = some d → ∃ r', OpR X (binaryOp .Add) r' ∧ r' x y H Q := fun e => by
    unfold catD at e
    have tups : (match tupOf da, tupOf db with
      | some xs, some ys => if sizeOk (xs.length + ys.length) then some (mkTup (xs ++ ys)) else none
      | _, _ => none) = some d → ∃ r', OpR X (binaryOp .Add) r' ∧ r' x y H Q := fun e => by
      cases e1 : tupOf da with
      | none => rw [e1] at e; cases e
      | some xs =>
        cases e2 : tupOf db with
        | none => rw [e1, e2] at e; cases e
        | some ys =>
          rw [e1, e2] at e
          have e' : (if sizeOk (xs.length + ys.length) then some (mkTup (xs ++ ys)) else none) = some d := e
          split at e'
          · rename_i hz
            cases e'
            obtain ⟨a, vs, rfl, q1, r1⟩ := tupOf_rel ra e1
            obtain ⟨b, us, rfl, q2, r2⟩ := tupOf_rel rb e2
            refine ⟨_, op_catA, a, b, vs, us, rfl, rfl, q1.sq, q2.sq, by rw [r1.length, r2.length]; exact size_le hz, ?_, ?_, ?_⟩
            · intro z; subst z
              have : xs = [] := by have := r1.length; cases xs with | nil => rfl | cons _ _ => simp at this
              subst this
              exact w _ H ρ Go.refl R (by rw [List.nil_append]; exact RD.mkTup q2 r2)
            · intro _ z; subst z
              have : ys = [] := by have := r2.length; cases ys with | nil => rfl | cons _ _ => simp at this
              subst this
              exact w _ H ρ Go.refl R (by rw [List.append_nil]; exact RD.mkTup q1 r1)
            · intro _ _ p hp
              obtain ⟨R2, g2, q⟩ := R.newTup hp (r1.append r2)
              exact w _ _ ρ g2 R2 q
          · cases e'
    cases e1 : lstOf da h with
    | none => rw [e1] at e; exact tups e
    | some xs =>
      cases e2 : lstOf db h with
      | none => rw [e1, e2] at e; exact tups e
      | some ys =>
        rw [e1, e2] at e
        have e' : (if sizeOk (xs.length + ys.length) then some (mkLst (xs ++ ys)) else none) = some d := e
        split at e'
        · rename_i hz
          cases e'
          obtain ⟨a, vs, rfl, q1, r1, _⟩ := lstOf_rel R ra e1
          obtain ⟨b, us, rfl, q2, r2, _⟩ := lstOf_rel R rb e2
          refine ⟨_, op_list2 X.K rfl, a, b, vs, us, rfl, rfl, q1, q2, by rw [r1.length, r2.length]; exact size_le hz, fun p hp => ?_⟩
          obtain ⟨R2, g2, q⟩ := R.newLst hp (r1.append r2)
          exact w _ _ ρ g2 R2 q
        · cases e'
  simp only [binRest] at e
  split at e
  · rename_i s0 t0
    split at e
    · rename_i hz
      cases e
      exact ⟨_, op_add_str, s0, t0, rd_str ra, rd_str rb, size_le hz, w _ H ρ Go.refl R (by simp only [RD, RP])⟩
    · cases e
  · cases e
  · exact cat e
end
end Pd
end
section
/-! PdOp2: *, comparisons. -/
namespace Pd
open PySem PySem.Spec PyProof.Rows L2
open AutoSeq1 (wpAny_loadPart')
theorem list_mulG (l : Addr) (items : Array Value) (n : Nat) (dd : Option Addr) (sl : Array (Option Value)) (x : Int) (u : Tok) (hc0 : ¬(!Builtin.List.listFitsIndex x) = true) (hc1 : ¬items.size * x.toNat > (2 ^ 63 - 1) / 8) (hc2 : ¬Builtin.List.listTooLong (items.size * x.toNat) = true) :
    Meets (Builtin.«list.__mul__» ⟨[.ref l, .int x u], []⟩) (fun _ R s => s.heap.get? l = some { cls := .type "list", dict := dd, data := .seq items n, slots := sl } ∧ R (.ok (.ret (Value.ref s.heap.objs.size))) { s with heap := s.heap.push { cls := Value.type "list", data := Data.seq (List.foldl (fun x1 x2 => x1 ++ x2) #[] (List.replicate (if items.isEmpty = true then 0 else x.toNat) items)) }, toks := s.toks }) :=
  .of_wp fun prog w A R s h => by
    obtain ⟨hp, g, d, tk, os⟩ := s; obtain ⟨hl, h⟩ := h
    have hsz := PySem.AutoListH.joined_fits hc2
    wp_walk using wpAny_loadPart' hl; refine wpAny_ite_false (decide_eq_false (Nat.not_lt.mpr hsz)) ?_; wp_walk using wpAny_loadPart' hl; exact ⟨_, rfl, h⟩
theorem int_rmul_listG (a : Int) (t : Tok) (l : Addr) (items : Array Value) (n : Nat) (dd : Option Addr) (sl : Array (Option Value)) :
    Meets (Builtin.«int.__rmul__» ⟨[.int a t, .ref l], []⟩) (fun _ R s => s.heap.get? l = some { cls := .type "list", dict := dd, data := .seq items n, slots := sl } ∧ R (.ok (.ret Value.notImplemented)) s) :=
  .of_wp fun prog w A R s h => by obtain ⟨hp, g, d, tk, os⟩ := s; obtain ⟨hl, h⟩ := h; wp_walk using wpAny_loadPart' hl; exact ⟨_, rfl, h⟩
section
variable {X : Cx} {n : Nm}
theorem op_repL (K : PySem.W.Frag) (hK : K = X.K) : OpR X (binaryOp .Mult) (fun x y H Q => ∃ l k xs, x = .ref l ∧ y = .int k ∧ SqL K H l xs ∧ -(2 ^ 63) ≤ k ∧ k < 2 ^ 63 ∧ xs.length * k.toNat ≤ sizeLine ∧ ∀ p, H p = none → Q (.ref p) (upd H p (.lst (List.replicate k.toNat xs).flatten))) := by
  subst hK
  intro pins s σ H x y v u Q I rx ry h
  obtain ⟨l, k, xs, rfl, rfl, hH, h1, h2, hz, q⟩ := h
  cases rx
  obtain ⟨t, rfl⟩ := ry
  obtain ⟨its, r, ⟨⟨cls, dd, data, sl⟩, n1, ho, hc, _, hd⟩, z1⟩ := I.list hH
  simp only at hc hd
  subst hc hd
  have hl : xs.length = its.length := r.length
  have hlen : its.toArray.size * k.toNat ≤ sizeLine := by rw [List.size_toArray, ← hl]; exact hz
  have hcap : ¬ its.toArray.size * k.toNat > (2 ^ 63 - 1) / 8 := by
    have : (sizeLine : Nat) ≤ (2 ^ 63 - 1) / 8 := by decide
    omega
  have hfit : ¬ (!Builtin.List.listFitsIndex k) = true := by
    rw [fitsIndex_both h1 h2]
    exact Bool.false_ne_true
  have hlong : ¬ Builtin.List.listTooLong (its.toArray.size * k.toNat) = true := by
    rw [notLongL hlen]
    exact Bool.false_ne_true
  have hnew : List.foldl (fun x1 x2 => x1 ++ x2) #[] (List.replicate (if its.toArray.isEmpty = true then 0 else k.toNat) its.toArray) = (List.replicate k.toNat its).flatten.toArray := by
    have f0 : ∀ m : Nat, List.foldl (fun x1 x2 => x1 ++ x2) #[] (List.replicate m its.toArray) = (List.replicate m its).flatten.toArray := fun m => by
      have := foldl_rep its m []
      rw [List.nil_append] at this
      exact this
    rw [f0]
    cases its with
    | nil => simp
    | cons a r' => rw [if_neg (by simp)]
  refine wpAny_binaryOp_repeat_ref (T := "list") (U := "int") (by decide) ⟨_, ho, rfl⟩ (fun s' => typeIs_int s' k t) noFill_list_mul F.fills_int_mul F.slot_int_rmul repeat_list F.slot_int_index.lookup
    (call_meets F.slot_int_rmul (typeIs_int s k t) F.entry_int_rmul (F.args_int_rmul_2 _ _) (int_rmul_listG k t l its.toArray n1 dd sl)
      ⟨ho, rfl, ⟨_, ho, rfl⟩, call_meets F.slot_list_mul ⟨_, ho, rfl⟩ F.entry_list_mul (F.args_list_mul_2 _ _) (list_mulG l its.toArray n1 dd sl k t hfit hcap hlong) ⟨ho, ?_⟩⟩)
  rw [hnew]
  exact ⟨.ref _, _, I.lnew (t' := s.toks) (r.rep k.toNat) (by rw [PyProof.Rows.lm_len_rep_flat, Nat.mul_comm]; exact hz), rfl, q _ I.fresh⟩
theorem rep_arr (a : Array Nat) : ∀ k : Nat, ((List.replicate k a).foldl (· ++ ·) #[]).size = k * a.size := fun k => by
  have : ∀ (k : Nat) (b : Array Nat), ((List.replicate k a).foldl (· ++ ·) b).size = b.size + k * a.size := fun k => by
    induction k with
    | zero => intro b; simp
    | succ k ih => intro b; rw [List.replicate_succ, List.foldl_cons, ih, Array.size_append, Nat.succ_mul]; omega
  rw [this]; simp
theorem op_repS : OpR X (binaryOp .Mult) (fun x y H Q => ∃ (z : Str) (k : Int), x = .str z ∧ y = .int k ∧ repOk z.length k = true ∧ Q (.str ⟨(List.replicate k.toNat z.cps).foldl (· ++ ·) #[]⟩) H) := by
  intro pins s σ H x y v u Q I rx ry h
  obtain ⟨z, k, rfl, rfl, hk, q⟩ := h
  obtain ⟨t, rfl⟩ := rx
  obtain ⟨t', rfl⟩ := ry
  simp only [repOk, Bool.and_eq_true, decide_eq_true_eq, sizeOk] at hk
  obtain ⟨⟨h1, h2⟩, h3⟩ := hk
  refine PySem.P.mul_str ?_ (fun _ _ => ?_) (fun _ _ => ?_) ?_
  · rw [decide_eq_false (by omega), decide_eq_false (by omega)]; rfl
  · have h4 : ((z.length : Nat) : Int) * k ≤ 2 ^ 63 - 1 := by
      have e : ((z.length : Nat) : Int) * k = ((z.length * k.toNat : Nat) : Int) := by rw [Int.natCast_mul, Int.toNat_of_nonneg (by omega)]
      rw [e]; omega
    have := (Int.le_ediv_iff_mul_le (by omega : 0 < k)).mpr h4
    omega
  · unfold Builtin.Str.tooLong
    rw [sizeLine_eq]
    exact decide_eq_false (by omega)
  · by_cases c1 : k < 1
    · rw [if_pos c1]
      have e : k.toNat = 0 := by omega
      rw [e] at q
      exact ⟨by decide, ⟨.str Str.empty, H, I.tok _, ⟨_, rfl⟩, q⟩⟩
    · rw [if_neg c1]
      by_cases c2 : (k == 1 || z.length == 0) = true
      · rw [if_pos c2]
        have e : (⟨(List.replicate k.toNat z.cps).foldl (· ++ ·) #[]⟩ : Str) = z := by
          rw [Bool.or_eq_true] at c2
          rcases c2 with c2 | c2
          · have : k = 1 := by simpa using c2
            subst this
            obtain ⟨a⟩ := z
            simp [List.replicate]
          · have hz : z.cps.size = 0 := by
              have : z.length = 0 := by simpa using c2
              exact this
            obtain ⟨a⟩ := z
            have ha : a = #[] := Array.eq_empty_of_size_eq_zero hz
            subst ha
            have : ((List.replicate k.toNat (#[] : Array Nat)).foldl (· ++ ·) #[]).size = 0 := by rw [rep_arr]; simp
            rw [Array.eq_empty_of_size_eq_zero this]
        rw [e] at q
        exact ⟨.str z, H, I, ⟨_, rfl⟩, q⟩
      · rw [if_neg c2]
        exact ⟨by show ((List.replicate k.toNat z.cps).foldl (· ++ ·) #[]).size ≤ sizeLine; rw [rep_arr, sizeLine_eq, Nat.mul_comm]; exact Nat.le_trans h3 (by decide), ⟨.str _, H, I.tok _, ⟨_, rfl⟩, q⟩⟩
theorem o_mul : OpR X (binaryOp .Mult) (rOp (cx X n) (binop .mul)) := binop_split rfl fun x y H Q ⟨ρ, h, da, db, d, R, ra, rb, e, w⟩ => by
  simp only [binRest] at e
  split at e
  · rename_i z j
    split at e
    · rename_i hk
      cases e
      exact ⟨_, op_repS, z, j, rd_str ra, rd_int rb, hk, w _ H ρ Go.refl R (by simp only [RD, RP, repI])⟩
    · cases e
  · rename_i j _
    have ey := rd_int rb
    subst ey
    unfold repD at e
    cases e1 : lstOf da h with
    | some xs =>
      rw [e1] at e
      have e' : (if repOk xs.length j then some (mkLst (List.replicate (repI j) xs).flatten) else none) = some d := e
      split at e'
      · rename_i hk
        cases e'
        obtain ⟨a, vs, rfl, q1, r1, _⟩ := lstOf_rel R ra e1
        simp only [repOk, Bool.and_eq_true, decide_eq_true_eq, sizeOk] at hk
        obtain ⟨⟨h1, h2⟩, h3⟩ := hk
        refine ⟨_, op_repL X.K rfl, a, j, vs, rfl, rfl, q1, by omega, by omega, by rw [r1.length, sizeLine_eq]; omega, fun p hp => ?_⟩
        obtain ⟨R2, g2, q⟩ := R.newLst hp (r1.rep j.toNat)
        exact w _ _ ρ g2 R2 q
      · cases e'
    | none =>
      rw [e1] at e
      cases e2 : tupOf da with
      | none => rw [e2] at e; cases e
      | some xs =>
        rw [e2] at e
        have e' : (if (decide (2 ≤ j) && decide (j ≤ 1000) && decide (xs.length ≤ 1000) && !xs.isEmpty) = true then some (mkTup (List.replicate (repI j) xs).flatten) else none) = some d := e
        split at e'
        · rename_i hk
          cases e'
          simp only [Bool.and_eq_true, decide_eq_true_eq, Bool.not_eq_true'] at hk
          obtain ⟨⟨⟨h1, h2⟩, h3⟩, h4⟩ := hk
          obtain ⟨a, vs, rfl, q1, r1⟩ := tupOf_rel ra e2
          refine ⟨_, op_repT, a, j, vs, rfl, rfl, q1.sq, ?_, h1, h2, by rw [r1.length]; exact h3, fun p hp => ?_⟩
          · intro z; subst z
            have := r1.length
            cases xs with
            | nil => cases h4
            | cons _ _ => simp at this
          · obtain ⟨R2, g2, q⟩ := R.newTup hp (r1.rep j.toNat)
            exact w _ _ ρ g2 R2 q
        · cases e'
  · cases e
/-! ### comparisons -/
theorem asP_dp {c : Ct} {ρ : List Addr} {h : Cs} {H : Hp} {d : D} {x : V} {y : P} (R : Rel c ρ h H) (r : RD c ρ (Live ρ h) H d x) (e : asP d h = some y) : Dp c.K H x y := by
  cases d with
  | p z => simp only [asP, Option.some.injEq] at e; subst e; simp only [RD] at r; exact rp_dp _ _ r
  | ref k =>
    simp only [asP] at e
    simp only [RD] at r
    obtain ⟨a, rfl, ea⟩ := r
    cases ek : h[k]? with
    | none => rw [ek] at e; cases e
    | some o =>
      have q := R.ob k o a ek ea
      rw [ek] at e
      cases o with
      | lst xs =>
        cases e
        obtain ⟨vs, e1, r⟩ := q
        exact .lst (SqL.of e1) (rps_dp _ _ r)
      | lsr _ => cases e
      | dct _ _ => cases e
      | exc _ _ => cases e
      | dead => cases e
      | held => cases e
  | fn _ => simp [asP] at e
  | tup _ => simp [asP] at e
  | lst _ => simp [asP] at e
  | dct _ _ => simp [asP] at e
  | exn _ _ _ _ => simp [asP] at e
where
  rp_dp {K : PySem.W.Frag} {L : Addr → Prop} {H : Hp} : ∀ (y : P) (x : V), RP K L H y x → Dp K H x y
    | .none, x, r => by simp only [RP] at r; subst r; exact .non
    | .bool b, x, r => by simp only [RP] at r; subst r; exact .bl b
    | .int i, x, r => by simp only [RP] at r; subst r; exact .int i
    | .str z, x, r => by simp only [RP] at r; subst r; exact .str z
    | .tuple xs, x, r => by
      simp only [RP] at r
      obtain ⟨a, vs, rfl, q, r⟩ := r
      exact .tup q.sq (rps_dp xs vs r)
    | .list xs, x, r => by
      simp only [RP] at r
      obtain ⟨a, vs, rfl, q, r⟩ := r
      exact .lst q.sq (rps_dp xs vs r)
    | .dict _, x, r => by simp only [RP] at r
  rps_dp {K : PySem.W.Frag} {L : Addr → Prop} {H : Hp} : ∀ (ys : List P) (xs : List V), RPs K L H ys xs → DpAll K H xs ys
    | [], xs, r => by simp only [RPs] at r; subst r; exact .nil
    | y :: ys, xs, r => by
      simp only [RPs] at r
      obtain ⟨v, t, rfl, r1, r2⟩ := r
      exact .cons (rp_dp y v r1) (rps_dp ys t r2)
theorem c_eq (hu : X.A.units + 64 < cLine) : OpR X (compareOp .Eq) (rCmp (cx X n) .eq) := opCases fun x y H Q ⟨ρ, h, da, db, t, R, ra, rb, e, w⟩ => by
  simp only [cmpD, eqvD] at e
  cases e1 : asP da h with
  | none => rw [e1] at e; cases e
  | some p =>
    cases e2 : asP db h with
    | none => rw [e1, e2] at e; cases e
    | some q =>
      rw [e1, e2] at e
      have e' : (if (PySem.SeqAt.shaped p && PySem.SeqAt.shaped q) = true then some (PyData.eqv p q) else none) = some t := e
      split at e'
      · rename_i hs
        cases e'
        rw [Bool.and_eq_true] at hs
        exact ⟨_, op_eqD hu, p, q, asP_dp R ra e1, asP_dp R rb e2, hs.1, hs.2, w⟩
      · cases e'
theorem c_ne (hu : X.A.units + 64 < cLine) : OpR X (compareOp .NotEq) (rCmp (cx X n) .ne) := opCases fun x y H Q ⟨ρ, h, da, db, t, R, ra, rb, e, w⟩ => by
  simp only [cmpD, eqvD] at e
  cases e1 : asP da h with
  | none => rw [e1] at e; cases e
  | some p =>
    cases e2 : asP db h with
    | none => rw [e1, e2] at e; cases e
    | some q =>
      rw [e1, e2] at e
      have e' : (if (PySem.SeqAt.shaped p && PySem.SeqAt.shaped q) = true then some (PyData.eqv p q) else none).map (!·) = some t := e
      split at e'
      · rename_i hs
        cases e'
        rw [Bool.and_eq_true] at hs
        exact ⟨_, op_neD hu, p, q, asP_dp R ra e1, asP_dp R rb e2, hs.1, hs.2, w⟩
      · cases e'
/-- an order's operator, ints and alike data -/
theorem c_ord {op : CmpOp} {f : D → D → Cs → Option Bool} {g : Int → Int → Bool} {k : P → P → Bool} (hu : X.A.units + 64 < cLine)
    (hi : OpR X (compareOp op) (rI0 fun i j => .bl (g i j)))
    (hd : ∀ (s : Shared) (u v : Value) (da db : P) (as bs : List Addr) (Q : Value → Shared → Prop) (E : Value → Shared → Prop), Reads s.heap u da as → Reads s.heap v db bs → PySem.W.alike da db = true → da ≠ .none → X.A.units + min da.depth db.depth < cLine → Q (.bool (k da db)) s → wpAny (model X.prog X.w) X.A (compareOp op u v) Q E s)
    (hf : ∀ a b h, f a b h = (match a, b with
      | .p (.int i), .p (.int j) => some (g i j)
      | _, _ => match asP a h, asP b h with
        | some x, some y => if PySem.W.alike x y && notNone x && PySem.SeqAt.shaped x && PySem.SeqAt.shaped y then some (k x y) else none
        | _, _ => none)) :
    OpR X (compareOp op) (fun x y H Q => ∃ ρ h da db t, Rel (cx X n) ρ h H ∧ RD (cx X n) ρ (Live ρ h) H da x ∧ RD (cx X n) ρ (Live ρ h) H db y ∧ f da db h = some t ∧ Q (.bl t) H) := opCases fun x y H Q ⟨ρ, h, da, db, t, R, ra, rb, e, w⟩ => by
  rw [hf] at e
  have data : (match asP da h, asP db h with
        | some x, some y => if PySem.W.alike x y && notNone x && PySem.SeqAt.shaped x && PySem.SeqAt.shaped y then some (k x y) else none
        | _, _ => none) = some t → ∃ r', OpR X (compareOp op) r' ∧ r' x y H Q := fun e => by
    cases e1 : asP da h with
    | none => rw [e1] at e; cases e
    | some p =>
      cases e2 : asP db h with
      | none => rw [e1, e2] at e; cases e
      | some q =>
        rw [e1, e2] at e
        have e' : (if (PySem.W.alike p q && notNone p && PySem.SeqAt.shaped p && PySem.SeqAt.shaped q) = true then some (k p q) else none) = some t := e
        split at e'
        · rename_i hs
          cases e'
          simp only [Bool.and_eq_true] at hs
          obtain ⟨⟨⟨h1, h2⟩, h3⟩, h4⟩ := hs
          have nn : p ≠ .none := fun z => by subst z; cases h2
          have dp := PySem.SeqAt.depth_of_shaped h3
          refine ⟨fun x y H Q => ∃ p q, Dp X.K H x p ∧ Dp X.K H y q ∧ PySem.W.alike p q = true ∧ p ≠ .none ∧ p.depth ≤ 64 ∧ Q (.bl (k p q)) H, fun pins s σ H x y v u Q I rx ry ⟨p, q, d1, d2, al, nn, dp, q'⟩ => ?_, p, q, asP_dp R ra e1, asP_dp R rb e2, h1, nn, dp, w⟩
          obtain ⟨as, r1⟩ := Dp.reads I p x v d1 rx
          obtain ⟨bs, r2⟩ := Dp.reads I q y u d2 ry
          exact hd s v u p q as bs _ _ r1 r2 al nn (by omega) ⟨.bl _, H, I, rfl, q'⟩
        · cases e'
  cases da with
  | p a =>
    cases a with
    | int i =>
      cases db with
      | p b =>
        cases b with
        | int j =>
          cases e
          exact ⟨_, hi, i, j, rd_int ra, rd_int rb, w⟩
        | _ => exact data e
      | _ => exact data e
    | _ => exact data e
  | _ => exact data e
end
end Pd
end
section
/-! PdOp3: orders, is, in; subscripts, slices; dicts read and written. -/
namespace Pd
open PySem PySem.Spec PyProof.Rows L2
section
variable {X : Cx} {n : Nm} {G : Nat → D} {F : FT} {W : WX} {a b d e : Expr} {a' b' d' e' : E} {pos : Pos}
theorem c_lt (hu : X.A.units + 64 < cLine) : OpR X (compareOp .Lt) (rCmp (cx X n) .lt) :=
  c_ord (g := fun i j => decide (i < j)) (k := fun x y => PySem.W.dataLt x y) hu op_lt (fun s u v da db as bs Q E r1 r2 al nn hu' q => PySem.W.lt_data r1 r2 al nn hu' q) (fun a b h => rfl)
theorem c_le (hu : X.A.units + 64 < cLine) : OpR X (compareOp .LtE) (rCmp (cx X n) .le) :=
  c_ord (g := fun i j => decide (i ≤ j)) (k := fun x y => !PySem.W.dataLt y x) hu op_le (fun s u v da db as bs Q E r1 r2 al nn hu' q => PySem.W.le_data r1 r2 al nn hu' q) (fun a b h => rfl)
theorem c_gt (hu : X.A.units + 64 < cLine) : OpR X (compareOp .Gt) (rCmp (cx X n) .gt) :=
  c_ord (g := fun i j => decide (j < i)) (k := fun x y => PySem.W.dataLt y x) hu op_gt (fun s u v da db as bs Q E r1 r2 al nn hu' q => PySem.W.gt_data r1 r2 al nn hu' q) (fun a b h => rfl)
theorem c_ge (hu : X.A.units + 64 < cLine) : OpR X (compareOp .GtE) (rCmp (cx X n) .ge) :=
  c_ord (g := fun i j => decide (j ≤ i)) (k := fun x y => !PySem.W.dataLt x y) hu op_ge (fun s u v da db as bs Q E r1 r2 al nn hu' q => PySem.W.ge_data r1 r2 al nn hu' q) (fun a b h => rfl)
theorem isNone_ok {c : Ct} {ρ : List Addr} {L : Addr → Prop} {H : Hp} {d : D} {x : V} (r : RD c ρ L H d x) : decide (x = .non) = isNone d := by
  cases d with
  | p y =>
    cases y with
    | none => rw [rd_none r]; rfl
    | bool b => rw [rd_bool r]; rfl
    | int i => rw [rd_int r]; rfl
    | str z => rw [rd_str r]; rfl
    | tuple xs => simp only [RD, RP] at r; obtain ⟨_, _, rfl, _⟩ := r; rfl
    | list xs => simp only [RD, RP] at r; obtain ⟨_, _, rfl, _⟩ := r; rfl
    | dict xs => simp only [RD, RP] at r
  | fn f => simp only [RD] at r; rw [r]; rfl
  | ref k => simp only [RD] at r; obtain ⟨_, rfl, _⟩ := r; rfl
  | tup xs => simp only [RD] at r; obtain ⟨_, _, rfl, _⟩ := r; rfl
  | lst xs => simp only [RD] at r; obtain ⟨_, _, rfl, _⟩ := r; rfl
  | dct nk xs => simp only [RD] at r; obtain ⟨_, rfl, _⟩ := r; rfl
  | exn _ _ _ _ => simp only [RD] at r; obtain ⟨_, _, _, _, rfl, _⟩ := r; rfl
theorem c_is : OpR X (compareOp .Is) (rCmp (cx X n) .is) := opCases fun x y H Q ⟨ρ, h, da, db, t, R, ra, rb, e, w⟩ => by
  simp only [cmpD] at e
  split at e
  · cases e
    exact ⟨_, op_isN, rd_none rb, by rw [isNone_ok ra]; exact w⟩
  · split at e
    · cases e
      exact ⟨_, op_isBl, _, _, rd_bool ra, rd_bool rb, w⟩
    · cases e
  · cases e
theorem c_isnot : OpR X (compareOp .IsNot) (rCmp (cx X n) .isnot) := opCases fun x y H Q ⟨ρ, h, da, db, t, R, ra, rb, e, w⟩ => by
  simp only [cmpD] at e
  split at e
  · cases e
    exact ⟨_, op_notN, rd_none rb, by rw [isNone_ok ra]; exact w⟩
  · split at e
    · cases e
      exact ⟨_, op_notBl, _, _, rd_bool ra, rd_bool rb, w⟩
    · cases e
  · cases e
/-! ### dicts of flat keys -/
theorem eqv_key (k k' : Key) : PyData.eqv (keyP k) (keyP k') = decide (k = k') := by
  cases k with
  | inl i =>
    cases k' with
    | inl j => simp only [keyP, PyData.eqv]; by_cases z : i = j <;> simp [z]
    | inr y => simp only [keyP, PyData.eqv]; rfl
  | inr x =>
    cases k' with
    | inl j => simp only [keyP, PyData.eqv]; rfl
    | inr y => simp only [keyP, PyData.eqv]; by_cases z : x = y <;> simp [z]
theorem keyOk_flat {x : P} (h : keyOk false x = true) : ∃ k, x = keyP k := by
  cases x with
  | int i => exact ⟨.inl i, rfl⟩
  | str z => exact ⟨.inr z, rfl⟩
  | _ => cases h
theorem rp_key {K : PySem.W.Frag} {L : Addr → Prop} {H : Hp} {k : Key} {v : V} (r : RP K L H (keyP k) v) : v = kV k := by
  cases k with
  | inl i => simp only [keyP, RP] at r; exact r
  | inr x => simp only [keyP, RP] at r; exact r
theorem RKs.get {c : Ct} {L : Addr → Prop} {H : Hp} (k : Key) : ∀ {kvs : List (P × P)} {qs : List (Key × V)}, RKs c L H kvs qs → match dget kvs (keyP k) with
    | some p => ∃ v, valV qs k = some v ∧ RP c.K L H p v
    | none => valV qs k = none
  | [], qs, r => by have r' : qs = [] := r; subst r'; rfl
  | kv :: t, qs, ⟨k', v, r, e, e1, h1, h2⟩ => by
    subst e
    unfold dget
    rw [e1, eqv_key]
    by_cases z : k' = k
    · subst z
      rw [decide_eq_true rfl, if_pos rfl]
      exact ⟨v, valV_pos rfl, h1⟩
    · rw [decide_eq_false z, if_neg (by decide)]
      have ih := RKs.get k h2
      cases e2 : dget t (keyP k) with
      | none => rw [e2] at ih; exact (valV_neg z).trans ih
      | some p =>
        rw [e2] at ih
        obtain ⟨v', q1, q2⟩ := ih
        exact ⟨v', (valV_neg z).trans q1, q2⟩
/-- a dict, to be read -/
theorem dictOf_rel {c : Ct} {ρ : List Addr} {h : Cs} {H : Hp} {d : D} {v : V} {nk : Bool} {kvs : List (P × P)} (R : Rel c ρ h H) (r : RD c ρ (Live ρ h) H d v) (e : dictOf d h = some (nk, kvs)) :
    ∃ a, v = .ref a ∧ RDct c (Live ρ h) H (Rd H a) a nk kvs := by
  cases d with
  | dct nk' kvs' =>
    simp only [dictOf, Option.some.injEq, Prod.mk.injEq] at e
    obtain ⟨rfl, rfl⟩ := e
    simp only [RD] at r
    obtain ⟨a, rfl, _, q⟩ := r
    exact ⟨a, rfl, q⟩
  | ref k =>
    simp only [RD] at r
    obtain ⟨a, rfl, ea⟩ := r
    simp only [dictOf] at e
    cases ek : h[k]? with
    | none => rw [ek] at e; cases e
    | some o =>
      have q := R.ob k o a ek ea
      rw [ek] at e
      cases o with
      | dct nk' kvs' =>
        simp only [Option.some.injEq, Prod.mk.injEq] at e
        obtain ⟨rfl, rfl⟩ := e
        have q' : RDct c (Live ρ h) H (fun o => H a = Option.some o) a nk' kvs' := q
        exact ⟨a, rfl, q'.stayAt (fun b u _ r n => ⟨r, n⟩) fun o _ e => .inl e⟩
      | lst _ => cases e
      | lsr _ => cases e
      | exc _ _ => cases e
      | dead => cases e
      | held => cases e
  | p y => cases y <;> simp [dictOf] at e
  | fn _ => simp [dictOf] at e
  | tup _ => simp [dictOf] at e
  | lst _ => simp [dictOf] at e
  | exn _ _ _ _ => simp [dictOf] at e
theorem dget_rel {c : Ct} {ρ : List Addr} {h : Cs} {H : Hp} {a : Addr} {kvs : List (P × P)} {x : P} {y : V} (q : RDct c (Live ρ h) H (Rd H a) a false kvs) (hk : keyOk false x = true) (ry : RP c.K (Live ρ h) H x y) :
    ∃ o, DGet H a y o ∧ (match dget kvs x with | some p => ∃ v, o = some v ∧ RP c.K (Live ρ h) H p v | none => o = none) := by
  obtain ⟨qs, e, r, _⟩ := q
  obtain ⟨k, rfl⟩ := keyOk_flat hk
  refine ⟨valV qs k, .inl ⟨qs, k, e, rp_key ry, rfl⟩, ?_⟩
  have := RKs.get k r
  cases e2 : dget kvs (keyP k) with
  | none => rw [e2] at this; exact this
  | some p => rw [e2] at this; exact this
/-- y in d -/
theorem op_dIn (hu : X.A.units + 1 < cLine) : OpR X (compareOp .In) (fun y x H Q => ∃ a o, x = .ref a ∧ DGet H a y o ∧ Q (.bl o.isSome) H) := fun pins s σ H x y v u Q I rx ry ⟨a, o, e, g, q⟩ => by
  subst e
  cases (show u = Value.ref a from ry)
  exact d_in hu I g rx fun s' I' => ⟨.bl _, H, I', rfl, q⟩
theorem op_dNotIn (hu : X.A.units + 1 < cLine) : OpR X (compareOp .NotIn) (fun y x H Q => ∃ a o, x = .ref a ∧ DGet H a y o ∧ Q (.bl (!o.isSome)) H) := fun pins s σ H x y v u Q I rx ry ⟨a, o, e, g, q⟩ => by
  subst e
  cases (show u = Value.ref a from ry)
  exact d_notIn hu I g rx fun s' I' => ⟨.bl _, H, I', rfl, q⟩
theorem str_one {z : Str} (h : z.length = 1) : z = ⟨#[z.cps.toList.headD 0]⟩ := by
  obtain ⟨a⟩ := z
  have h' : a.size = 1 := h
  obtain ⟨l⟩ := a
  have hl : l.length = 1 := h'
  match l, hl with
  | [c], _ => rfl
/-- in, not in -/
theorem in_cases {op : CmpOp} {neg : Bool} (hu : X.A.units + 65 < cLine)
    (h1 : OpR X (compareOp op) (fun y x H Q => ∃ a o, x = .ref a ∧ DGet H a y o ∧ Q (.bl (xor neg (Option.isSome o))) H))
    (h2 : OpR X (compareOp op) (fun x y H Q => ∃ (c : Nat) (z : Str), x = .str ⟨#[c]⟩ ∧ y = .str z ∧ Q (.bl (xor neg (decide (c ∈ z.cps.toList)))) H))
    (h3 : OpR X (compareOp op) (fun x y H Q => ∃ d ds, Dp X.K H x d ∧ Dp X.K H y (.list ds) ∧ SeqAt.shaped d = true ∧ SeqAt.shaped (.list ds) = true ∧ Q (.bl (xor neg (ds.any fun z => PyData.eqv z d))) H))
    (h4 : OpR X (compareOp op) (fun x y H Q => ∃ d ds, Dp X.K H x d ∧ Dp X.K H y (.tuple ds) ∧ SeqAt.shaped d = true ∧ SeqAt.shaped (.tuple ds) = true ∧ Q (.bl (xor neg (ds.any fun z => PyData.eqv z d))) H)) :
    OpR X (compareOp op) (fun x y H Q => ∃ ρ h da db t, Rel (cx X n) ρ h H ∧ RD (cx X n) ρ (Live ρ h) H da x ∧ RD (cx X n) ρ (Live ρ h) H db y ∧ cmpD.inD da db h = some t ∧ Q (.bl (xor neg t)) H) := opCases fun x y H Q ⟨ρ, h, da, db, t, R, ra, rb, e, w⟩ => by
  unfold cmpD.inD at e
  cases e1 : dictOf db h with
  | some q =>
    obtain ⟨nk, kvs⟩ := q
    rw [e1] at e
    obtain ⟨a, rfl, q⟩ := dictOf_rel R rb e1
    cases da with
    | p z =>
      have e' : (if keyOk nk z then some (dget kvs z).isSome else none) = some t := e
      split at e'
      · rename_i hk
        cases e'
        cases nk with
        | true => cases hk
        | false =>
          simp only [RD] at ra
          obtain ⟨o, g, m⟩ := dget_rel q hk ra
          refine ⟨_, h1, a, o, rfl, g, ?_⟩
          have eo : o.isSome = (dget kvs z).isSome := by
            cases e3 : dget kvs z with
            | none => rw [e3] at m; have m' : o = none := m; rw [m']; rfl
            | some p => rw [e3] at m; obtain ⟨v, m', _⟩ := m; rw [m']; rfl
          rw [eo]; exact w
      · cases e'
    | _ => cases e
  | none =>
    rw [e1] at e
    have seq : (match asP da h, asP db h with
        | some x, some (.list ys) => if SeqAt.shaped x && SeqAt.shaped (.list ys) then some (memP x ys) else none
        | some x, some (.tuple ys) => if SeqAt.shaped x && SeqAt.shaped (.tuple ys) then some (memP x ys) else none
        | _, _ => none) = some t → ∃ r', OpR X (compareOp op) r' ∧ r' x y H Q := fun e => by
      cases e2 : asP da h with
      | none => rw [e2] at e; cases e
      | some p =>
        cases e3 : asP db h with
        | none => rw [e2, e3] at e; cases e
        | some q =>
          rw [e2, e3] at e
          cases q with
          | list ys =>
            have e' : (if (SeqAt.shaped p && SeqAt.shaped (.list ys)) = true then some (memP p ys) else none) = some t := e
            split at e'
            · rename_i hs
              cases e'
              rw [Bool.and_eq_true] at hs
              exact ⟨_, h3, p, ys, asP_dp R ra e2, asP_dp R rb e3, hs.1, hs.2, w⟩
            · cases e'
          | tuple ys =>
            have e' : (if (SeqAt.shaped p && SeqAt.shaped (.tuple ys)) = true then some (memP p ys) else none) = some t := e
            split at e'
            · rename_i hs
              cases e'
              rw [Bool.and_eq_true] at hs
              exact ⟨_, h4, p, ys, asP_dp R ra e2, asP_dp R rb e3, hs.1, hs.2, w⟩
            · cases e'
          | _ => cases e
    cases db with
    | p q =>
      cases q with
      | str z =>
        cases da with
        | p p =>
          cases p with
          | str x0 =>
            have e' : (if (x0.length == 1) = true then some (decide (x0.cps.toList.headD 0 ∈ z.cps.toList)) else none) = some t := e
            split at e'
            · rename_i hl
              cases e'
              have hx := str_one (z := x0) (by simpa using hl)
              exact ⟨_, h2, x0.cps.toList.headD 0, z, by rw [rd_str ra, ← hx], rd_str rb, w⟩
            · cases e'
          | _ => cases e
        | _ => cases e
      | _ => exact seq e
    | _ => exact seq e
theorem c_in (hu : X.A.units + 65 < cLine) : OpR X (compareOp .In) (rCmp (cx X n) .inn) := opCases fun x y H Q ⟨ρ, h, da, db, t, R, ra, rb, e, w⟩ =>
  ⟨_, in_cases (n := n) (neg := false) hu
    (opCases fun y x H Q ⟨a, o, e, g, q⟩ => ⟨_, op_dIn (by omega), a, o, e, g, by simpa using q⟩)
    (opCases fun x y H Q ⟨c, z, e1, e2, q⟩ => ⟨_, op_in_sign, c, z, e1, e2, by simpa using q⟩)
    (opCases fun x y H Q ⟨d, ds, e1, e2, e3, e4, q⟩ => ⟨_, op_inD hu, d, ds, e1, e2, e3, e4, by simpa using q⟩)
    (fun pins s σ H x y v u Q I rx ry ⟨d, ds, hd, he, sd, se, q⟩ => by
      obtain ⟨as, r1⟩ := Dp.reads I d x v hd rx
      obtain ⟨bs, r2⟩ := Dp.reads I (.tuple ds) y u he ry
      exact SeqAt.in_tuple_reads r2 r1 (SeqAt.canLay_of_shaped se) (SeqAt.canLay_of_shaped sd) (PyProof.Rows.room_in_shaped sd hu) ⟨.bl _, H, I, rfl, by simpa using q⟩),
    ρ, h, da, db, t, R, ra, rb, e, by simpa using w⟩
theorem c_notin (hu : X.A.units + 65 < cLine) : OpR X (compareOp .NotIn) (rCmp (cx X n) .notin) := opCases fun x y H Q ⟨ρ, h, da, db, t, R, ra, rb, e, w⟩ => by
  have e' : (cmpD.inD da db h).map (!·) = some t := e
  obtain ⟨t', e1, e2⟩ := Option.map_eq_some_iff.mp e'
  refine ⟨_, in_cases (n := n) (neg := true) hu
    (opCases fun y x H Q ⟨a, o, e, g, q⟩ => ⟨_, op_dNotIn (by omega), a, o, e, g, by simpa using q⟩)
    (opCases fun x y H Q ⟨c, z, e1, e2, q⟩ => ⟨_, op_notIn_sign, c, z, e1, e2, by simpa using q⟩)
    (opCases fun x y H Q ⟨d, ds, e1, e2, e3, e4, q⟩ => ⟨_, op_notInD hu, d, ds, e1, e2, e3, e4, by simpa using q⟩)
    (fun pins s σ H x y v u Q I rx ry ⟨d, ds, hd, he, sd, se, q⟩ => by
      obtain ⟨as, r1⟩ := Dp.reads I d x v hd rx
      obtain ⟨bs, r2⟩ := Dp.reads I (.tuple ds) y u he ry
      exact SeqAt.notIn_tuple_reads r2 r1 (SeqAt.canLay_of_shaped se) (SeqAt.canLay_of_shaped sd) (PyProof.Rows.room_in_shaped sd hu) ⟨.bl _, H, I, rfl, by simpa using q⟩),
    ρ, h, da, db, t', R, ra, rb, e1, ?_⟩
  subst e2
  simpa using w
end
end Pd
end
section
/-! PdOp4: subscripts, slices, stores, op=. -/
namespace Pd
open PySem PySem.Spec PyProof.Rows L2
section
variable {X : Cx} {n : Nm} {G : Nat → D} {F : FT} {W : WX} {a b d e : Expr} {a' b' d' e' : E} {pos p2 : Pos}
theorem ixCases {r : R2} (h : ∀ x y H Q, r x y H Q → ∃ r', IxR X r' ∧ r' x y H Q) : IxR X r := fun value slice pins s σ H x y v u Q I rx ry q hs => by
  obtain ⟨r', ho, q'⟩ := h x y H Q q
  exact ho value slice pins s σ H x y v u Q I rx ry q' hs
theorem slCases {r : V → Option Int → Option Int → Hp → VK → Prop} (h : ∀ x lo hi H Q, r x lo hi H Q → ∃ r', SlR X r' ∧ r' x lo hi H Q) : SlR X r := fun pins s σ H x v vl vu lo hi sl Q I rx hs pl pu q => by
  obtain ⟨r', ho, q'⟩ := h x lo hi H Q q
  exact ho pins s σ H x v vl vu lo hi sl Q I rx hs pl pu q'
theorem ix_dict (hu : X.A.units + 1 < cLine) : IxR X (fun x y H Q => ∃ a v, x = .ref a ∧ DGet H a y (some v) ∧ Q v H) := fun value slice pins s σ H x y v u Q I rx ry ⟨a, z, e, g, q⟩ hs => by
  subst e
  cases (show v = Value.ref a from rx)
  exact tail_any (dict_typeIs I g) PySem.F.slot_dict_getitem.lookup (d_getItem hu I g ry fun w' s3 I3 rw' => ⟨z, H, I3, rw', q⟩) hs
theorem ixN_eq (m : Nat) (i : Int) : Pd.ixN m i = L2.ixN m i := rfl
theorem seqGet_rel {c : Ct} {ρ : List Addr} {L : Addr → Prop} {H : Hp} {xs : List D} {vs : List V} {j : Int} {d : D} (r : RDs c ρ L H xs vs) (e : seqGet xs j = some d) : ∃ v, L2.atI vs j = some v ∧ RD c ρ L H d v := by
  unfold seqGet at e
  cases e1 : Pd.ixN xs.length j with
  | none => rw [e1] at e; cases e
  | some m =>
    rw [e1] at e
    obtain ⟨v, e2, q⟩ := r.get e
    refine ⟨v, ?_, q⟩
    unfold L2.atI
    rw [r.length, ← ixN_eq, e1]
    exact e2
theorem x_sub (hu : X.A.units + 1 < cLine) (ha : PE X a (tE (cx X n) G F W a')) (hb : PE X b (tE (cx X n) G F W b')) (hs : PlainIx b) : PE X (.Subscript a b pos) (tE (cx X n) G F W (.sub a' b')) := by
  have ix : IxR X (fun x y H Q => ∃ ρ h da db d, Rel (cx X n) ρ h H ∧ RD (cx X n) ρ (Live ρ h) H da x ∧ RD (cx X n) ρ (Live ρ h) H db y ∧ subD da db h = some d ∧ ∀ v, RD (cx X n) ρ (Live ρ h) H d v → Q v H) := ixCases fun x y H Q ⟨ρ, h, da, db, d, R, ra, rb, e, w⟩ => by
    unfold subD at e
    cases e1 : dictOf da h with
    | some q =>
      obtain ⟨nk, kvs⟩ := q
      rw [e1] at e
      obtain ⟨a, rfl, q⟩ := dictOf_rel R ra e1
      cases db with
      | p z =>
        have e' : (if keyOk nk z = true then (match dget kvs z with | some v => some (D.p v) | none => none) else none) = some d := e
        split at e'
        · rename_i hk
          cases nk with
          | true => cases hk
          | false =>
            simp only [RD] at rb
            obtain ⟨o, g, m⟩ := dget_rel q hk rb
            cases e3 : dget kvs z with
            | none => rw [e3] at e'; cases e'
            | some p =>
              rw [e3] at m e'
              cases e'
              obtain ⟨v, m1, m2⟩ := m
              exact ⟨_, ix_dict hu, a, v, rfl, by rw [← m1]; exact g, w v (by simp only [RD]; exact m2)⟩
        · cases e'
      | _ => cases e
    | none =>
      rw [e1] at e
      cases db with
      | p z =>
        cases z with
        | int j =>
          have ey := rd_int rb
          subst ey
          cases el : lstOf da h with
          | some xs =>
            rw [el] at e
            obtain ⟨a, vs, rfl, q, r1, _⟩ := lstOf_rel R ra el
            obtain ⟨v, e2, r2⟩ := seqGet_rel r1 e
            exact ⟨_, ix_list, a, vs, j, v, rfl, rfl, q, e2, w v r2⟩
          | none =>
            rw [el] at e
            cases et : tupOf da with
            | some xs =>
              rw [et] at e
              obtain ⟨a, vs, rfl, q, r1⟩ := tupOf_rel ra et
              obtain ⟨v, e2, r2⟩ := seqGet_rel r1 e
              exact ⟨_, ix_tup, a, vs, j, v, rfl, rfl, q.sq, e2, w v r2⟩
            | none =>
              rw [et] at e
              cases da with
              | p y =>
                cases y with
                | str z =>
                  have e' : (if sizeOk z.length = true then (match Pd.ixN z.length j with | some n => (match z.cps.toList[n]? with | some k => some (D.p (chr1 k)) | none => none) | none => none) else none) = some d := e
                  split at e'
                  · rename_i hz
                    cases e3 : Pd.ixN z.length j with
                    | none => rw [e3] at e'; cases e'
                    | some m =>
                      rw [e3] at e'
                      have e4 : (match z.cps.toList[m]? with | some k => some (D.p (chr1 k)) | none => none) = some d := e'
                      cases e5 : z.cps.toList[m]? with
                      | none => rw [e5] at e4; cases e4
                      | some k =>
                        rw [e5] at e4
                        cases e4
                        refine ⟨_, ix_str, z, j, k, rd_str ra, rfl, size_le hz, ?_, w _ (by simp only [RD, RP, chr1])⟩
                        unfold L2.atI
                        have hl : z.cps.toList.length = z.length := by simp [Str.length]
                        rw [hl, ← ixN_eq, e3]
                        exact e5
                  · cases e'
                | _ => cases e
              | _ => cases e
        | _ => cases e
      | _ => cases e
  exact peImp (pe_ix ix ha hb hs) fun σ H Q ⟨ρ, h, σD, R, S, w⟩ => by
    simp only [ev] at w
    refine ⟨ρ, h, σD, R, S, w.bind fun da h1 x H1 ρ1 g1 R1 r1 w1 => ⟨ρ1, h1, σD, R1, g1.relS S, w1.bind fun db h2 y H2 ρ2 g2 R2 r2 w2 => ?_⟩⟩
    cases e : subD da db h2 with
    | none => rw [e] at w2; exact w2.elim
    | some d => rw [e] at w2; exact ⟨ρ2, h2, da, db, d, R2, g2.rd r1, r2, e, fun v r => Wn.ok R2 w2 r⟩
/-! ### slices -/
/-- a bound's reading -/
def tOI (c : Ct) (G : Nat → D) (F : FT) (W : WX) (ir : E) : TO := fun σ H Q => ∃ ρ h σD, Rel c ρ h H ∧ RelS c ρ h H σD σ ∧ Wn c W σ ρ h H (fun _ _ _ (o o' : Option Int) => o = o') (bndR ir.isAb (ev G F ir σD h) h) Q
theorem poImp {e : Option Expr} {t t' : TO} (h : PO X e t) (i : ∀ σ H Q, t' σ H Q → t σ H Q) : PO X e t' := ⟨fun pins s σ H Q I q => h.run pins s σ H Q I (i σ H Q q)⟩
theorem o_none : PO X none (tOI (cx X n) G F W .ab) := poImp po_none fun σ H Q ⟨ρ, h, σD, R, S, w⟩ => by
  exact w none H ρ Go.refl R rfl
theorem o_some (hb : b'.isAb = false) (h : PE X b (tE (cx X n) G F W b')) : PO X (some b) (tOI (cx X n) G F W b') := poImp (po_some h) fun σ H Q ⟨ρ, h, σD, R, S, w⟩ => by
  rw [hb] at w
  have w' : Wn (cx X n) W σ ρ h H (fun _ _ _ (o o' : Option Int) => o = o') ((ev G F b' σD h).bind fun d h1 => match d with | .p (.int i) => .ok (some i) h1 | _ => .no "bound") Q := w
  refine ⟨ρ, h, σD, R, S, w'.bind fun d h1 x H1 ρ1 g1 R1 r1 w1 => ?_⟩
  cases d with
  | p y =>
    cases y with
    | int i => exact ⟨i, rd_int r1, w1 (some i) H1 ρ1 Go.refl R1 rfl⟩
    | _ => exact w1.elim
  | _ => exact w1.elim
theorem sIx_eq (m d : Nat) (o : Option Int) : Pd.sIx m d o = HT.sIx m d o := by cases o <;> rfl
theorem cut_eq {α : Type} (xs : List α) (l u : Option Int) : Pd.cut xs l u = (xs.drop (HT.sIx xs.length 0 l)).take (HT.sIx xs.length xs.length u - HT.sIx xs.length 0 l) := by
  unfold Pd.cut; rw [sIx_eq, sIx_eq]
theorem RDs.drop {c : Ct} {ρ : List Addr} {L : Addr → Prop} {H : Hp} : ∀ (k : Nat) {xs : List D} {vs : List V}, RDs c ρ L H xs vs → RDs c ρ L H (xs.drop k) (vs.drop k)
  | 0, _, _, r => r
  | k + 1, [], vs, r => by simp only [RDs] at r; subst r; exact RDs.nil
  | k + 1, x :: xs, vs, r => by
    obtain ⟨v, t, rfl, _, r2⟩ := r.cons_inv
    exact RDs.drop k r2
theorem RDs.takeN {c : Ct} {ρ : List Addr} {L : Addr → Prop} {H : Hp} : ∀ (k : Nat) {xs : List D} {vs : List V}, RDs c ρ L H xs vs → RDs c ρ L H (xs.take k) (vs.take k)
  | 0, _, _, r => RDs.nil
  | k + 1, [], vs, r => by simp only [RDs] at r; subst r; exact RDs.nil
  | k + 1, x :: xs, vs, r => by
    obtain ⟨v, t, rfl, r1, r2⟩ := r.cons_inv
    exact RDs.cons r1 (RDs.takeN k r2)
theorem RDs.cut {c : Ct} {ρ : List Addr} {L : Addr → Prop} {H : Hp} {xs : List D} {vs : List V} (r : RDs c ρ L H xs vs) (l u : Option Int) : RDs c ρ L H (Pd.cut xs l u) (L2.cutV vs l u) := by
  rw [cut_eq]
  unfold L2.cutV
  rw [r.length]
  exact (r.drop _).takeN _
theorem cut_whole {α : Type} {xs : List α} {l u : Option Int} (h : HT.sIx xs.length 0 l = 0 ∧ HT.sIx xs.length xs.length u = xs.length) : Pd.cut xs l u = xs := by
  rw [cut_eq, h.1, h.2]; simp
theorem x_slc {lo hi : Option Expr} {l' u' : E} (ha : PE X a (tE (cx X n) G F W a')) (hl : PO X lo (tOI (cx X n) G F W l')) (hh : PO X hi (tOI (cx X n) G F W u')) : PE X (.Subscript a (.Slice lo hi none p2) pos) (tE (cx X n) G F W (.slc a' l' u')) := by
  have sl : SlR X (fun x l u H Q => ∃ ρ h da d, Rel (cx X n) ρ h H ∧ RD (cx X n) ρ (Live ρ h) H da x ∧ slcD da l u h = some d ∧
      ∀ (v : V) (H' : Hp) (ρ' : List Addr), Go ρ h H ρ' h H' → Rel (cx X n) ρ' h H' → RD (cx X n) ρ' (Live ρ' h) H' d v → Q v H') := slCases fun x l u H Q ⟨ρ, h, da, d, R, ra, e, w⟩ => by
    unfold slcD at e
    cases el : lstOf da h with
    | some xs =>
      rw [el] at e
      cases e
      obtain ⟨a, vs, rfl, q, r1, _⟩ := lstOf_rel R ra el
      refine ⟨_, sl_list, a, vs, rfl, q, fun p hp => ?_⟩
      obtain ⟨R2, g2, q2⟩ := R.newLst hp (r1.cut l u)
      exact w _ _ ρ g2 R2 q2
    | none =>
      rw [el] at e
      cases et : tupOf da with
      | some xs =>
        rw [et] at e
        cases e
        obtain ⟨a, vs, rfl, q, r1⟩ := tupOf_rel ra et
        refine ⟨_, sl_tupA, a, vs, rfl, q.sq, fun hw => ?_, fun _ p hp => ?_⟩
        · rw [r1.length] at hw
          exact w _ H ρ Go.refl R (by rw [cut_whole hw]; exact RD.mkTup q r1)
        · obtain ⟨R2, g2, q2⟩ := R.newTup hp (r1.cut l u)
          exact w _ _ ρ g2 R2 q2
      | none =>
        rw [et] at e
        cases da with
        | p y =>
          cases y with
          | str z =>
            have e' : (if sizeOk z.length = true then some (D.p (.str ⟨(Pd.cut z.cps.toList l u).toArray⟩)) else none) = some d := e
            split at e'
            · rename_i hz
              cases e'
              refine ⟨_, sl_str, z, rd_str ra, size_le hz, w _ H ρ Go.refl R ?_⟩
              simp only [RD, RP]
              have hl : z.cps.toList.length = z.length := by simp [Str.length]
              rw [cut_eq, hl]
              rfl
            · cases e'
          | _ => cases e
        | _ => cases e
  exact peImp (pe_slice sl ha hl hh) fun σ H Q ⟨ρ, h, σD, R, S, w⟩ => by
    simp only [ev] at w
    refine ⟨ρ, h, σD, R, S, w.bind fun da h1 x H1 ρ1 g1 R1 r1 w1 => ⟨ρ1, h1, σD, R1, g1.relS S, w1.bind fun l h2 l2 H2 ρ2 g2 R2 r2 w2 => ⟨ρ2, h2, σD, R2, (g1.trans g2).relS S, w2.bind fun u h3 u2 H3 ρ3 g3 R3 r3 w3 => ?_⟩⟩⟩
    subst r2; subst r3
    cases e : slcD da l u h3 with
    | none => rw [e] at w3; exact w3.elim
    | some d => rw [e] at w3; exact ⟨ρ3, h3, da, d, R3, g3.rd (g2.rd r1), e, w3⟩
/-! ### o[i] = v -/
theorem putK_hd {q : Key × V} {t : List (Key × V)} {k : Key} {v : V} (e : q.1 = k) (nd : k ∉ t.map (·.1)) : putK (q :: t) k v = (k, v) :: t := by
  unfold putK
  rw [if_pos (by simp [e])]
  rw [List.map_cons, if_pos e, e]
  congr 1
  have : ∀ l : List (Key × V), k ∉ l.map (·.1) → l.map (fun kv => if kv.1 = k then (kv.1, v) else kv) = l := by
    intro l
    induction l with
    | nil => intro _; rfl
    | cons x r ih =>
      intro h
      simp only [List.map_cons, List.mem_cons, not_or] at h
      rw [List.map_cons, if_neg (fun z => h.1 z.symm), ih h.2]
  exact this t nd
theorem putK_tl {q : Key × V} {t : List (Key × V)} {k : Key} {v : V} (e : ¬ q.1 = k) : putK (q :: t) k v = q :: putK t k v := by
  unfold putK
  rw [List.any_cons, decide_eq_false e, Bool.false_or]
  split
  · rw [List.map_cons, if_neg e]
  · rfl
theorem putK_keys {k : Key} {v : V} : ∀ {qs : List (Key × V)}, (qs.map (·.1)).Nodup → ((putK qs k v).map (·.1)).Nodup ∧ ∀ j, j ∈ (putK qs k v).map (·.1) → j = k ∨ j ∈ qs.map (·.1)
  | [], _ => ⟨by simp [putK], fun j hj => by simp [putK] at hj; exact .inl hj⟩
  | q :: t, nd => by
    rw [List.map_cons, List.nodup_cons] at nd
    by_cases e : q.1 = k
    · rw [putK_hd e (by rw [← e]; exact nd.1), List.map_cons, List.nodup_cons]
      exact ⟨⟨by rw [← e]; exact nd.1, nd.2⟩, fun j hj => by
        rcases List.mem_cons.mp hj with z | z
        · exact .inl z
        · exact .inr (by rw [List.map_cons]; exact List.mem_cons_of_mem _ z)⟩
    · rw [putK_tl e, List.map_cons, List.nodup_cons]
      obtain ⟨h1, h2⟩ := putK_keys (k := k) (v := v) nd.2
      refine ⟨⟨fun hm => ?_, h1⟩, fun j hj => ?_⟩
      · rcases h2 _ hm with z | z
        · exact e z
        · exact nd.1 z
      · rcases List.mem_cons.mp hj with z | z
        · exact .inr (by rw [List.map_cons, z]; exact List.mem_cons_self)
        · rcases h2 _ z with z | z
          · exact .inl z
          · exact .inr (by rw [List.map_cons]; exact List.mem_cons_of_mem _ z)
theorem RKs.put {c : Ct} {L : Addr → Prop} {H : Hp} (k : Key) {p : P} {v : V} (rv : RP c.K L H p v) : ∀ {kvs : List (P × P)} {qs : List (Key × V)}, RKs c L H kvs qs → (qs.map (·.1)).Nodup → RKs c L H (dput kvs (keyP k) p) (putK qs k v)
  | [], qs, r, _ => by
    have r' : qs = [] := r
    subst r'
    exact ⟨k, v, [], by simp [putK], rfl, rv, rfl⟩
  | kv :: t, qs, ⟨k', v', r, e, e1, h1, h2⟩, nd => by
    subst e
    rw [List.map_cons, List.nodup_cons] at nd
    unfold dput
    rw [e1, eqv_key]
    by_cases z : k' = k
    · subst z
      rw [decide_eq_true rfl, if_pos rfl, putK_hd rfl nd.1]
      exact ⟨k', v, r, rfl, rfl, rv, h2⟩
    · rw [decide_eq_false z, if_neg (by decide), putK_tl z]
      exact ⟨k', v', _, rfl, e1, h1, RKs.put k rv h2 nd.2⟩
theorem RKs.length {c : Ct} {L : Addr → Prop} {H : Hp} : ∀ {kvs : List (P × P)} {qs : List (Key × V)}, RKs c L H kvs qs → qs.length = kvs.length
  | [], qs, r => by have r' : qs = [] := r; subst r'; rfl
  | kv :: t, qs, ⟨k', v', r, e, e1, h1, h2⟩ => by subst e; simp [RKs.length h2]
theorem RPs.set {K : PySem.W.Frag} {L : Addr → Prop} {H : Hp} {p : P} {v : V} (rv : RP K L H p v) : ∀ {xs : List P} {vs : List V} (j : Nat), RPs K L H xs vs → RPs K L H (xs.set j p) (vs.set j v)
  | [], vs, j, r => by simp only [RPs] at r; subst r; simp [RPs]
  | x :: xs, vs, 0, r => by
    simp only [RPs] at r ⊢
    obtain ⟨u, t, rfl, r1, r2⟩ := r
    exact ⟨v, t, rfl, rv, r2⟩
  | x :: xs, vs, j + 1, r => by
    simp only [RPs] at r
    obtain ⟨u, t, rfl, r1, r2⟩ := r
    simp only [List.set_cons_succ, RPs]
    exact ⟨u, _, rfl, r1, RPs.set rv j r2⟩
theorem rps_len {K : PySem.W.Frag} {L : Addr → Prop} {H : Hp} : ∀ {xs : List P} {vs : List V}, RPs K L H xs vs → vs.length = xs.length
  | [], vs, r => by simp only [RPs] at r; subst r; rfl
  | x :: xs, vs, r => by simp only [RPs] at r; obtain ⟨u, t, rfl, _, r2⟩ := r; simp [rps_len r2]
theorem s_put {o i e : Expr} {o' i' e' : E} {tpos : Pos} (hu : X.A.units + 1 < cLine) (he : PE X e (tE (cx X n) G F W e')) (ho : PE X o (tE (cx X n) G F W o')) (hi : PE X i (tE (cx X n) G F W i'))
    (ha : ∀ v, assign (.Subscript o i tpos) X.env v = (do
      let ov ← holding [v] (eval o X.env)
      let iv ← holding [v, ov] (eval i X.env)
      standAt tpos
      holding [v, ov, iv] (setItem ov iv v)
      release [v, ov, iv] [])) (hs : swapsWithSole [.Subscript o i tpos] e pos.line X.env = pure false) (hw : swappedStores [.Subscript o i tpos] e X.env = pure none) :
    PS X (.Assign [.Subscript o i tpos] e pos) (tS (cx X n) G F W (.put o' i' e')) := by
  have st : PSet X (fun o i v H Q => ∃ ρ h dx dy dv h4, Rel (cx X n) ρ h H ∧ RD (cx X n) ρ (Live ρ h) H dx o ∧ RD (cx X n) ρ (Live ρ h) H dy i ∧ RD (cx X n) ρ (Live ρ h) H dv v ∧ putD dx dy dv h = some h4 ∧
      ∀ (H' : Hp), Go ρ h H ρ h4 H' → Rel (cx X n) ρ h4 H' → Q H') := fun pins s σ H o i v ov iv u Q I ro ri rv ⟨ρ, h, dx, dy, dv, h4, R, rx, ry, rd, e, w⟩ => by
    unfold putD at e
    split at e
    · rename_i k x y
      simp only [RD] at rx ry rd
      obtain ⟨a, rfl, ea⟩ := rx
      cases ek : h[k]? with
      | none => rw [ek] at e; cases e
      | some m =>
        have q := R.ob k m a ek ea
        rw [ek] at e
        cases m with
        | dct nk kvs =>
          have e' : (if (keyOk nk x && sizeOk kvs.length) = true then some (setC h k (.dct nk (dput kvs x y))) else none) = some h4 := e
          split at e'
          · rename_i hk
            cases e'
            rw [Bool.and_eq_true] at hk
            cases nk with
            | true => cases hk.1
            | false =>
              have q' : RDct (cx X n) (Live ρ h) H (fun o => H a = Option.some o) a false kvs := q
              obtain ⟨qs, e1, r1, nd⟩ := q'
              obtain ⟨k', rfl⟩ := keyOk_flat hk.1
              have ey := rp_key ry
              subst ey
              have hlen : qs.length < sizeLine := by
                rw [r1.length, sizeLine_eq]
                have := of_decide_eq_true hk.2
                omega
              obtain ⟨R2, g2⟩ := R.put (m' := .dct false (dput kvs (keyP k') y)) (o := .dK (putK qs k' v)) ek ea rfl (fun z => nomatch z) fun L' H' st eo =>
                ⟨_, eo, RKs.put k' (RP.stay st _ _ rd) (RKs.stay st _ _ r1) nd, (putK_keys nd).1⟩
              exact set_dict hu pins s σ H _ _ v ov iv u Q I ro ri rv ⟨a, _, rfl, .inl ⟨qs, k', e1, rfl, hlen, rfl⟩, w _ g2 R2⟩
          · cases e'
        | lst xs =>
          obtain ⟨vs, e1, r1⟩ := q
          cases x with
          | int j =>
            have e' : (match Pd.ixN xs.length j with | some n => some (setC h k (.lst (xs.set n y))) | none => none) = some h4 := e
            cases e2 : Pd.ixN xs.length j with
            | none => rw [e2] at e'; cases e'
            | some m =>
              rw [e2] at e'
              cases e'
              simp only [RP] at ry
              subst ry
              obtain ⟨R2, g2⟩ := R.put (m' := .lst (xs.set m y)) (o := .lst (vs.set m v)) ek ea rfl (fun z => nomatch z) fun L' H' st eo =>
                ⟨_, eo, RPs.set (RP.stay st _ _ rd) m (RPs.stay st _ _ r1)⟩
              exact set_list pins s σ H _ _ v ov iv u Q I ro ri rv ⟨a, vs, j, m, rfl, rfl, e1, by rw [rps_len r1]; exact e2, w _ g2 R2⟩
          | _ => cases e
        | _ => cases e
    · cases e
  refine psImp (ps_asg he (pg_sub ho hi st ha) hs hw rfl) fun D σ H ⟨ρ, h, σD, R, S, w⟩ => ?_
  simp only [exec] at w
  refine ⟨ρ, h, σD, R, S, w.st S fun dv h1 v H1 ρ1 e1 g1 R1 r1 w1 => ?_⟩
  refine ⟨ρ1, h1, σD, R1, g1.relS S, w1.st (g1.relS S) fun dx h2 x H2 ρ2 e2 g2 R2 r2 w2 => ?_⟩
  refine ⟨ρ2, h2, σD, R2, (g1.trans g2).relS S, w2.st ((g1.trans g2).relS S) fun dy h3 y H3 ρ3 e3 g3 R3 r3 w3 => ?_⟩
  have w4 : Wo (cx X n) W ρ3 h3 H3 (match putD dx dy dv h3 with | some h4 => O.nx σD h4 | none => O.no "put") D := w3
  cases e4 : putD dx dy dv h3 with
  | none => rw [e4] at w4; exact w4.elim
  | some h4 =>
    rw [e4] at w4
    exact ⟨ρ3, h3, dx, dy, dv, h4, R3, g3.rd r2, r3, (g2.trans g3).rd r1, e4, fun H' g4 R4 => w4 H' ρ3 σ g4 R4 (((g1.trans g2).trans g3).trans g4 |>.relS S)⟩
end
end Pd
end
section
/-! PdBi: dict displays, built-in functions, methods. -/
namespace Pd
open PySem PySem.Spec PyProof.Rows L2
section
variable {X : Cx} {n : Nm} {G : Nat → D} {F : FT} {W : WX} {a b d e : Expr} {a' b' d' e' : E} {es : List Expr} {irs : List E} {pos p2 : Pos}
/-! ### {k: v, ..} -/
inductive Prs (X : Cx) (n : Nm) (G : Nat → D) (F : FT) (W : WX) : List (Option Expr) → List Expr → List E → Prop
  | nil : Prs X n G F W [] [] []
  | cons {k v : Expr} {k' v' : E} {ks : List (Option Expr)} {vs : List Expr} {es : List E} : PE X k (tE (cx X n) G F W k') → PE X v (tE (cx X n) G F W v') → Prs X n G F W ks vs es → Prs X n G F W (some k :: ks) (v :: vs) (k' :: v' :: es)
def flat2 : List (V × V) → List V
  | [] => []
  | p :: r => p.1 :: p.2 :: flat2 r
theorem Prs.pps {ks : List (Option Expr)} {vs : List Expr} {irs : List E} (h : Prs X n G F W ks vs irs) : ∃ trs, PPs X pos ks vs trs ∧ ks.all (·.isSome) = true ∧ ks.length = vs.length ∧ irs.length = 2 * ks.length ∧
    ∀ σ H Q, tEs (cx X n) G F W irs σ H (fun us H' => ∃ ps, us = flat2 ps ∧ Q ps H') → tPairs trs σ H Q := by
  induction h with
  | nil => exact ⟨[], pps_nil, rfl, rfl, rfl, fun σ H Q ⟨ρ, h, σD, R, S, w⟩ => by
      simp only [evs] at w
      obtain ⟨ps, e, q⟩ := Wn.ok R w RDs.nil
      cases ps with
      | nil => exact q
      | cons _ _ => cases e⟩
  | cons hk hv _ ih =>
    obtain ⟨trs, h1, h2, h3, h4, h5⟩ := ih
    refine ⟨_, pps_cons hk hv h1, by simp [h2], by simp [h3], by simp only [List.length_cons, h4]; omega, fun σ H Q ⟨ρ, h, σD, R, S, w⟩ => ?_⟩
    simp only [evs] at w
    refine ⟨ρ, h, σD, R, S, w.bind fun dk h1 x H1 ρ1 g1 R1 r1 w1 => ⟨ρ1, h1, σD, R1, g1.relS S, ?_⟩⟩
    rw [bindAssoc] at w1
    refine w1.bind fun dv h2 y H2 ρ2 g2 R2 r2 w2 => h5 _ _ _ ⟨ρ2, h2, σD, R2, (g1.trans g2).relS S, ?_⟩
    rw [bindAssoc] at w2
    refine w2.bind fun ds h3 us H3 ρ3 g3 R3 r3 w3 => ?_
    obtain ⟨ps, e, q⟩ := Wn.ok R3 w3 (RDs.cons (g3.rd (g2.rd r1)) (RDs.cons (g3.rd r2) r3))
    cases ps with
    | nil => cases e
    | cons p ps =>
      simp only [flat2, List.cons.injEq] at e
      obtain ⟨e1, e2, e3⟩ := e
      refine ⟨ps, e3, ?_⟩
      rw [e1, e2]
      exact q
/-- the pairs of a display -/
theorem pairs_rel {c : Ct} {ρ : List Addr} {L : Addr → Prop} {H : Hp} : ∀ {ds : List D} {kvs : List (P × P)} {us : List V}, pairUp false ds = some kvs → RDs c ρ L H ds us → ∃ qs : List (Key × V), us = flat2 (qs.map fun kv => (kV kv.1, kv.2)) ∧ RKs c L H kvs qs
  | [], kvs, us, e, r => by
    simp only [pairUp, Option.some.injEq] at e; subst e
    simp only [RDs] at r; subst r
    exact ⟨[], rfl, rfl⟩
  | [x], kvs, us, e, r => by cases x <;> simp [pairUp] at e
  | x :: y :: ds, kvs, us, e, r => by
    obtain ⟨u, t, rfl, r1, r2⟩ := r.cons_inv
    obtain ⟨v, t, rfl, r3, r4⟩ := r2.cons_inv
    cases x with
    | p k =>
      cases y with
      | p z =>
        simp only [pairUp] at e
        split at e
        · rename_i hk
          obtain ⟨m, e1, rfl⟩ := Option.map_eq_some_iff.mp e
          obtain ⟨qs, e2, r5⟩ := pairs_rel e1 r4
          obtain ⟨k', rfl⟩ := keyOk_flat hk
          simp only [RD] at r1 r3
          exact ⟨(k', v) :: qs, by simp only [List.map_cons, flat2, ← e2, rp_key r1], k', v, qs, rfl, rfl, r3, r5⟩
        · cases e
      | _ => simp [pairUp] at e
    | _ => simp [pairUp] at e
theorem RKs.merge {c : Ct} {L : Addr → Prop} {H : Hp} : ∀ {more : List (P × P)} {ms : List (Key × V)} {kvs : List (P × P)} {qs : List (Key × V)}, RKs c L H more ms → RKs c L H kvs qs → (qs.map (·.1)).Nodup → RKs c L H (dmerge kvs more) (mergeK qs ms) ∧ ((mergeK qs ms).map (·.1)).Nodup
  | [], ms, kvs, qs, r, q, nd => by have r' : ms = [] := r; subst r'; exact ⟨q, nd⟩
  | kv :: t, ms, kvs, qs, ⟨k, v, r, e, e1, h1, h2⟩, q, nd => by
    subst e
    obtain ⟨x, y⟩ := kv
    simp only at e1
    subst e1
    have := RKs.merge h2 (RKs.put k h1 q nd) (putK_keys nd).1
    exact this
theorem flat2_len : ∀ (ps : List (V × V)), (flat2 ps).length = 2 * ps.length
  | [] => rfl
  | p :: r => by simp only [flat2, List.length_cons, flat2_len r]; omega
theorem x_dd {ks : List (Option Expr)} {vs : List Expr} {irs : List E} {live : Bool} (h : Prs X n G F W ks vs irs) (h0 : ks ≠ []) (h15 : ks.length ≤ 15) : PE X (.Dict ks vs pos) (tE (cx X n) G F W (.dd live false irs)) := by
  obtain ⟨trs, hp, ha, hl, hle, hr⟩ := h.pps (pos := pos)
  exact peImp (pe_disp hp ha hl h0 h15) fun σ H Q ⟨ρ, h, σD, R, S, w⟩ => fun p hp => by
    simp only [ev] at w
    obtain ⟨R1, g1⟩ := R.alloc (o := .dK []) (m := .held) hp rfl fun L' H' _ e => ⟨_, e⟩
    refine hr _ _ _ ⟨ρ ++ [p], h ++ [.held], σD, R1, g1.relS S, ?_⟩
    have w1 : Wn (cx X n) W σ ρ h H (rD (cx X n)) ((evs G F irs σD (h ++ [.held])).bind fun ds h1 => (match pairUp false ds with | some kvs => ddEnd live false h.length (dmerge [] kvs) h1 | none => .no "dict")) Q := w
    cases e : evs G F irs σD (h ++ [.held]) with
    | no _ => rw [e] at w1; exact w1
    | ex m d h' => rw [e] at w1; exact fun H' ρ' v dd g => w1 H' ρ' v dd (g1.trans g)
    | ok ds h1 =>
      rw [e] at w1
      intro us H2 ρ2 g2 R2 r2
      have w2 : Wn (cx X n) W σ ρ h H (rD (cx X n)) (match pairUp false ds with | some kvs => ddEnd live false h.length (dmerge [] kvs) h1 | none => .no "dict") Q := w1
      cases e1 : pairUp false ds with
      | none => rw [e1] at w2; exact w2.elim
      | some kvs =>
        rw [e1] at w2
        obtain ⟨qs, e2, r3⟩ := pairs_rel e1 r2
        refine ⟨_, e2, ?_⟩
        have lρ : ρ.length = h.length := R.len
        obtain ⟨ek, eH⟩ := g2.held h.length p (by simp) (by rw [← lρ]; simp)
        have ea : ρ2[h.length]? = some p := pre_get g2.pre (by rw [← lρ]; simp)
        have eH' : H2 p = some (.dK []) := eH.trans upd_same
        have g3 := g1.trans g2
        have hsz : us.length = irs.length := by
          have r2' : RDs (cx X n) ρ2 (Live ρ2 h1) H2 ds us := r2
          rw [r2'.length, evs_length e]
        refine ⟨eH', qs, rfl, ?_, ?_⟩
        · rw [e2, flat2_len, List.length_map, hle] at hsz
          omega
        · obtain ⟨r4, nd⟩ := RKs.merge (kvs := []) (qs := []) r3 (show RKs (cx X n) (Live ρ2 h1) H2 [] [] from rfl) List.nodup_nil
          cases live with
          | true =>
            obtain ⟨R4, st⟩ := R2.set (m' := .dct false (dmerge [] kvs)) (o := .dK (mergeK [] qs)) ek ea rfl fun L' H' st eo => ⟨_, eo, RKs.stay st _ _ r4, nd⟩
            have g4 := Go.cells (m' := .dct false (dmerge [] kvs)) (H2 := upd H2 p (.dK (mergeK [] qs))) R g3 (Nat.le_refl _) hp (fun b nb => upd_ne nb) ek rfl
            exact w2 _ _ ρ2 g4 R4 (by simp only [rD, RD]; exact ⟨p, rfl, ea⟩)
          | false =>
            obtain ⟨R4, st⟩ := R2.set (m' := .held) (o := .dK (mergeK [] qs)) ek ea rfl fun L' H' st eo => ⟨_, eo⟩
            rw [set_same ek] at R4 st
            obtain ⟨R5, nl, st2⟩ := R4.drop ek ea rfl
            have g4 := Go.cells (m' := .dead) (H2 := upd H2 p (.dK (mergeK [] qs))) R g3 (Nat.le_refl _) hp (fun b nb => upd_ne nb) ek rfl
            have r5 : RD (cx X n) ρ2 (Live ρ2 (h1.set h.length .dead)) (upd H2 p (.dK (mergeK [] qs))) (.dct false (dmerge [] kvs)) (.ref p) := by
              simp only [RD]
              exact ⟨p, rfl, nl, _, .inl upd_same, RKs.stay st2 _ _ (RKs.stay st _ _ r4), nd⟩
            obtain ⟨ρ6, R6, g6, r6⟩ := R.trim g4 R5 r5
            exact w2 _ _ ρ6 g6 R6 r6
/-! ### built-in functions -/
theorem callCases {f : Value} {r : List V → Hp → VK → Prop} (h : ∀ xs H Q, r xs H Q → ∃ r', CallR X f r' ∧ r' xs H Q) : CallR X f r := fun pins s σ H xs us Q I rx q => by
  obtain ⟨r', ho, q'⟩ := h xs H Q q
  exact ho pins s σ H xs us Q I rx q'
/-- a built-in's reading -/
def rBi (c : Ct) (b : BI) (live nk : Bool) : List V → Hp → VK → Prop := fun vs H Q => ∃ ρ h ds d h', Rel c ρ h H ∧ RDs c ρ (Live ρ h) H ds vs ∧ builtin b live nk ds h = some (d, h') ∧
  ∀ (v : V) (H' : Hp) (ρ' : List Addr), Go ρ h H ρ' h' H' → Rel c ρ' h' H' → RD c ρ' (Live ρ' h') H' d v → Q v H'
theorem bi_read {c : Ct} {b : BI} {live nk : Bool} {σ : L2.St} {H : Hp} {Q : VK} (w : tE c G F W (.bi b live nk irs) σ H Q) : tCB (rBi c b live nk) (tEs c G F W irs) σ H Q := by
  obtain ⟨ρ, h, σD, R, S, w⟩ := w
  simp only [ev] at w
  refine ⟨ρ, h, σD, R, S, w.bind fun ds h1 vs H1 ρ1 g1 R1 r1 w1 => ?_⟩
  cases e : builtin b live nk ds h1 with
  | none => rw [e] at w1; exact w1.elim
  | some q =>
    obtain ⟨d, h'⟩ := q
    rw [e] at w1
    exact ⟨ρ1, h1, ds, d, h', R1, r1, e, w1⟩
theorem sumI_rel {c : Ct} {ρ : List Addr} {L : Addr → Prop} {H : Hp} : ∀ {xs : List D} {vs : List V} {a t : Int}, sumI xs a = some t → RDs c ρ L H xs vs → ∃ ns : List Int, vs = ns.map V.int ∧ t = a + ns.sum
  | [], vs, a, t, e, r => by
    simp only [sumI, Option.some.injEq] at e; subst e
    simp only [RDs] at r; subst r
    exact ⟨[], rfl, by simp⟩
  | x :: xs, vs, a, t, e, r => by
    obtain ⟨u, us, rfl, r1, r2⟩ := r.cons_inv
    cases x with
    | p y =>
      cases y with
      | int i =>
        simp only [sumI] at e
        obtain ⟨ns, rfl, e2⟩ := sumI_rel e r2
        exact ⟨i :: ns, by rw [rd_int r1]; rfl, by rw [e2, List.sum_cons]; omega⟩
      | _ => simp [sumI] at e
    | _ => simp [sumI] at e
theorem b_sum (hc : X.calm = true) : CallR X (.builtin "sum") (rBi (cx X n) .sum false false) := callCases fun xs H Q ⟨ρ, h, ds, d, h', R, r, e, w⟩ => by
  have e' : bSum ds h = some (d, h') := e
  unfold bSum at e'
  match ds, e', r with
  | [x], e', r =>
    obtain ⟨v, rfl, r1⟩ := rds_one r
    have e1 : (match lstOf x h with | some xs => (match sumI xs 0 with | some i => some (D.p (.int i), h) | none => none) | none => none) = some (d, h') := e'
    cases el : lstOf x h with
    | none => rw [el] at e1; cases e1
    | some ys =>
      rw [el] at e1
      have e2 : (match sumI ys 0 with | some i => some (D.p (.int i), h) | none => none) = some (d, h') := e1
      cases es : sumI ys 0 with
      | none => rw [es] at e2; cases e2
      | some t =>
        rw [es] at e2
        cases e2
        obtain ⟨a, vs, rfl, q, r2, _⟩ := lstOf_rel R r1 el
        obtain ⟨ns, rfl, e3⟩ := sumI_rel es r2
        refine ⟨_, cr_sum hc, a, ns, rfl, q, w _ H ρ Go.refl R ?_⟩
        simp only [RD, RP, e3, Int.zero_add]
theorem op_len (hc : X.calm = true) : CallR X (.builtin "len") (rBi (cx X n) .len false false) := callCases fun xs H Q ⟨ρ, h, ds, d, h', R, r, e, w⟩ => by
  have e' : bLen ds h = some (d, h') := e
  unfold bLen at e'
  match ds, e', r with
  | [x], e', r =>
    obtain ⟨v, rfl, r1⟩ := rds_one r
    have e1 : (match lenD x h with | some n => some (D.p (.int n), h) | none => none) = some (d, h') := e'
    cases el : lenD x h with
    | none => rw [el] at e1; cases e1
    | some m =>
      rw [el] at e1
      cases e1
      have fin : ∀ (v : V), Q (.int m) H := fun v => w _ H ρ Go.refl R (by simp only [RD, RP])
      unfold lenD at el
      cases e2 : lstOf x h with
      | some ys =>
        rw [e2] at el
        cases el
        obtain ⟨a, vs, rfl, q, r2, _⟩ := lstOf_rel R r1 e2
        exact ⟨_, call_len, .ref a, ys.length, rfl, .inl ⟨vs, q, r2.length.symm⟩, fin .non⟩
      | none =>
        rw [e2] at el
        cases e3 : tupOf x with
        | some ys =>
          rw [e3] at el
          cases el
          obtain ⟨a, vs, rfl, q, r2⟩ := tupOf_rel r1 e3
          exact ⟨_, call_len, .ref a, ys.length, rfl, .inr ⟨vs, q.sq, r2.length.symm⟩, fin .non⟩
        | none =>
          rw [e3] at el
          cases e4 : dictOf x h with
          | some q =>
            obtain ⟨nk, kvs⟩ := q
            rw [e4] at el
            obtain ⟨a, rfl, q⟩ := dictOf_rel R r1 e4
            cases nk with
            | true => cases el
            | false =>
              cases el
              obtain ⟨qs, e5, r5, _⟩ := q
              refine ⟨fun xs H Q => ∃ a kvs, xs = [V.ref a] ∧ Rd H a (.dK kvs) ∧ Q (.int (kvs.length : Nat)) H, fun pins s σ H xs us Q I rx ⟨a, kvs, e1, e2, q⟩ => ?_, a, qs, rfl, e5, by rw [r5.length]; exact fin .non⟩
              subst e1
              obtain rfl := Vals.ref1 rx
              exact d_len I e2 fun t s' I' => ⟨.int kvs.length, H, I', ⟨t, rfl⟩, q⟩
          | none =>
            rw [e4] at el
            cases x with
            | p y =>
              cases y with
              | str z =>
                have e5 : (if sizeOk z.length = true then some z.length else none) = some m := el
                split at e5
                · rename_i hz
                  cases e5
                  exact ⟨_, call_len, v, z.length, rfl, by rw [rd_str r1]; exact ⟨size_le hz, rfl⟩, fin .non⟩
                · cases e5
              | _ => cases el
            | _ => cases el
/-- l.append(x) -/
theorem x_append {o : Expr} {o' : E} {apos cpos : Pos} (ho : PE X o (tE (cx X n) G F W o')) (ha : PE X a (tE (cx X n) G F W a')) (hbase : attributeBase o "append" X.env (eval o X.env) = eval o X.env)
    (hfew : ((backTo cpos (starEach [a] X.env)).all (fun x => !x.1) && (backToKw cpos (keywordEach [] X.env)).all (fun x => x.1.isSome)
      && decide (([a] : List Expr).length + ([] : List Keyword).length + (if ([] : List Keyword).isEmpty then 0 else 1) < 30)) = true)
    (hline : (apos.endLine == cpos.line) = true) (hs : starEach [a] X.env = (false, eval a X.env) :: starEach [] X.env) : PE X (.Call (.Attribute o "append" apos) [a] [] cpos) (tE (cx X n) G F W (.mm .append o' [a'])) :=
  peImp (pe_bm PySem.F.plainAttrs_list PySem.F.slot_list_append PySem.F.type_list_append mt_append ho (xs_cons ha xs_nil hs) hbase hfew hline hs rfl) fun σ H Q ⟨ρ, h, σD, R, S, w⟩ => by
    simp only [ev] at w
    refine ⟨ρ, h, σD, R, S, w.bind fun d h1 x H1 ρ1 g1 R1 r1 w1 => ?_⟩
    cases em : mmOk .append d h1 with
    | false => rw [em] at w1; exact w1.elim
    | true =>
      rw [em] at w1
      obtain ⟨xs0, el⟩ := Option.isSome_iff_exists.mp (show (lstOf d h1).isSome = true from em)
      obtain ⟨a0, vs0, rfl, q0, _, _⟩ := lstOf_rel R1 r1 el
      refine ⟨.inl ⟨rfl, vs0, q0⟩, ρ1, h1, σD, R1, g1.relS S, w1.bindE fun ds h2 us H2 ρ2 ee g2 R2 r2 w2 => ?_⟩
      obtain ⟨y, rfl⟩ := List.length_eq_one_iff.mp (evs_length ee)
      obtain ⟨v, rfl, r3⟩ := rds_one r2
      cases e : mutate .append d [y] h2 with
      | none => rw [e] at w2; exact w2.elim
      | some q =>
        obtain ⟨z, h3⟩ := q
        rw [e] at w2
        have r4 := g2.rd r1
        cases d with
        | ref k =>
          simp only [RD] at r4
          obtain ⟨a, eq, ea⟩ := r4
          cases eq
          simp only [mutate] at e
          cases ek : h2[k]? with
          | none => rw [ek] at e; cases e
          | some m =>
            have qm := R2.ob k m a0 ek ea
            rw [ek] at e
            cases m with
            | lst xs =>
              obtain ⟨vs, e1, r5⟩ := qm
              cases y with
              | p t =>
                have e2 : (if sizeOk xs.length = true then some (D.p .none, setC h2 k (.lst (xs ++ [t]))) else none) = some (z, h3) := e
                split at e2
                · rename_i hz
                  cases e2
                  simp only [RD] at r3
                  obtain ⟨R3, g3⟩ := R2.put (m' := .lst (xs ++ [t])) (o := .lst (vs ++ [v])) ek ea rfl (fun z => nomatch z) fun L' H' st eo => ⟨_, eo, rps_snoc (RPs.stay st _ _ r5) (RP.stay st _ _ r3)⟩
                  refine ⟨a0, vs, v, rfl, rfl, e1, ?_, w2 .non _ ρ2 g3 R3 (by simp only [rD, RD, RP])⟩
                  rw [rps_len r5, sizeLine_eq]
                  have := of_decide_eq_true hz
                  omega
                · cases e2
              | _ => cases e
            | lsr xs =>
              obtain ⟨vs, e1, r5⟩ := qm
              have e2 : (if sizeOk xs.length = true then some (D.p .none, setC h2 k (.lsr (xs ++ [y]))) else none) = some (z, h3) := e
              split at e2
              · rename_i hz
                cases e2
                obtain ⟨R3, g3⟩ := R2.put (m' := .lsr (xs ++ [y])) (o := .lst (vs ++ [v])) ek ea rfl (fun z => nomatch z) fun L' H' st eo => ⟨_, eo, (RDs.stay (List.prefix_refl _) st _ _ r5).append (RDs.cons (RD.stay (List.prefix_refl _) st _ _ r3) RDs.nil)⟩
                refine ⟨a0, vs, v, rfl, rfl, e1, ?_, w2 .non _ ρ2 g3 R3 (by simp only [rD, RD, RP])⟩
                rw [r5.length, sizeLine_eq]
                have := of_decide_eq_true hz
                omega
              · cases e2
            | _ => cases e
        | _ => cases e
where
  rps_snoc {K : PySem.W.Frag} {L : Addr → Prop} {H : Hp} {p : P} {v : V} : ∀ {xs : List P} {vs : List V}, RPs K L H xs vs → RP K L H p v → RPs K L H (xs ++ [p]) (vs ++ [v])
    | [], vs, r, q => by simp only [RPs] at r; subst r; simp only [List.nil_append, RPs]; exact ⟨v, [], rfl, q, rfl⟩
    | x :: xs, vs, r, q => by
      simp only [RPs] at r
      obtain ⟨u, t, rfl, r1, r2⟩ := r
      simp only [List.cons_append, RPs]
      exact ⟨u, _, rfl, r1, rps_snoc r2 q⟩
end
end Pd
end
section
/-! PdEx0: own exception classes over a built-in one, at the library's level: their objects made, their args, fields, texts told. -/
namespace Pd
open PySem PySem.Spec PyProof.Rows L2
open PySem.W PySem.Calls PySem.HandSPX
/-- a built-in exception's own mro -/
structure TailX (tail : List Value) : Prop where
  pass : ∀ self, refuseLoop self "__setattr__" tail = pure ()
  obj : tail.contains (.type "object") = true
  top : ∃ n r, tail = .type n :: r
theorem tail_VE : TailX [.type "ValueError", .type "Exception", .type "BaseException", .type "object"] := ⟨fun _ => by kernel_rfl, by decide +kernel, _, _, rfl⟩
theorem tail_LE : TailX [.type "LookupError", .type "Exception", .type "BaseException", .type "object"] := ⟨fun _ => by kernel_rfl, by decide +kernel, _, _, rfl⟩
theorem tail_OE : TailX [.type "OverflowError", .type "ArithmeticError", .type "Exception", .type "BaseException", .type "object"] := ⟨fun _ => by kernel_rfl, by decide +kernel, _, _, rfl⟩
/-- own classes, then the tail -/
def refsT (tail : List Value) : List Value → Bool
  | .ref _ :: r => refsT tail r
  | l => l == tail
theorem refsT_cases {tail : List Value} : ∀ l : List Value, refsT tail l = true → (∃ c r, l = .ref c :: r ∧ refsT tail r = true) ∨ l = tail
  | [], e => .inr (beq_iff_eq.mp e)
  | .ref c :: r, e => .inl ⟨c, r, rfl, e⟩
  | .none :: _, e => .inr (beq_iff_eq.mp e)
  | .ellipsis :: _, e => .inr (beq_iff_eq.mp e)
  | .notImplemented :: _, e => .inr (beq_iff_eq.mp e)
  | .bool _ :: _, e => .inr (beq_iff_eq.mp e)
  | .int _ _ :: _, e => .inr (beq_iff_eq.mp e)
  | .float _ _ :: _, e => .inr (beq_iff_eq.mp e)
  | .str _ _ :: _, e => .inr (beq_iff_eq.mp e)
  | .bytes _ _ :: _, e => .inr (beq_iff_eq.mp e)
  | .type _ :: _, e => .inr (beq_iff_eq.mp e)
  | .builtin _ :: _, e => .inr (beq_iff_eq.mp e)
section
variable {tail : List Value}
theorem refsT_pass (T : TailX tail) (self : Value) : ∀ l : List Value, refsT tail l = true → refuseLoop self "__setattr__" l = pure () := by
  intro l
  induction l with
  | nil =>
    intro e
    obtain ⟨n, r, rfl⟩ := T.top
    rcases refsT_cases [] e with ⟨_, _, q, _⟩ | q <;> cases q
  | cons a r ih =>
    intro e
    rcases refsT_cases (a :: r) e with ⟨c, r', q, h⟩ | q
    · obtain ⟨rfl, rfl⟩ := List.cons.inj q
      rw [refuseLoop_ref]; exact ih h
    · rw [q]; exact T.pass self
theorem refsT_contains (T : TailX tail) (X : String) : ∀ l : List Value, refsT tail l = true → l.contains (.type X) = tail.contains (.type X) := by
  intro l
  induction l with
  | nil =>
    intro e
    obtain ⟨n, r, rfl⟩ := T.top
    rcases refsT_cases [] e with ⟨_, _, q, _⟩ | q <;> cases q
  | cons a r ih =>
    intro e
    rcases refsT_cases (a :: r) e with ⟨c, r', q, h⟩ | q
    · obtain ⟨rfl, rfl⟩ := List.cons.inj q
      rw [List.contains_cons, ih h]; rfl
    · rw [q]
theorem refsT_ne (T : TailX tail) {l : List Value} (e : refsT tail l = true) : l.isEmpty = false := by
  obtain ⟨n, r, hr⟩ := T.top
  cases l with
  | nil =>
    rcases refsT_cases [] e with ⟨_, _, q, _⟩ | q
    · cases q
    · rw [hr] at q; cases q
  | cons _ _ => rfl
end
open Builtin Builtin.ObjectAttr in
/-- self.name = v on an exception that has no dict yet -/
theorem exc_osaT {prog : Program} {w : World} {A : Around} {R : Result → Shared → Prop} {hp : Heap} {g : Array GenState} {d : Drawn} {t : Nat} {os : OsState} {tail : List Value} (T : TailX tail)
    {K : W.Frag} {name : Str} {tk : Tok} {v : Value} {x C : Addr} {fv : Array Value} {cd : ClassData}
    (X : K.In hp) (hx : hp.get? x = some { cls := .ref C, data := .fields fv }) (hcd : W.clsIn K C = some cd) (hm : refsT tail cd.mro = true) (hh : cd.hasDict = true) (ha : W.findIn K (.ref C) name = some none)
    (hq : ∀ h' tk' dx, (∀ b o, b ≠ x → hp.get? b = some o → h'.get? b = some o) → hp.objs.size ≤ dx → dx ≠ x → h'.get? x = some { cls := .ref C, dict := some dx, data := .fields fv } →
      h'.Ns1 dx (fun y => if y = name then some v else none) → R (.ok (.ret .none)) ⟨h', g, d, tk', os⟩) :
    codeAny (model prog w) A (.call (.builtin "object.__setattr__") ⟨[.ref x, .str name tk, v], []⟩) R ⟨hp, g, d, t, os⟩ := by
  have I : W.InstAt hp x { cls := .ref C, data := .fields fv } C none := ⟨hx, rfl, rfl, trivial⟩
  have SF := F.store_object
  have ne := refsT_ne T hm
  have hob : cd.mro.contains (.type "object") = true := (refsT_contains T "object" _ hm).trans T.obj
  have hxs : x ≠ hp.objs.size := Nat.ne_of_lt (Heap.lt_size hx)
  have sub : W.Looks (model prog w) hp (isInstance (.ref x) (.type "object")) true := I.type.andThen (W.looks_mroIn X (by unfold W.mroIn; rw [hcd, Option.bind_some, if_neg (by rw [ne]; decide), hob]))
  refine codeAny_call_builtin SF.slot.plain SF.entry (@W.check_slot (model prog w) _ _ ⟨hp, g, d, t, os⟩ "object.__setattr__" "object" "__setattr__" (.ref x) [.str name tk, v] [] _ SF.kind SF.split sub (SF.args (.ref x) (.str name tk) v) ?_)
  have hmr : W.Looks (model prog w) hp (mroOf (.ref C)) cd.mro := (W.looks_clsIn X hcd).andThen .now
  have L3 : W.Looks (model prog w) hp (storeTaker? none) none := .now
  have hcls : W.Looks (model prog w) hp (classData C) cd := W.looks_clsIn X hcd
  rw [W.osa_eq, refuse_eq]
  refine wpAny_bind (wpAny_bind (I.type.at (wpAny_bind (hmr.at ?_))))
  rw [refsT_pass T _ _ hm]
  refine wpAny_pure (wpAny_bind (I.type.at (wpAny_bind ((W.looks_findIn X ha).at (wpAny_bind (L3.at ?_))))))
  show wpAny _ _ (storeInOwnDict (.ref x) (.ref C) (.str name tk) name v false) _ _ _
  obtain ⟨nm, bs, mro, ns, qn, hd, sn, sb, ab, col, del⟩ := cd
  dsimp only at hh
  subst hh
  unfold storeInOwnDict ownDictForStores
  repeat (first | with_reducible refine store_in_new ?_ ?_ | with_reducible refine wpAny_loadPart_at hx ?_ | with_reducible refine hcls.at ?_ | wp_step)
  · exact ⟨_, #[], _, (Heap.get?_update_ne _ _ _ _ hxs.symm).trans (Heap.get?_push_at rfl rfl), rfl, fun e he => absurd he (by simp), fun _ => rfl⟩
  · intro h' tk' hn' hs
    have hx₁ : (hp.push { cls := .type "dict", data := .dict #[] }).get? x = some { cls := .ref C, data := .fields fv } := Heap.get?_push_of_some _ hx
    refine hq h' tk' hp.objs.size (fun b o hb ho => ?_) (Nat.le_refl _) hxs.symm ?_ hn'
    · exact (hs.2 b (Nat.ne_of_lt (Heap.lt_size ho))).trans ((Heap.get?_update_ne _ _ _ _ hb).trans (Heap.get?_push_of_some _ ho))
    · exact (hs.2 x hxs).trans (Heap.get?_update_self _ hx₁ rfl)
/-- Base.__init__(e, ..): the args are laid anew, and they are the rest -/
theorem init_baseT {prog : Program} {w : World} {A : Around} {R : Result → Shared → Prop} {h : Heap} {g : Array GenState} {d : Drawn} {t : Nat} {os : OsState}
    {nm q : Str} {C N : Addr} {bs bm bmB : List Value} {hdct : Bool} {sn : List Str} {sub : List Value} {ab : Bool} {col : Option Bool} {dd : Option Addr} {k0 k1 k2 k3 k5 : Option Value} {B newId initId : String}
    (F : ExcBaseFacts B newId initId bmB) (hT : ∀ X : String, bm.contains (.type X) = bmB.contains (.type X)) {e t0 : Addr} {rest : List Value}
    (hC : h.get? C = some (excClassObj nm q C N bs bm hdct sn sub ab col dd k0 k1 k2 k3 k5 newId)) (he : h.get? e = some (excO C t0)) (hrest : rest.length ≤ sizeLine)
    (hq : ∀ h', (∀ b o, b ≠ e → h.get? b = some o → h'.get? b = some o) → h'.get? e = some (excO C h.objs.size) → h'.get? h.objs.size = some (kdv_tup rest) → R (.ok (.ret .none)) ⟨h', g, d, t, os⟩) :
    codeAny (model prog w) A (.call (.builtin initId) ⟨.ref e :: rest, []⟩) R ⟨h, g, d, t, os⟩ := by
  refine codeAny_call_builtin F.init.plain F.initEntry (check_init_own F hT hC he rfl ?_)
  wp_walk
  have hne : e ≠ h.objs.size := Nat.ne_of_lt (Heap.lt_size he)
  refine hq _ (fun b o hb ho => ?_) ?_ ?_
  · rw [Heap.get?_update_other _ _ (Ne.symm hb)]
    exact Heap.get?_push_of_some _ ho
  · rw [Heap.get?_update_self _ (Heap.get?_push_of_some _ he) rfl]
    rfl
  · rw [Heap.get?_update_other _ _ hne]
    exact Heap.get?_push_size _ rfl
/-! ### what isinstance asks of such an object -/
section
variable {prog : Program} {w : World} {A : Around} {E : Value → Shared → Prop} {s : Shared} {K : Frag} {x D : Addr} {ox : Obj}
theorem findObj_dataD {C : Addr} {od : Option Obj} {name : Str} {a g : Value} (hc : (clsIn K C).isSome = true) (ha : findIn K (.ref C) name = some (some a)) (hg : specialIn K a "__get__" = some (some g)) (ht : takesIn K a = some true) : findObj K C od name = some (.bind g a) := by
  obtain ⟨cd, hc⟩ := Option.isSome_iff_exists.mp hc
  unfold findObj
  rw [hc, Option.bind_some, ha, Option.bind_some]
  simp [hg, ht]
theorem kin_classD {od : Option Obj} {Q : Option Value → Shared → Prop} (hga : findIn K (.ref D) "__getattribute__" = some (some (.builtin "BaseException.__getattribute__"))) (hgt : findIn K (.ref D) "__getattr__" = some none) (hsub : subIn K (.ref D) (.type "BaseException") = some true)
    (hdct : hasDictIn K D = true) (ha : findIn K (.ref D) "__class__" = some (some (.builtin "object.__class__")))
    (hn : specialIn K (.builtin "object.__class__") "__get__" = some (some (.builtin "getset_descriptor.__get__"))) (htk : takesIn K (.builtin "object.__class__") = some true) (hm : mroIn K D (.type "object") = some true)
    (X : K.In s.heap) (I : InstAt s.heap x ox D od) (h : Q (some (.ref D)) { s with toks := s.toks + 1 }) : wpAny (model prog w) A (getAttr? (.ref x) "__class__") Q E s := by
  have hf : findObj K D od "__class__" = some (.bind (.builtin "getset_descriptor.__get__") (.builtin "object.__class__")) := findObj_dataD (by obtain ⟨cd, hc, _⟩ := any_some hdct; rw [hc]; rfl) ha hn htk
  obtain ⟨hp, g, d, t, os⟩ := s
  have L0 := I.type (M := model prog w)
  have L1 := looks_findIn (M := model prog w) X hga
  have L2 := looks_findIn (M := model prog w) X hgt
  have L3 := looks_find (M := model prog w) X I hf
  have sub : Looks (model prog w) hp (isInstance (.ref x) (.type "BaseException")) true := L0.andThen (looks_subIn X hsub)
  have hx0 : (false && onTheHeap (Value.builtin "BaseException.__getattribute__")) = false := rfl
  have hx2 : (Value.builtin "BaseException.__getattribute__" == Value.builtin "object.__getattribute__") = false := by decide +kernel
  have hx1 : (onTheHeap (Value.ref D) && Value.builtin "BaseException.__getattribute__" == Value.builtin "object.__getattribute__") = false := by rw [hx2]; rfl
  unfold getAttr? getAttrBy? getAttrBy
  refine wpAny_bind (wpAny_mkText (wpAny_bind (wpAny_attempt (wpAny_holding (wpAny_bind (L0.at (wpAny_bind (L1.at ?_))))))))
  show wpAny _ _ (if (onTheHeap (Value.ref D) && Value.builtin "BaseException.__getattribute__" == Value.builtin "object.__getattribute__") = true then _ else _) _ _ _
  rw [hx1, if_neg Bool.false_ne_true]
  unfold getAttrByItsOwn hookBefore
  refine wpAny_bind ?_
  rw [if_pos (show onTheHeap (Value.ref D) = true from rfl)]
  refine L2.at ?_
  refine wpAny_bind (wpAny_attempt (wpAny_holding ?_))
  unfold callGetattribute
  rw [hx0, if_neg Bool.false_ne_true]
  unfold boundAndCalled
  rw [PySem.F.excAttr_ValueError.ga.bind (.ref x)]
  refine wpAny_bind (wpAny_pure ?_)
  show wpAny _ _ (call (.builtin "BaseException.__getattribute__") [.ref x, .str "__class__" t]) _ _ _
  refine wpAny_call (codeAny_call_builtin PySem.F.excAttr_ValueError.ga.plain PySem.F.entry_bexc_ga ?_)
  refine @check_slot (model prog w) _ _ ⟨hp, g, d, t + 1, os⟩ "BaseException.__getattribute__" "BaseException" "__getattribute__" (.ref x) [.str "__class__" t] [] _ (by decide +kernel) (by decide +kernel) sub (PySem.F.args_bexc_ga (.ref x) (.str "__class__" t)) ?_
  unfold Builtin.«object.__getattribute__»
  refine wpAny_bind (wpAny_of_eq (a := ((Value.ref x : Value), [Value.str "__class__" t])) (by first | rfl | (simp only [slotArgs]; rfl)) ?_)
  refine wpAny_bind (wpAny_pure (wpAny_bind (L0.at (wpAny_bind (L3.at ?_)))))
  show wpAny _ _ (holding [Value.builtin "object.__class__"] (call (.builtin "getset_descriptor.__get__") [.builtin "object.__class__", .ref x, .ref D]) >>= ret) _ _ _
  refine wpAny_bind (wpAny_holding (wpAny_call (class_get (s := ⟨hp, g, d, t + 1, os⟩) (ox := ox) (od := od) X I hm ?_)))
  refine wpAny_pure ?_
  show wpAny _ _ (handedOut (.ref D)) _ _ _
  rw [handedOut_of (v := .ref D) rfl]
  first
    | exact wpAny_pure (wpAny_pure h)
    | exact wpAny_pure h
    | exact wpAny_pure (wpAny_bind (wpAny_pure (wpAny_pure h)))
theorem kitx_excD {od : Option Obj} (c : L2.ExcC K D) : KitX K (.ref x) (.ref D) (fun h => InstAt h x ox D od) where
  ty := fun _ _ _ I => I.type
  it := fun _ _ X _ => by
    obtain ⟨cdD, hcD, _⟩ := any_some c.hd
    unfold clsIn at hcD
    split at hcD
    · rename_i c' d' cd' sl' ho
      intro A' Q' E' s' k q
      unfold isType loadHead
      exact wpAny_bind (wpAny_loadPart (k _ _ (X _ _ ho)) (wpAny_pure q))
    · cases hcD
  ne := fun h tp dd its n sl X htp => by
    obtain ⟨cdD, hcD, _⟩ := any_some c.hd
    refine Bool.eq_false_iff.mpr fun q => ?_
    have e : D = tp := Value.ref.inj (beq_iff_eq.mp q)
    subst e
    unfold clsIn at hcD
    split at hcD
    · rename_i c' d' cd' sl' ho
      have z := (X _ _ ho).symm.trans htp
      cases z
    · cases hcD
  ca := fun X I k => kin_classD c.hg c.hk c.hs c.hd c.ha c.hn c.ht c.hm X I k
end
end Pd
end
section
namespace Pd
open PySem
open PySem.HandSPX
section
variable {M : Model} {A : Around} {E : Value → Shared → Prop} {h : Heap} {g : Array GenState} {d : Drawn} {t : Nat} {os : OsState}
variable {nm q : Str} {C N : Addr} {bs bm bmB : List Value} {hdct : Bool} {sn : List Str} {sub : List Value} {ab : Bool} {col : Option Bool} {dd : Option Addr} {k0 k1 k2 k3 k5 : Option Value} {B newId initId : String} {kw : List (Str × Value)}
theorem check_new_ownK (F : ExcBaseFacts B newId initId bmB) (hT : ∀ X : String, bm.contains (.type X) = bmB.contains (.type X)) {rest : List Value} {Q : Unit → Shared → Prop}
    (hC : h.get? C = some (excClassObj nm q C N bs bm hdct sn sub ab col dd k0 k1 k2 k3 k5 newId)) (hq : Q () ⟨h, g, d, t, os⟩) : wpAny M A (checkBuiltinCall newId ⟨.ref C :: rest, kw⟩) Q E ⟨h, g, d, t, os⟩ := by
  have hcont : (Value.ref C :: bm).contains (.type B) = true := by rw [List.contains_cons, hT, F.hasB, Bool.or_true]
  have hstar := F.noStar
  simp only [checkBuiltinCall, F.newKind, F.newSplit, F.newRow]
  repeat (first | refine wpAny_loadPart_at hC ?_ | (refine wpAny_isSubtype_exc hC ?_; rw [hcont]) | refine wpAny_staticBase_exc hC ?_ | refine wpAny_madeBy_exc hC ?_ | simp only [bne_self_eq_false, Bool.false_eq_true, if_false] | wp_step)
  exact hq
end
section
variable {prog : Program} {w : World} {A : Around} {E : Value → Shared → Prop} {R : Result → Shared → Prop} {h : Heap} {g : Array GenState} {d : Drawn} {t : Nat} {os : OsState}
variable {nm q : Str} {C N : Addr} {bs bm bmB : List Value} {hdct : Bool} {sn : List Str} {sub : List Value} {ab : Bool} {col : Option Bool} {dd : Option Addr} {k0 k1 k2 k3 k5 : Option Value} {B newId initId : String} {kw : List (Str × Value)}
theorem new_ownK (F : ExcBaseFacts B newId initId bmB) (hT : ∀ X : String, bm.contains (.type X) = bmB.contains (.type X)) {rest : List Value}
    (hC : h.get? C = some (excClassObj nm q C N bs bm hdct sn sub ab col dd k0 k1 k2 k3 k5 newId))
    (hq : R (.ok (.ret (.ref (h.objs.size + 1)))) ⟨(h.push { cls := .type "tuple", data := .seq rest.toArray }).push
      { cls := .ref C, data := .fields #[.ref h.objs.size, .none, .none, .none, .bool false, .none] }, g, d, t, os⟩) (hrest : rest.length ≤ sizeLine) :
    codeAny (model prog w) A (.builtin newId ⟨.ref C :: rest, kw⟩) R ⟨h, g, d, t, os⟩ := by
  have hends := F.ends
  have hcB : (Value.ref C :: bm).contains (.type B) = true := by rw [List.contains_cons, hT, F.hasB, Bool.or_true]
  have hcA : (Value.ref C :: bm).contains (.type "AttributeError") = false := by rw [List.contains_cons, hT, F.noAttr]; rfl
  have hcN : (Value.ref C :: bm).contains (.type "NameError") = false := by rw [List.contains_cons, hT, F.noName]; rfl
  refine codeAny_builtinAt F.entry ?_
  unfold Builtin.«BaseException.__new__»
  refine wpAt_bind ?_
  show wpAt _ _ _ (stack >>= _) _ _ _
  refine wpAt_bind (wpAt_stack fun p below => wpAt_of_wpAny ?_)
  wp_walk
  refine wpAt_of_wpAny ?_
  rw [F.owner]
  repeat (first | with_reducible refine wpAny_madeHere_exc F.canon hC ?_ | with_reducible refine wpAny_loadPart_at hC ?_ | (with_reducible refine wpAny_isSubtype_exc hC ?_; first | rw [hcB] | rw [hcA] | rw [hcN]) | wp_step)
  show R _ _
  rw [Heap.size_push]
  exact hq
theorem type_call_ownK (F : ExcBaseFacts B newId initId bmB) (hT : ∀ X : String, bm.contains (.type X) = bmB.contains (.type X)) {rest : List Value} {fI : Addr} {Q : Fin → Shared → Prop}
    (hC : h.get? C = some (excClassObj nm q C N bs bm hdct sn sub ab col dd k0 k1 k2 k3 k5 newId))
    (hi : W.Looks (model prog w) h (typeLookup (.ref C) "__init__") (some (.ref fI))) (hb : ∀ self, W.Looks (model prog w) h (bindSpecial (.ref fI) self) (.ref fI, [self])) (hrest : rest.length ≤ sizeLine)
    (hq : codeAny (model prog w) A (.call (.ref fI) ⟨.ref (h.objs.size + 1) :: rest, kw⟩)
      (fun r s' => match r with | .ok (.ret v) => v = .none ∧ Q (.done (.ret (.ref (h.objs.size + 1)))) s' | .ok _ => False | .error e => E e s')
      ⟨(h.push (W.kdv_tup rest)).push (excO C h.objs.size), g, d, t, os⟩) :
    wpAny (model prog w) A (Builtin.«type.__call__» ⟨.ref C :: rest, kw⟩) Q E ⟨h, g, d, t, os⟩ := by
  repeat (first | with_reducible refine wpAny_loadPart_at hC ?_ | with_reducible refine wpAny_madeBy_exc hC ?_ | wp_step)
  refine codeAny_call_builtin_code (Code.quiet_builtin _ F.quiet) (check_new_ownK F hT hC ?_)
  refine new_ownK F hT hC ?_ hrest
  show wpAny _ _ _ _ _ _
  have k : ∀ b o, h.get? b = some o → ((h.push (W.kdv_tup rest)).push (excO C h.objs.size)).get? b = some o := fun b o e => Heap.get?_push_of_some _ (Heap.get?_push_of_some _ e)
  have hC₁ := k _ _ hC
  have hget : ((h.push (W.kdv_tup rest)).push (excO C h.objs.size)).get? (h.objs.size + 1) = some (excO C h.objs.size) := by heap_get
  have hcC : (Value.ref C :: bm).contains (.ref C) = true := by simp
  have i1 := hi.keeps k
  have b1 := (hb (.ref (h.objs.size + 1))).keeps k
  unfold isInstance
  repeat (first | with_reducible refine wpAny_loadPart_at hget ?_ | (with_reducible refine wpAny_isSubtype_exc hC₁ ?_; rw [hcC]) | wp_step)
  show wpAny _ _ (typeLookup (.ref C) _) _ _ _
  refine i1.at ?_
  refine wpAny_holding (wpAny_bind (b1.at ?_))
  refine wpAny_bind (wpAny_call (codeAny_mono hq fun r s' z => ?_))
  rcases r with e | (v | _ | _ | _) <;> first | exact z | exact z.elim | skip
  obtain ⟨rfl, z⟩ := z
  first
    | exact wpAny_pure (wpAny_pure z)
    | (wp_walk; exact z)
theorem call_ownK (F : ExcBaseFacts B newId initId bmB) (hT : ∀ X : String, bm.contains (.type X) = bmB.contains (.type X)) {rest : List Value} {fI : Addr}
    (hC : h.get? C = some (excClassObj nm q C N bs bm hdct sn sub ab col dd k0 k1 k2 k3 k5 newId))
    (hi : W.Looks (model prog w) h (typeLookup (.ref C) "__init__") (some (.ref fI))) (hb : ∀ self, W.Looks (model prog w) h (bindSpecial (.ref fI) self) (.ref fI, [self])) (hrest : rest.length ≤ sizeLine)
    (hq : codeAny (model prog w) (A.under (.builtin "type.__call__" ⟨.ref C :: rest, kw⟩)) (.call (.ref fI) ⟨.ref (h.objs.size + 1) :: rest, kw⟩) (W.InitBack (h.objs.size + 1) R)
      ⟨(h.push (W.kdv_tup rest)).push (excO C h.objs.size), g, d, t, os⟩) :
    codeAny (model prog w) A (.call (.ref C) ⟨rest, kw⟩) R ⟨h, g, d, t, os⟩ := by
  have f1 := tc_lookup
  have f2 := tc_bind (.ref C)
  have hTy : (⟨h, g, d, t, os⟩ : Shared).TypeIs (.ref C) "type" := ⟨_, hC, rfl⟩
  refine codeAny_of_tree ?_
  show wpAny _ _ (callAny (.ref C) _) _ _ _
  repeat (any_goals (first | assumption | with_reducible refine wpAny_loadPart_at hC ?_ | wp_step))
  refine ⟨rfl, ?_⟩
  refine codeAny_call_builtin_at (Code.quiet_builtin _ (by decide +kernel)) entry_typeCall (wpAny_check_type_call_sub hC (type_call_ownK F hT hC hi hb hrest ?_))
  refine codeAny_mono hq fun r s' z => ?_
  rcases r with e | (v | _ | _ | _) <;> exact z
end
end Pd
end
section
/-! PdEx: own exceptions as values: __init__ walked, made, field read, isinstance, str. -/
namespace Pd
open PySem PySem.Spec PyProof.Rows L2
theorem exA_tup {a C t : Addr} {d : Option Addr} {xs : List V} : exA a C t d ≠ .tup xs := fun z => by
  have z' : HO.ext _ = HO.tup xs := z
  cases z'
theorem exA_frz {a C t : Addr} {d : Option Addr} {o : Obj} {u : HO} : exA a C t d ≠ .frz o u := fun z => by
  have z' : HO.ext _ = HO.frz o u := z
  cases z'
theorem exA_tbl {a C t : Addr} {d : Option Addr} {ps : Array Value} : exA a C t d ≠ .tbl ps := fun z => by
  have z' : HO.ext _ = HO.tbl ps := z
  cases z'
theorem exA_own {a C t x : Addr} {d : Option Addr} : exA a C t d ≠ .own x := fun z => by
  have z' : HO.ext _ = HO.own x := z
  cases z'
theorem exA_ok {P : Program} {w : World} {H : Hp} {h : Heap} {e C t1 : Addr} {d : Option Addr} (he : h.get? e = some ({ cls := .ref C, dict := d, data := .fields #[.ref t1, .none, .none, .none, .bool false, .none] } : Obj)) : ObjOk P w H h e (exA e C t1 d) :=
  ⟨he, ⟨_, he⟩, fun h1 h2 z k => k _ z⟩
theorem exA_at {P : Program} {w : World} {H : Hp} {h : Heap} {e C t1 : Addr} {d : Option Addr} (hok : HOk P w H h) (he : Rd H e (exA e C t1 d)) : h.get? e = some ({ cls := .ref C, dict := d, data := .fields #[.ref t1, .none, .none, .none, .bool false, .none] } : Obj) := by
  have x : ObjOk P w H h e (.ext fun h => h.get? e = some ({ cls := .ref C, dict := d, data := .fields #[.ref t1, .none, .none, .none, .bool false, .none] } : Obj)) := he.ok hok
  exact x.1
theorem exd_rd {P : Program} {w : World} {H : Hp} {h : Heap} {dx : Addr} {fs : List (Str × V)} (hok : HOk P w H h) (he : Rd H dx (exd dx fs)) : ∃ mA, h.Ns1 dx mA ∧ ∀ f, RelO (fs.lookup f) (mA f) := by
  have x : ObjOk P w H h dx (.ext fun h => ∃ mA, h.Ns1 dx mA ∧ ∀ f, RelO (fs.lookup f) (mA f)) := he.ok hok
  exact x.1
/-- what the written part says of an own class -/
structure OexT (K : PySem.W.Frag) (C : Addr) (B newId initId : String) (tail : List Value) : Prop where
  F : ExcBaseFacts B newId initId tail
  T : TailX tail
  cls : ∃ nm q N bs bm sn sub ab col dd k0 k1 k2 k3 k5, K.lookup C = some (excClassObj nm q C N bs bm true sn sub ab col dd k0 k1 k2 k3 k5 newId) ∧ refsT tail bm = true
  sa : PySem.W.findIn K (.ref C) "__setattr__" = some (some (.builtin "object.__setattr__"))
  kC : PySem.W.keepIn K (.ref C) = true
section
variable {X : Cx} {pins : List (Addr × Obj)} {σ : L2.St} {H : Hp} {a C t0 : Addr} {d0 : Option Addr}
/-- the exception's object is another one, and something new is laid at p -/
theorem Inv.ext2 {hp h' : Heap} {g : Array GenState} {dr : Drawn} {t t' : Nat} {os : OsState} {p t1 : Addr} {d1 : Option Addr} {op : HO} (I : Inv X pins σ H ⟨hp, g, dr, t, os⟩) (e : H a = some (exA a C t0 d0)) (k : ∀ b o, b ≠ a → hp.get? b = some o → h'.get? b = some o)
    (dn : hp.objs.size ≤ p) (dne : p ≠ a) (hx : h'.get? a = some ({ cls := .ref C, dict := d1, data := .fields #[.ref t1, .none, .none, .none, .bool false, .none] } : Obj)) (ho : ∀ H', ObjOk X.prog X.w H' h' p op) :
    Inv X pins σ (upd (upd H p op) a (exA a C t1 d1)) ⟨h', g, dr, t', os⟩ := by
  have hnd : H p = none := I.hok.fresh dn
  have nd : ∀ {b : Addr} {o : Obj}, hp.get? b = some o → b ≠ p := fun {b o} q => Nat.ne_of_lt (Nat.lt_of_lt_of_le (Heap.lt_size q) dn)
  have na : ∀ {b : Addr}, H b = none → b ≠ a := fun {b} n z => by
    rw [z, e] at n
    cases n
  have Un1 : Un X.fs [] H (upd (upd H p op) a (exA a C t1 d1)) hp h' := {
    keep := fun b o q n _ _ => k b o (na n) q
    slot := fun b o q n _ _ => ⟨o.slots, k b o (na n) q⟩
    free := fun b o q n _ => by rw [upd_ne (na n), upd_ne (nd q)]; exact n
    there := fun b o q _ => by
      by_cases hb : b = a
      · exact ⟨_, by rw [hb]; exact hx⟩
      · exact ⟨o, k b o hb q⟩
    tups := fun b xs q => by rw [upd_ne (at_ne e q exA_tup), upd_ne (ne_of_none q hnd)]; exact q
    frzs := fun b o v q => by rw [upd_ne (at_ne e q exA_frz), upd_ne (ne_of_none q hnd)]; exact q
    tbls := fun b ps q => ⟨#[], by rw [upd_ne (at_ne e q exA_tbl), upd_ne (ne_of_none q hnd), q]; simp⟩ }
  refine I.un (t' := t') Un1 fun b o q => ?_
  by_cases hb : b = a
  · subst hb
    rw [upd_same] at q
    cases q
    exact exA_ok hx
  · rw [upd_ne hb] at q
    by_cases hd : b = p
    · subst hd
      rw [upd_same] at q
      cases q
      exact ho _
    · rw [upd_ne hd] at q
      exact (I.hok b o q).stay (fun c v hc z => k c v (by
          rcases hc with hc | hc
          · rw [hc]
            exact hb
          · exact at_ne e hc exA_own) z)
        (fun c hc => by rw [upd_ne (at_ne e hc exA_own), upd_ne (ne_of_none hc hnd)]; exact hc) (fun c xs hc => by rw [upd_ne (at_ne e hc exA_tup), upd_ne (ne_of_none hc hnd)]; exact hc)
variable {B newId initId : String} {tail : List Value} {s : Shared} {A : Around} {E : Value → Shared → Prop}
/-- self.f = y, the first field -/
theorem ost_newT {Q : Unit → Shared → Prop} {f : Str} {y : V} {u : Value} (T : OexT X.K C B newId initId tail) (I : Inv X pins σ H s) (e : H a = some (exA a C t0 none)) (hno : PySem.W.findIn X.K (.ref C) f = some none) (ry : RelV y u)
    (h : ∀ dx s', H dx = none → dx ≠ a → Inv X pins σ (upd (upd H dx (exd dx [(f, y)])) a (exA a C t0 (some dx))) s' → Q () s') : wpAny (model X.prog X.w) A (setAttr (.ref a) f u) Q E s := by
  obtain ⟨nm, q, N, bs, bm, sn, sub, ab, col, dd, k0, k1, k2, k3, k5, hC, hbm⟩ := T.cls
  have hcl : PySem.W.clsIn X.K C = some { name := nm, bases := bs, mro := .ref C :: bm, ns := N, qualname := q, hasDict := true, slotNames := sn, subclasses := sub, abstract := ab, collection := col, hasDel := false } := by unfold PySem.W.clsIn; rw [hC] <;> rfl
  have ho := exA_at I.hok (.inl e)
  obtain ⟨hp, g, d, t, os⟩ := s
  refine PySem.W.set_plain I.kIn (ox := { cls := .ref C, dict := none, data := .fields #[.ref t0, .none, .none, .none, .bool false, .none] }) (od := none) ⟨ho, rfl, rfl, trivial⟩ T.sa ?_
  refine exc_osaT T.T I.kIn ho hcl (show refsT tail (.ref C :: bm) = true from hbm) rfl hno (fun h' tk' dx k dn dne hx hn => ?_)
  exact h dx _ (I.hok.fresh dn) dne (Inv.ext2 I e k dn dne hx fun H' => exd_ok hn (relO_put (fs := []) ry fun g => True.intro))
/-- Base.__init__(self, ..) -/
theorem oinitT {us : List Value} {ws : List V} {Q : Value → Shared → Prop} (T : OexT X.K C B newId initId tail) (I : Inv X pins σ H s) (e : H a = some (exA a C t0 none)) (r : Vals ws us) (hl : us.length ≤ sizeLine)
    (h : ∀ t1 s', H t1 = none → t1 ≠ a → Inv X pins σ (upd (upd H t1 (.tup ws)) a (exA a C t1 none)) s' → Q .none s') : wpAny (model X.prog X.w) A (call (.builtin initId) (.ref a :: us)) Q E s := by
  obtain ⟨nm, q, N, bs, bm, sn, sub, ab, col, dd, k0, k1, k2, k3, k5, hC, hbm⟩ := T.cls
  have ho := exA_at I.hok (.inl e)
  obtain ⟨hp, g, d, t, os⟩ := s
  have hne : hp.objs.size ≠ a := fun z => absurd (Heap.lt_size ho) (by rw [← z]; exact Nat.lt_irrefl _)
  refine wpAny_call (init_baseT T.F (fun Y => refsT_contains T.T Y bm hbm) (I.kIn _ _ hC) ho hl fun h' k hx ht => ?_)
  exact h hp.objs.size _ (I.hok.fresh (Nat.le_refl _)) hne (Inv.ext2 (t' := t) I e k (Nat.le_refl _) hne hx fun H' => ⟨by rw [r.length]; exact hl, us, r, ⟨_, ht, rfl, _, rfl⟩⟩)
end
/-! ### the statements of __init__ -/
section
variable {X : Cx} {n : Nm} {B newId initId : String} {tail : List Value} {e o : Expr} {es : List Expr} {te to : TE} {ta : TA} {f : Str} {p p' p1 p2 pos : Pos}
def tInitT (K : PySem.W.Frag) (B newId initId : String) (tail : List Value) (ta : TA) : TE := fun σ H Q => ta σ H fun vs H1 => ∃ (a C t0 : Addr) (ws : List V), vs = .ref a :: ws ∧ ws.length ≤ 1000 ∧ OexT K C B newId initId tail ∧ H1 a = some (exA a C t0 none) ∧
  ∀ t1, H1 t1 = none → t1 ≠ a → Q .non (upd (upd H1 t1 (.tup ws)) a (exA a C t1 none))
theorem init_tail {pins : List (Addr × Obj)} {s : Shared} {σ : L2.St} {H : Hp} {Q : VK} (I : Inv X pins σ H s) (ha : PA X (e :: es) ta) (h : tInitT X.K B newId initId tail ta σ H Q) (hs : starEach (e :: es) X.env = (false, eval e X.env) :: starEach es X.env)
    (hpl : (backTo pos (starEach es X.env)).any (·.1) = false) : wpAny (model X.prog X.w) X.A (callWith pos (Value.builtin initId) [] (backTo pos (starEach (e :: es) X.env)) []) (EP X pins σ Q) X.xe s := by
  refine PyProof.Rows.callWith_method1 (thn (ha.run pos pins _ σ H _ I h) fun us s1 ⟨vs, H1, I1, r1, a, C, t0, ws, ev, hl, T, ea, q⟩ => ?_) hs hpl
  subst ev
  cases r1 with
  | @cons _ u0 _ ur ra rw' =>
    obtain rfl : u0 = Value.ref a := ra
    have hlen : ur.length ≤ sizeLine := by
      rw [← Paired.length rw', sizeLine_eq]
      omega
    exact oinitT T I1 ea rw' hlen fun t1 s' n1 n2 J => ⟨.non, _, J, rfl, q t1 n1 n2⟩
/-- the base is a built-in class -/
theorem pe_initB {x : Str} {pl : Sem Bool} (hg : Gl X x) (hm : X.mg x = none) (hv : bootBuiltins x = some (.type B)) (hn : x ≠ "__name__") (hd : (x == ("__debug__" : Str)) = false) (hty : typeOf (.type B) = pure (.type "type")) (hst : Manifest.isStub B = false)
    (vV : PySem.W.findCls X.K (.type B) (.type "type") "__init__" = some (.val (.builtin initId))) (hh : PySem.W.handedIn (.builtin initId) = true) (ha : PA X (e :: es) ta)
    (hc : eval (.Call (.Attribute (.Name x p1) "__init__" p2) (e :: es) [] pos) X.env = (do
      let ov ← eval (.Name x p1) X.env
      standAt p2.atName
      let (f, first) ← holding [ov] (getMethod ov "__init__" pl)
      callWith pos f first (backTo pos (starEach (e :: es) X.env)) (backToKw pos (keywordEach [] X.env))))
    (hs : starEach (e :: es) X.env = (false, eval e X.env) :: starEach es X.env) (hpl : (backTo pos (starEach es X.env)).any (·.1) = false) :
    PE X (.Call (.Attribute (.Name x p1) "__init__" p2) (e :: es) [] pos) (tInitT X.K B newId initId tail ta) := by
  refine ⟨fun pins s σ H Q I h => ?_⟩
  refine PySem.W.methodCall_KW (ld_blt I hg hm hv ?_ hn hd) hc
  obtain ⟨m, fr⟩ := I.fr
  refine PySem.W.method_type fr I.ok.mod.kin hty hst vV hh ?_
  show wpAny _ _ (callWith pos (Value.builtin initId) [] (backTo pos (starEach (e :: es) X.env)) []) _ _ _
  exact init_tail (I.tok _) ha h hs hpl
/-- the base is an own class without __init__ -/
theorem pe_initO {x : Str} {R : Addr} {mc : Value} {pl : Sem Bool} (hg : Gl X x) (hm : X.mg x = some (.ref R)) (hd : (x == ("__debug__" : Str)) = false) (hsp : PySem.W.specialIn X.K (.ref R) "__getattribute__" = some (some (.builtin "type.__getattribute__")))
    (hmc : PySem.W.typeIn X.K (.ref R) = some mc) (hr : PySem.W.readsIn X.K R mc = true) (vV : PySem.W.findCls X.K (.ref R) mc "__init__" = some (.val (.builtin initId))) (hh : PySem.W.handedIn (.builtin initId) = true) (ha : PA X (e :: es) ta)
    (hc : eval (.Call (.Attribute (.Name x p1) "__init__" p2) (e :: es) [] pos) X.env = (do
      let ov ← eval (.Name x p1) X.env
      standAt p2.atName
      let (f, first) ← holding [ov] (getMethod ov "__init__" pl)
      callWith pos f first (backTo pos (starEach (e :: es) X.env)) (backToKw pos (keywordEach [] X.env))))
    (hs : starEach (e :: es) X.env = (false, eval e X.env) :: starEach es X.env) (hpl : (backTo pos (starEach es X.env)).any (·.1) = false) :
    PE X (.Call (.Attribute (.Name x p1) "__init__" p2) (e :: es) [] pos) (tInitT X.K B newId initId tail ta) := by
  refine ⟨fun pins s σ H Q I h => ?_⟩
  refine PySem.W.methodCall_KW (ld_glob I hg hm ?_ hd) hc
  obtain ⟨m, fr⟩ := I.fr
  refine PySem.W.method_of_cls fr I.ok.mod.kin hsp (PySem.W.cls_val fr I.ok.mod.kin hmc hr vV hh ?_)
  show wpAny _ _ (callWith pos (Value.builtin initId) [] (backTo pos (starEach (e :: es) X.env)) []) _ _ _
  exact init_tail (I.tok _) ha h hs hpl
def tOstT (K : PySem.W.Frag) (B newId initId : String) (tail : List Value) (f : Str) (to te : TE) : TS := fun D σ H => te σ H fun y H1 => to σ H1 fun x H2 => ∃ a C t0 : Addr, x = .ref a ∧ OexT K C B newId initId tail ∧ PySem.W.findIn K (.ref C) f = some none ∧
  H2 a = some (exA a C t0 none) ∧ ∀ dx, H2 dx = none → dx ≠ a → D.nx σ (upd (upd H2 dx (exd dx [(f, y)])) a (exA a C t0 (some dx)))
theorem ps_ostT (ho : PE X o to) (he : PE X e te) (hs : swapsWith e (some (.Attribute o f p')) pos.line X.env = pure false) : PS X (.Assign [.Attribute o f p'] e pos) (tOstT X.K B newId initId tail f to te) := by
  refine ⟨fun pins s σ H D I h => ?_⟩
  refine plainObj_wpAny_Assign_Attribute (thn (he.run pins s σ H _ I h) fun v s1 ⟨y, H1, I1, r1, q1⟩ => thn (ho.run pins s1 σ H1 _ I1 q1) fun u s2 ⟨x, H2, I2, r2, a, C, t0, ex, T, hno, ea, q⟩ => ?_) hs
  subst ex
  obtain rfl : u = Value.ref a := r2
  exact ost_newT T I2 ea hno r1 fun dx s' n ne J => ⟨σ, _, J, q dx n ne⟩
/-- what such an __init__ promises: self's object has the text as its args, the value in its dict -/
def spInit (K : PySem.W.Frag) (B newId initId : String) (tail : List Value) (C : Addr) (text f : Str) : Sp := fun vs H Q E => ∃ a y t0, vs = [.ref a, y] ∧ H a = some (exA a C t0 none) ∧ ∀ t1 dx, H t1 = none → t1 ≠ a → H dx = none → dx ≠ a → dx ≠ t1 →
  Q .non (upd (upd (upd (upd H t1 (.tup [.str text])) a (exA a C t1 none)) dx (exd dx [(f, y)])) a (exA a C t1 (some dx)))
/-- its two statements -/
theorem init_body {sf vl : Str} {text : Str} {k1 : Nat} {q1 q2 q3 q4 q5 q6 q7 q8 : Pos} {body : List Stmt} {C : Addr} (T : OexT X.K C B newId initId tail) (hno : PySem.W.findIn X.K (.ref C) f = some none)
    (hb : ∀ (ta : TA), PA X [.Name sf q1, .Constant (.str text) k1 q2] ta → PE X e (tInitT X.K B newId initId tail ta)) (h0 : PE X (.Name sf q1) (tVar 0)) (h0' : PE X (.Name sf q3) (tVar 0)) (h1 : PE X (.Name vl q4) (tVar 1)) (hsw : swapsWith e none q5.line X.env = pure false)
    (hbody : body = [.Expr e q5, .Assign [.Attribute (.Name sf q3) f q6] (.Name vl q4) q7]) :
    ∃ t, PSs X body t ∧ ∀ (vs : List V) (H : Hp) (Q : VK) (E : XK), X.N.length = 2 → spInit X.K B newId initId tail C text f vs H Q E → t { nx := fun _ H' => Q .non H', rt := Q } (L2.start X.N vs) H := by
  subst hbody
  refine ⟨_, pss_cons (ps_expr (hb _ (pa_cons h0 (pa_cons pe_str pa_nil rfl) rfl)) hsw) (pss_one (ps_ostT (B := B) (newId := newId) (initId := initId) (tail := tail) h0' h1 rfl)), fun vs H Q E hN ⟨a, y, t0, ev, ea, q⟩ => ?_⟩
  subst ev
  have st : L2.start X.N [.ref a, y] = [some (.ref a), some y] := by unfold L2.start; rw [hN]; rfl
  rw [st]
  refine ⟨.ref a, rfl, ?_⟩
  refine ⟨a, C, t0, [.str text], rfl, by simp, T, ea, fun t1 n1 n2 => ?_⟩
  refine ⟨y, rfl, .ref a, rfl, a, C, t1, rfl, T, hno, upd_same, fun dx n3 n4 => ?_⟩
  have hx : H dx = none ∧ dx ≠ t1 := by
    rw [upd_ne n4] at n3
    by_cases z : dx = t1
    · subst z; rw [upd_same] at n3; cases n3
    · rw [upd_ne z] at n3; exact ⟨n3, z⟩
  exact q t1 dx n1 n2 hx.1 n4 hx.2
end
/-! ### C(..) -/
section
variable {X : Cx} {n : Nm} {G : Nat → D} {F : FT} {W : WX} {B newId initId : String} {tail : List Value} {e : Expr} {es : List Expr} {f text : Str} {p pos : Pos} {ta : TA}
/-- the heap behind it -/
def mkH (H : Hp) (a t1 dx C : Addr) (text f : Str) (y : V) : Hp := upd (upd (upd H t1 (.tup [.str text])) dx (exd dx [(f, y)])) a (exA a C t1 (some dx))
/-- a new error object -/
def Made (C : Addr) (text f : Str) (y : V) (H : Hp) (Q : VK) : Prop := ∀ a t1 dx, H a = none → H t1 = none → H dx = none → t1 ≠ a → dx ≠ a → dx ≠ t1 → Q (.ref a) (mkH H a t1 dx C text f y)
theorem fin_eq {H1 : Hp} {a t0 t1 dx C : Addr} {text f : Str} {y : V} : upd (upd (upd (upd (upd H1 a (exA a C t0 none)) t1 (.tup [.str text])) a (exA a C t1 none)) dx (exd dx [(f, y)])) a (exA a C t1 (some dx)) = mkH H1 a t1 dx C text f y := by
  funext b
  unfold mkH
  by_cases h1 : b = a
  · subst h1; rw [upd_same, upd_same]
  · rw [upd_ne h1, upd_ne h1]
    by_cases h2 : b = dx
    · subst h2; rw [upd_same, upd_same]
    · rw [upd_ne h2, upd_ne h1, upd_ne h2]
      by_cases h3 : b = t1
      · subst h3; rw [upd_same, upd_same]
      · rw [upd_ne h3, upd_ne h1, upd_ne h3]
/-- the call of the class, its arguments bound to self and the value -/
theorem call_mkT {pins : List (Addr × Obj)} {σ : L2.St} {H1 : Hp} {s1 : Shared} {C fI : Addr} {k : Nat} {fd : FuncData} {ps : List Str} {us : List Value} {kw : List (Str × Value)} {u : Value} {y : V} {Q : VK} (T : OexT X.K C B newId initId tail) (iC : PySem.W.findIn X.K (.ref C) "__init__" = some (some (.ref fI))) (tI : PySem.W.typeIn X.K (.ref fI) = some (.type "function"))
    (F1 : FnOk X.prog X.w X.K X.mg X.base (L2.CX X.prog X.w) k fI fd ps (spInit X.K B newId initId tail C text f)) (hr : Room (k + 1) X.A) (hx : Passes (L2.CX X.prog X.w) X (fun _ _ _ => False)) (I1 : Inv X pins σ H1 s1) (hus : us.length ≤ 1000) (ry : RelV y u)
    (hb : ∀ s : Shared, X.K.In s.heap → ∀ a : Addr, BindsTo s fd ⟨.ref a :: us, kw⟩ (ps.zip [.ref a, u])) (q : Made C text f y H1 Q) : wpAny (model X.prog X.w) X.A (call (.ref C) us kw) (EP X pins σ Q) X.xe s1 := by
  obtain ⟨nm, q0, N, bs, bm, sn, sub, ab, col, dd, k0, k1, k2, k3, k5, hC, hbm⟩ := T.cls
  obtain ⟨hp, g, dr, tk, os⟩ := s1
  have hsz : hp.objs.size ≤ hp.objs.size + 1 := Nat.le_succ _
  have hn : H1 (hp.objs.size + 1) = none := I1.hok.fresh hsz
  have kk : ∀ b o, hp.get? b = some o → ((hp.push (PySem.W.kdv_tup us)).push (PySem.HandSPX.excO C hp.objs.size)).get? b = some o := fun b o e => Heap.get?_push_of_some _ (Heap.get?_push_of_some _ e)
  have hget : ((hp.push (PySem.W.kdv_tup us)).push (PySem.HandSPX.excO C hp.objs.size)).get? (hp.objs.size + 1) = some (PySem.HandSPX.excO C hp.objs.size) := by heap_get
  have I2 : Inv X pins σ (upd H1 (hp.objs.size + 1) (exA (hp.objs.size + 1) C hp.objs.size none)) ⟨(hp.push (PySem.W.kdv_tup us)).push (PySem.HandSPX.excO C hp.objs.size), g, dr, tk, os⟩ :=
    I1.laid (t' := tk) (a := hp.objs.size + 1) (o := exA (hp.objs.size + 1) C hp.objs.size none) (h' := (hp.push (PySem.W.kdv_tup us)).push (PySem.HandSPX.excO C hp.objs.size)) kk hsz (exA_ok hget)
  have hq : spInit X.K B newId initId tail C text f [V.ref (hp.objs.size + 1), y] (upd H1 (hp.objs.size + 1) (exA (hp.objs.size + 1) C hp.objs.size none)) (fun v H2 => v = .non ∧ Q (.ref (hp.objs.size + 1)) H2) (fun _ _ _ => False) :=
    ⟨hp.objs.size + 1, y, hp.objs.size, rfl, upd_same, fun t1 dx n1 n2 n3 n4 n5 => ⟨rfl, by
      rw [fin_eq]
      rw [upd_ne n2] at n1
      rw [upd_ne n4] at n3
      exact q _ t1 dx hn n1 n3 n2 n4 n5⟩⟩
  have r2 : Vals [V.ref (hp.objs.size + 1), y] [Value.ref (hp.objs.size + 1), u] := .cons rfl (.cons ry .nil)
  have hus' : us.length ≤ sizeLine := by rw [sizeLine_eq]; omega
  refine wpAny_call (call_ownK T.F (fun Y => refsT_contains T.T Y bm hbm) (I1.kIn _ _ hC) (PySem.W.looks_findIn I1.kIn iC) (fun self => PySem.W.bind_fn I1.kIn self tI) hus'
    (codeAny_mono (F1.run _ X.stack _ _ ⟨Value.ref (hp.objs.size + 1) :: us, kw⟩ [Value.ref (hp.objs.size + 1), u] _ _ (fun _ _ _ => False) (hr.make C us kw) (I2.env0.make C us kw) (hb _ I2.kIn _) r2 hq) fun r s' hq' => ?_))
  cases r with
  | error er => exact hx pins σ _ _ er s' I2 hq'
  | ok fl =>
    cases fl with
    | ret u' =>
      obtain ⟨v, H2, os2, bare2, un2, hok2, rv, ev, q2⟩ := hq'
      subst ev
      obtain ⟨h2, g2, d2, t2, os'⟩ := s'
      have J : Inv X pins σ H2 ⟨h2, g2, d2, t2, os'⟩ := I2.call' (ch := []) os2 un2 hok2 bare2 (fun b z => absurd z (by simp))
      exact ⟨rv, .ref (hp.objs.size + 1), H2, J, rfl, q2⟩
    | next => exact False.elim hq'
    | brk => exact False.elim hq'
    | cont => exact False.elim hq'
end
end Pd
end
section
/-! PdEr: own errors as values: field read, isinstance, text, making. -/
namespace Pd
open PySem PySem.Spec PyProof.Rows L2
/-- what the written part says of an own error class, for reading its instances -/
structure ClF (K : PySem.W.Frag) (C : Addr) (f : Str) : Prop where
  xf : L2.XfC K C
  ex : L2.ExcC K C
  hno : PySem.W.findIn K (.ref C) f = some none
  hs : PySem.W.findIn K (.ref C) "__str__" = some (some (.builtin "BaseException.__str__"))
section
variable {X : Cx} {n : Nm} {G : Nat → D} {F : FT} {W : WX} {a : Expr} {a' : E} {pos p p2 : Pos} {f : Str} {cs : List Nat}
theorem rd_exn {c : Ct} {ρ : List Addr} {L : Addr → Prop} {H : Hp} {cl : Nat} {f m : Str} {x : P} {v : V} (h : RD c ρ L H (.exn cl f m x) v) : ∃ a t1 dx u, v = .ref a ∧ (Rd H a (exA a (c.ca cl) t1 (some dx)) ∧ ¬ L a) ∧ (Rd H t1 (.tup [.str m]) ∧ ¬ L t1) ∧ (Rd H dx (exd dx [(f, u)]) ∧ ¬ L dx) ∧ RP c.K L H x u := by
  simp only [RD] at h
  exact h
/-- e.f -/
theorem x_fld (hc : ∀ c ∈ cs, ClF X.K (n.ca c) f) (ha : PE X a (tE (cx X n) G F W a')) (hb : attributeBase a f X.env (eval a X.env) = eval a X.env) : PE X (.Attribute a f pos) (tE (cx X n) G F W (.fld f cs a')) := by
  refine ⟨fun pins s σ H Q I ⟨ρ, h, σD, R, S, w⟩ => ?_⟩
  simp only [ev] at w
  refine attr_of hb (thn (ha.run pins s σ H (fun v H1 => ∀ (s1 : Shared) (u : Value), Inv X pins σ H1 s1 → RelV v u → wpAny (model X.prog X.w) X.A (getAttr u f true) (EP X pins σ Q) X.xe s1) I ⟨ρ, h, σD, R, S, w.bind fun d h1 v H1 ρ1 g1 R1 r1 w1 => ?_⟩) fun u s1 ⟨v, H1, I1, rv, q⟩ => q s1 u I1 rv)
  intro s1 u I1 rv
  unfold fldX at w1
  cases d with
  | exn cl f' m y =>
    by_cases hq : f' = f ∧ cl ∈ cs
    · simp only [if_pos hq] at w1
      obtain ⟨rfl, hm⟩ := hq
      have T := hc cl hm
      obtain ⟨o, t1, dx, uv, rfl, ⟨r2, _⟩, _, ⟨r3, _⟩, r4⟩ := rd_exn r1
      obtain rfl : u = Value.ref o := rv
      have ho := exA_at I1.hok r2
      obtain ⟨mA, hns, hr⟩ := exd_rd I1.hok r3
      obtain ⟨od, hod, hl⟩ := lookIn_ns hns
      obtain ⟨uu, hu, ru⟩ := RelO.some_of (v := uv) (o := mA f') (by rw [show some uv = List.lookup f' [(f', uv)] from by simp]; exact hr f')
      have J : PySem.W.InstAt s1.heap o { cls := .ref (n.ca cl), dict := some dx, data := .fields #[.ref t1, .none, .none, .none, .bool false, .none] } (n.ca cl) (some od) := ⟨ho, rfl, rfl, hod⟩
      exact HandSPX.exc_get I1.kIn J T.xf.ga T.xf.gg T.xf.exC (PySem.W.findObj_own T.xf.hdC T.hno rfl (by rw [hl, hu])) (handed_of ru) ⟨uv, H1, I1.tok _, ru, Wn.ok R1 w1 (by simp only [rD, RD]; exact r4)⟩
    · simp only [if_neg hq] at w1
      exact w1.elim
  | _ => exact w1.elim
/-- isinstance(e, T) -/
theorem x_isx {tb : List (Nat × Bool)} {x y : Str} {cv : Value} {tv : V} (hg : Gl X x) (hm : X.mg x = none) (hv : bootBuiltins x = some (.builtin "isinstance")) (hn : x ≠ "__name__") (hd : (x == ("__debug__" : Str)) = false)
    (hc : ∀ c b, tb.lookup c = some b → (∃ f, ClF X.K (n.ca c) f) ∧ PySem.W.kitOne X.K (.ref (n.ca c)) cv = some b) (ht : PE X (.Name y p2) (tC tv)) (rt : ∀ u, RelV tv u → u = cv)
    (ha : PE X a (tE (cx X n) G F W a')) (st : starEach [a, .Name y p2] X.env = (false, eval a X.env) :: starEach [.Name y p2] X.env) :
    PE X (.Call (.Name x p) [a, .Name y p2] [] pos) (tE (cx X n) G F W (.isx tb a')) := by
  refine ⟨fun pins s σ H Q I ⟨ρ, h, σD, R, S, w⟩ => ?_⟩
  simp only [ev] at w
  refine wpAny_Call_Name_kw (ld_blt I hg hm hv ?_ hn hd)
  refine PyProof.Rows.callWith_builtin1 (thn ((pa_cons ha (pa_cons ht pa_nil rfl) st).run pos pins s σ H (fun vs H1 => ∀ (s1 : Shared) (us : List Value), Inv X pins σ H1 s1 → Vals vs us → wpAny (model X.prog X.w) X.A (call (.builtin "isinstance") us) (EP X pins σ Q) X.xe s1) I ⟨ρ, h, σD, R, S, w.bind fun d h1 v H1 ρ1 g1 R1 r1 w1 => ?_⟩) fun us s1 ⟨vs, H1, I1, r1, q1⟩ => q1 s1 us I1 r1) st rfl
  intro s1 us I1 rv
  unfold isX at w1
  cases d with
  | exn cl f' m z =>
    cases el : tb.lookup cl with
    | none => simp only [el] at w1; exact w1.elim
    | some b =>
      simp only [el] at w1
      obtain ⟨⟨f0, T⟩, ek⟩ := hc cl b el
      obtain ⟨o, t1, dx, uv, rfl, ⟨r2, _⟩, _, ⟨r3, _⟩, r4⟩ := rd_exn r1
      cases rv with
      | cons rx rr =>
        cases rr with
        | cons ry rr =>
          cases rr
          cases rx
          have ec := rt _ ry
          subst ec
          have ho := exA_at I1.hok r2
          obtain ⟨mA, hns, hr⟩ := exd_rd I1.hok r3
          obtain ⟨od, hod, hl⟩ := lookIn_ns hns
          have J : PySem.W.InstAt s1.heap o { cls := .ref (n.ca cl), dict := some dx, data := .fields #[.ref t1, .none, .none, .none, .bool false, .none] } (n.ca cl) (some od) := ⟨ho, rfl, rfl, hod⟩
          exact PySem.W.kia_one (kitx_excD T.ex) I1.kIn J ek (fun z => nomatch z) fun tk => ⟨.bl b, H1, I1.kept (t' := tk) fun _ _ z => z, rfl, Wn.ok R1 w1 (by simp only [rD, RD, RP])⟩
  | _ => exact w1.elim
end
end Pd
end
section
/-! PdEr2: own errors: their text; C(..). -/
namespace Pd
open PySem PySem.Spec PyProof.Rows L2
section
variable {X : Cx} {n : Nm} {G : Nat → D} {F : FT} {W : WX} {a : Expr} {a' : E} {pos p p2 : Pos} {f : Str} {cs : List Nat}
/-- str(e) -/
theorem x_stx {x : Str} (hg : Gl X x) (hm : X.mg x = none) (hv : bootBuiltins x = some (.type "str")) (hn : x ≠ "__name__") (hd : (x == ("__debug__" : Str)) = false) (hu : X.A.units + 2 < cLine)
    (hc : ∀ c, c ∈ cs → ∃ f, ClF X.K (n.ca c) f) (ha : PE X a (tE (cx X n) G F W a')) (st : starEach [a] X.env = (false, eval a X.env) :: starEach [] X.env) :
    PE X (.Call (.Name x p) [a] [] pos) (tE (cx X n) G F W (.stx cs a')) := by
  refine ⟨fun pins s σ H Q I ⟨ρ, h, σD, R, S, w⟩ => ?_⟩
  simp only [ev] at w
  refine wpAny_Call_Name_kw (ld_blt I hg hm hv ?_ hn hd)
  refine PyProof.Rows.callWith_type1 (thn ((pa_cons ha pa_nil st).run pos pins s σ H (fun vs H1 => ∀ (s1 : Shared) (us : List Value), Inv X pins σ H1 s1 → Vals vs us → wpAny (model X.prog X.w) X.A (call (.type "str") us) (EP X pins σ Q) X.xe s1) I ⟨ρ, h, σD, R, S, w.bind fun d h1 v H1 ρ1 g1 R1 r1 w1 => ?_⟩) fun us s1 ⟨vs, H1, I1, r1, q1⟩ => q1 s1 us I1 r1) st rfl
  intro s1 us I1 rv
  unfold strX at w1
  cases d with
  | exn cl f' m z =>
    by_cases hq : cl ∈ cs
    · simp only [if_pos hq] at w1
      obtain ⟨f0, T⟩ := hc cl hq
      obtain ⟨o, t1, dx, uv, rfl, ⟨r2, _⟩, ⟨rt, _⟩, ⟨r3, _⟩, r4⟩ := rd_exn r1
      cases rv with
      | cons rx rr =>
        cases rr
        cases rx
        have ho := exA_at I1.hok r2
        have z : ObjOk X.prog X.w H1 s1.heap t1 (.tup [.str m]) := rt.ok I1.hok
        obtain ⟨_, us, rus, hta⟩ := z
        cases rus with
        | cons ru0 rr =>
        cases rr
        obtain ⟨tk, rfl⟩ := ru0
        exact PySem.P.str_of_C_one hu ⟨I1.kIn, _, _, ho, rfl, rfl, rfl⟩ (let ⟨o', h1, h2, k', h3⟩ := hta; ⟨o', k', h1, h2, h3⟩) T.hs T.ex.hs ⟨.str m, H1, I1, ⟨tk, rfl⟩, Wn.ok R1 w1 (by simp only [rD, RD, RP])⟩
    · simp only [if_neg hq] at w1
      exact w1.elim
  | _ => exact w1.elim
end
end Pd
namespace Pd
open PySem PySem.Spec PyProof.Rows L2
/-- what the head says of an own error class, for making its instances -/
structure ClM (P : Program) (w : World) (K : PySem.W.Frag) (mg : Str → Option Value) (base : Heap) (C : Addr) (x f m : Str) (dv : Bool) : Prop where
  gm : mg x = some (.ref C)
  kp : PySem.W.keepIn K (.ref C) = true
  mak : ∃ (B newId initId : String) (tail : List Value) (fI : Addr) (fd : FuncData) (ps : List Str), OexT K C B newId initId tail ∧ PySem.W.findIn K (.ref C) "__init__" = some (some (.ref fI)) ∧ PySem.W.typeIn K (.ref fI) = some (.type "function") ∧
    FnOk P w K mg base (L2.CX P w) 1 fI fd ps (spInit K B newId initId tail C m f) ∧
    (∀ (s : Shared), K.In s.heap → ∀ (a : Addr) (u : Value), BindsTo s fd ⟨[.ref a, u], []⟩ (ps.zip [.ref a, u]) ∧ BindsTo s fd ⟨[.ref a], [(f, u)]⟩ (ps.zip [.ref a, u]) ∧ (dv = true → BindsTo s fd ⟨[.ref a], []⟩ (ps.zip [.ref a, .none])))
/-- isinstance's table for a class called y -/
def KitOk (K : PySem.W.Frag) (mg : Str → Option Value) (ca : Nat → Addr) (y : Str) (tb : List (Nat × Bool)) : Prop := ∃ (cv : Value) (tv : V), (mg y = some cv ∨ (mg y = none ∧ bootBuiltins y = some cv)) ∧ RelV tv cv ∧ (∀ u, RelV tv u → u = cv) ∧ ∀ c b, tb.lookup c = some b → PySem.W.kitOne K (.ref (ca c)) cv = some b
section
variable {X : Cx} {n : Nm} {G : Nat → D} {F : FT} {W : WX} {a : Expr} {a' : E} {pos p p2 : Pos} {f m x : Str} {c : Nat} {dv : Bool}
theorem Rassoc {α β γ : Type} (r : R α) (f : α → Cs → R β) (g : β → Cs → R γ) : (r.bind f).bind g = r.bind fun a h => (f a h).bind g := by cases r <;> rfl
theorem passF (tk : Takes X W) : Passes (L2.CX X.prog X.w) X (fun _ _ _ => False) := fun _ σ _ _ e s' I c => tk e s' (XE.of_call I (fun _ _ _ h => h.elim) c)
theorem made_rel {cc : Ct} {ρ : List Addr} {h : Cs} {H : Hp} {y : P} {v : V} {Q : VK} (R : Rel cc ρ h H) (r : RP cc.K (Live ρ h) H y v) (w : Wn cc W [] ρ h H (rD cc) (.ok (.exn c f m y) h) Q) : Made (cc.ca c) m f v H Q := fun a t1 dx n1 n2 n3 n4 n5 n6 => by
  obtain ⟨R1, g1⟩ := R.new (o := .tup [.str m]) n2
  have n3' : upd H t1 (.tup [.str m]) dx = none := by rw [upd_ne n6]; exact n3
  obtain ⟨R2, g2⟩ := R1.new (o := exd dx [(f, v)]) n3'
  have n1' : upd (upd H t1 (.tup [.str m])) dx (exd dx [(f, v)]) a = none := by rw [upd_ne (Ne.symm n5), upd_ne (Ne.symm n4)]; exact n1
  obtain ⟨R3, g3⟩ := R2.new (o := exA a (cc.ca c) t1 (some dx)) n1'
  have g := (g1.trans g2).trans g3
  refine w _ _ ρ g R3 ?_
  simp only [rD, RD]
  refine ⟨a, t1, dx, v, rfl, ⟨.inl upd_same, R.not_live n1⟩, ⟨.inl ?_, R.not_live n2⟩, ⟨.inl ?_, R.not_live n3⟩, RP.stay g.stayR _ _ r⟩
  · show upd (upd (upd H t1 (.tup [.str m])) dx (exd dx [(f, v)])) a (exA a (cc.ca c) t1 (some dx)) t1 = _
    rw [upd_ne n4, upd_ne (Ne.symm n6), upd_same]
  · show upd (upd (upd H t1 (.tup [.str m])) dx (exd dx [(f, v)])) a (exA a (cc.ca c) t1 (some dx)) dx = _
    rw [upd_ne n5, upd_same]
variable (M : ClM X.prog X.w X.K X.mg X.base (n.ca c) x f m dv) (hr : Room 2 X.A) (hg : Gl X x) (tk : Takes X W) (hd : (x == ("__debug__" : Str)) = false)
include M hr hg tk hd
/-- C(e) -/
theorem x_mk1 (ha : PE X a (tE (cx X n) G F W a')) (st : starEach [a] X.env = (false, eval a X.env) :: starEach [] X.env) :
    PE X (.Call (.Name x p) [a] [] pos) (tE (cx X n) G F W (.mk c f m [a'])) := by
  obtain ⟨hm, kp, B, newId, initId, tail, fI, fd, ps, T, i1, i2, ok, bd⟩ := M
  refine ⟨fun pins s σ H Q I ⟨ρ, h, σD, R, S, w⟩ => ?_⟩
  simp only [ev, evs, Rassoc] at w
  refine wpAny_Call_Name_kw (ld_glob I hg hm ?_ hd)
  refine PySem.W.callWith_K (h₀ := X.base) I.ok.mod.kin kp (thn ((pa_cons ha pa_nil st).run pos pins s σ H (fun vs H1 => ∀ (s1 : Shared) (us : List Value), Inv X pins σ H1 s1 → Vals vs us → wpAny (model X.prog X.w) X.A (call (.ref (n.ca c)) us) (EP X pins σ Q) X.xe s1) I ⟨ρ, h, σD, R, S, w.bind fun d h1 v H1 ρ1 g1 R1 r1 w1 => ?_⟩) fun us s1 ⟨vs, H1, I1, r1, q1⟩ => ⟨I1.kIn, q1 s1 us I1 r1⟩) st rfl
  intro s1 us I1 rv
  cases rv with
  | cons rx rr =>
  cases rr
  cases d with
  | p y =>
    have w2 : Wn (cx X n) W [] ρ1 h1 H1 (rD (cx X n)) (.ok (.exn c f m y) h1) Q := w1
    exact call_mkT (y := v) T i1 i2 ok hr (passF tk) I1 (by simp) rx (fun s ks a => (bd s ks a _).1) (made_rel R1 (by simp only [rD, RD] at r1; exact r1) w2)
  | _ => exact w1.elim
/-- C(f=e) -/
theorem x_mkk {kp' : Pos} (ha : PE X a (tE (cx X n) G F W a')) :
    PE X (.Call (.Name x p) [] [⟨some f, a, kp'⟩] pos) (tE (cx X n) G F W (.mk c f m [a'])) := by
  obtain ⟨hm, kp, B, newId, initId, tail, fI, fd, ps, T, i1, i2, ok, bd⟩ := M
  refine ⟨fun pins s σ H Q I ⟨ρ, h, σD, R, S, w⟩ => ?_⟩
  simp only [ev, evs, Rassoc] at w
  refine wpAny_Call_Name_kw (ld_glob I hg hm ?_ hd)
  refine PySem.W.callWith_KW0 (h₀ := X.base) I.ok.mod.kin kp rfl (PyProof.Rows.kwAll_cons (thn (ha.run pins s σ H (fun v H1 => ∀ (s1 : Shared) (u : Value), Inv X pins σ H1 s1 → RelV v u → wpAny (model X.prog X.w) X.A (call (.ref (n.ca c)) [] [(f, u)]) (EP X pins σ Q) X.xe s1) I ⟨ρ, h, σD, R, S, w.bind fun d h1 v H1 ρ1 g1 R1 r1 w1 => ?_⟩) fun u s1 ⟨v, H1, I1, r1, q1⟩ => PyProof.Rows.kwAll_nil ⟨I1.kIn, q1 s1 u I1 r1⟩)) rfl
  intro s1 u I1 rv
  cases d with
  | p y =>
    have w2 : Wn (cx X n) W [] ρ1 h1 H1 (rD (cx X n)) (.ok (.exn c f m y) h1) Q := w1
    exact call_mkT (y := v) T i1 i2 ok hr (passF tk) I1 (by simp) rv (fun s ks a => (bd s ks a u).2.1) (made_rel R1 (by simp only [rD, RD] at r1; exact r1) w2)
  | _ => exact w1.elim
/-- C() -/
theorem x_mk0 (hdv : dv = true) : PE X (.Call (.Name x p) [] [] pos) (tE (cx X n) G F W (.mk c f m [])) := by
  obtain ⟨hm, kp, B, newId, initId, tail, fI, fd, ps, T, i1, i2, ok, bd⟩ := M
  refine ⟨fun pins s σ H Q I ⟨ρ, h, σD, R, S, w⟩ => ?_⟩
  simp only [ev, evs, Rassoc] at w
  refine wpAny_Call_Name_kw (ld_glob I hg hm ?_ hd)
  refine PySem.W.callWith_K0 I.kIn kp ?_
  have w2 : Wn (cx X n) W [] ρ h H (rD (cx X n)) (.ok (.exn c f m .none) h) Q := w
  exact call_mkT (y := .non) T i1 i2 ok hr (passF tk) I (by simp) rfl (fun s ks a => (bd s ks a .none).2.2 hdv) (made_rel R (by simp only [RP]) w2)
end
end Pd
end
section
/-! PdC: a checker, the text's expression against the IR's, decided by the kernel; its soundness. -/
namespace Pd
open PySem PySem.Spec PyProof.Rows L2
/-- what a frame's names are -/
structure Cc where
  N : List Str
  nm : List (Str × NameKind)
  df : Bool
/-- the module's names -/
structure Gt where
  defs : List (Str × Nat)
  globs : List Str
  blts : List Str
  cls : List (Str × Str × Str × Bool) := []
  kit : List (Str × List (Nat × Bool)) := []
structure XOk (g : Gt) (cc : Cc) (X : Cx) (n : Nm) (G : Nat → D) (F : FT) (k : Nat) (W : WX) : Prop where
  hN : X.N = cc.N
  nd : cc.N.Nodup
  hnm : X.env.scope.names = cc.nm
  kind : X.env.scope.kind = .function
  calm : X.calm = true
  fn : cc.df = true → ∀ x, X.fn x = true
  tk : Takes X W
  own : cc.df = true → PassesOwn (model X.prog X.w) X.A X.env X.xe
  room : Room k X.A
  fdef : ∀ f x np, g.defs[f]? = some (x, np) → DefOk (cx X n) X.mg X.base F k f x np
  fglob : ∀ i x, g.globs[i]? = some x → ∃ v u, X.mg x = some u ∧ RelV v u ∧ ∀ (ρ : List Addr) (L : Addr → Prop) (H : Hp), RD (cx X n) ρ L H (G i) v
  fblt : ∀ x, x ∈ g.blts → X.mg x = none
  fcls : ∀ c x f m d, g.cls[c]? = some (x, f, m, d) → ClM X.prog X.w X.K X.mg X.base (n.ca c) x f m d ∧ ClF X.K (n.ca c) f
  fkit : ∀ y tb, (y, tb) ∈ g.kit → KitOk X.K X.mg n.ca y tb
  pos : 2 ≤ k
theorem XOk.un {g : Gt} {cc : Cc} {X : Cx} {n : Nm} {G : Nat → D} {F : FT} {k : Nat} {W : WX} (o : XOk g cc X n G F k W) : X.A.units + 65 < cLine := by have := o.room.un; omega
/-! ### names -/
def isVis : Option NameKind → Bool
  | some .local => true
  | some .cell => true
  | some .free => true
  | _ => false
def isLoc : Option NameKind → Bool
  | some .local => true
  | some .cell => true
  | _ => false
def isLocal : Option NameKind → Bool
  | some .local => true
  | _ => false
def isGl : Option NameKind → Bool
  | some .globalImplicit => true
  | _ => false
def nameOk (x : Str) : Bool := !(x == ("__debug__" : Str)) && !(x == ("__classdict__" : Str)) && !(x == ("__name__" : Str))
def slotIs (cc : Cc) (i : Nat) (x : Str) : Bool := match cc.N[i]? with
  | some y => decide (y = x)
  | none => false
def defIs (g : Gt) (f : Nat) (x : Str) (np : Nat) : Bool := match g.defs[f]? with
  | some (y, m) => decide (y = x) && decide (m = np)
  | none => false
def globIs (g : Gt) (i : Nat) (x : Str) : Bool := match g.globs[i]? with
  | some y => decide (y = x)
  | none => false
section
variable {g : Gt} {cc : Cc} {X : Cx} {n : Nm} {G : Nat → D} {F : FT} {k : Nat} {W : WX}
theorem slot_ok {i : Nat} {x : Str} (o : XOk g cc X n G F k W) (h : slotIs cc i x = true) : X.N[i]? = some x := by
  unfold slotIs at h
  rw [o.hN]
  split at h
  · rename_i y e; rw [e, of_decide_eq_true h]
  · cases h
theorem vis_ok {x : Str} (o : XOk g cc X n G F k W) (h : isVis (cc.nm.lookup x) = true) : Vis X.env.scope x := by
  unfold Vis
  rw [o.hnm]
  revert h
  cases cc.nm.lookup x with
  | none => intro h; cases h
  | some q => cases q <;> intro h <;> first | exact .inl rfl | exact .inr (.inl rfl) | exact .inr (.inr rfl) | cases h
theorem loc_ok {x : Str} (o : XOk g cc X n G F k W) (h : isLoc (cc.nm.lookup x) = true) : L2.Loc X.env.scope x := by
  unfold L2.Loc
  rw [o.hnm]
  revert h
  cases cc.nm.lookup x with
  | none => intro h; cases h
  | some q => cases q <;> intro h <;> first | exact .inl rfl | exact .inr rfl | cases h
theorem local_ok {x : Str} (o : XOk g cc X n G F k W) (h : isLocal (cc.nm.lookup x) = true) : X.env.scope.names.lookup x = some .local := by
  rw [o.hnm]
  revert h
  cases cc.nm.lookup x with
  | none => intro h; cases h
  | some q => cases q <;> intro h <;> first | rfl | cases h
theorem gl_ok {x : Str} (o : XOk g cc X n G F k W) (h : isGl (cc.nm.lookup x) = true) : Gl X x := by
  show X.env.scope.names.lookup x = some .globalImplicit
  rw [o.hnm]
  revert h
  cases cc.nm.lookup x with
  | none => intro h; cases h
  | some q => cases q <;> intro h <;> first | rfl | cases h
theorem nm_ok {x : Str} (h : nameOk x = true) : (x == ("__debug__" : Str)) = false ∧ (x == ("__classdict__" : Str)) = false ∧ (x == ("__name__" : Str)) = false := by
  simp only [nameOk, Bool.and_eq_true, Bool.not_eq_true'] at h
  exact ⟨h.1.1, h.1.2, h.2⟩
end
/-! ### expressions -/
def boIs : BO → Operator → Bool
  | .add, .Add => true
  | .sub, .Sub => true
  | .mul, .Mult => true
  | .fdiv, .FloorDiv => true
  | .mod, .Mod => true
  | .pow, .Pow => true
  | _, _ => false
def coIs : CO → CmpOp → Bool
  | .eq, .Eq => true
  | .ne, .NotEq => true
  | .lt, .Lt => true
  | .le, .LtE => true
  | .gt, .Gt => true
  | .ge, .GtE => true
  | .is, .Is => true
  | .isnot, .IsNot => true
  | .inn, .In => true
  | .notin, .NotIn => true
  | _, _ => false
def chkA (c : Expr → E → Bool) : List Expr → List E → Bool
  | [], [] => true
  | e :: es, i :: is => c e i && chkA c es is
  | _, _ => false
def chkB (c : Expr → E → Bool) (op : BoolOp) : List Expr → E → Bool
  | [a], ir => c a ir
  | a :: b :: r, .and a' b' => (match op with | .And => true | _ => false) && c a a' && chkB c op (b :: r) b'
  | a :: b :: r, .or a' b' => (match op with | .Or => true | _ => false) && c a a' && chkB c op (b :: r) b'
  | _, _ => false
def chkP (c : Expr → E → Bool) : List (Option Expr) → List Expr → List E → Bool
  | [], [], [] => true
  | some k :: ks, v :: vs, k' :: v' :: es => c k k' && c v v' && chkP c ks vs es
  | _, _, _ => false
def chkO (c : Expr → E → Bool) : Option Expr → E → Bool
  | none, .ab => true
  | some e, ir => !ir.isAb && c e ir
  | _, _ => false
def noSlice : Expr → Bool
  | .Slice .. => false
  | _ => true
def noSet : Expr → Bool
  | .Set .. => false
  | _ => true
def noCall : Expr → Bool
  | .Call .. => false
  | _ => true
def isTup : Expr → Bool
  | .Tuple .. => true
  | _ => false
mutual
/-- a target; r: only plain locals -/
def chkT (cc : Cc) : Expr → T → Bool
  | .Name x _, .v i => slotIs cc i x && isLoc (cc.nm.lookup x) && (cc.df || isLocal (cc.nm.lookup x))
  | .Tuple es _ _, .tup ts => chkTs cc es ts
  | _, _ => false
def chkTs (cc : Cc) : List Expr → List T → Bool
  | [], [] => true
  | e :: es, t :: ts => chkT cc e t && chkTs cc es ts
  | _, _ => false
end
def relNames (scope : Scope) (nm : List (Str × NameKind)) : List (Str × NameKind) := scope.names.map fun (n, k) => if (k == .free && nm.lookup n == some .cell) then (n, .cell) else (n, k)
def subCc (cc : Cc) (scope : Scope) : Cc := { N := cc.N, nm := relNames scope cc.nm, df := false }
def ownOf (cc : Cc) (ws : List Nat) : List (Str × Nat) := ws.filterMap fun i => (cc.N[i]?).map fun x => (x, i)
def blkOk (cc : Cc) (scope : Scope) (ws : List Nat) : Bool :=
  decide (scope.kind = .function) && scope.names.all (fun y => decide (scope.names.lookup y.1 = some y.2)) && decide ((ownOf cc ws).map (·.2) = ws) &&
  scope.names.all (fun y => match y.2 with
    | .free => isVis (cc.nm.lookup y.1) && !isLocal (cc.nm.lookup y.1)
    | .local => (ownOf cc ws).any (fun p => decide (p.1 = y.1)) || !(cc.N.any fun x => decide (x = y.1))
    | .cell => (ownOf cc ws).any (fun p => decide (p.1 = y.1)) || !(cc.N.any fun x => decide (x = y.1))
    | _ => true)
/-- what is walked -/
def chkI (g : Gt) (cc : Cc) (c : Expr → E → Bool) (tg iter : Expr) (ik : IK) (its : List E) : Bool := match ik, its, iter with
  | .seq, [i], it => c it i
  | .range, [i], .Call (.Name x _) [a] [] _ => decide (x = ("range" : Str)) && isGl (cc.nm.lookup x) && g.blts.any (fun y => decide (y = x)) && c a i
  | .range, [i, j], .Call (.Name x _) [a, b] [] _ => decide (x = ("range" : Str)) && isGl (cc.nm.lookup x) && g.blts.any (fun y => decide (y = x)) && c a i && c b j
  | .enum, [i], .Call (.Name x _) [a] [] _ => decide (x = ("enumerate" : Str)) && isGl (cc.nm.lookup x) && g.blts.any (fun y => decide (y = x)) && c a i && isTup tg
  | .zip, [i, j], .Call (.Name x _) [a, b] [] _ => decide (x = ("zip" : Str)) && isGl (cc.nm.lookup x) && g.blts.any (fun y => decide (y = x)) && c a i && c b j && isTup tg
  | _, _, _ => false
def chkF (c : Expr → E → Bool) : List Expr → List E → Bool
  | [], [] => true
  | [e], [i] => c e i
  | _, _ => false
def bltIs (g : Gt) (cc : Cc) (x name : Str) : Bool := decide (x = name) && isGl (cc.nm.lookup x) && g.blts.any fun y => decide (y = x)
/-- own error classes -/
def clsIs (g : Gt) (c : Nat) (x f m : Str) (need : Bool) : Bool := match g.cls[c]? with
  | some (x', f', m', d) => decide (x' = x) && decide (f' = f) && decide (m' = m) && (!need || d)
  | none => false
def fldIs (g : Gt) (f : Str) (c : Nat) : Bool := match g.cls[c]? with
  | some (_, f', _, _) => decide (f' = f)
  | none => false
def kitIs (g : Gt) (y : Str) (tb : List (Nat × Bool)) : Bool := (g.kit.any fun q => decide (q = (y, tb))) && tb.all fun q => decide (q.1 < g.cls.length)
def chkE (g : Gt) : Nat → Cc → Expr → E → Bool
  | 0, _, _, _ => false
  | n + 1, cc, e, ir => match e, ir with
    | .Name x _, .v i => slotIs cc i x && isVis (cc.nm.lookup x) && nameOk x
    | .Name x _, .g i => globIs g i x && isGl (cc.nm.lookup x) && nameOk x
    | .Constant .none _ _, .k .none => true
    | .Constant (.bool b) _ _, .k (.bool b') => b == b'
    | .Constant (.int i) _ _, .k (.int j) => decide (i = j)
    | .Constant (.str x) _ _, .k (.str y) => decide (x = y)
    | .UnaryOp .Not a _, .not a' => chkE g n cc a a'
    | .UnaryOp .USub a _, .neg a' => chkE g n cc a a'
    | .BinOp a op b _, .bin o a' b' => boIs o op && chkE g n cc a a' && chkE g n cc b b'
    | .Compare a [op] [b] _, .cmp o a' b' => coIs o op && chkE g n cc a a' && chkE g n cc b b' && !behindInMarks op b
    | .Compare a [op, op'] [b, d] _, .chain o o' a' b' d' => coIs o op && coIs o' op' && chkE g n cc a a' && chkE g n cc b b' && chkE g n cc d d' && !lastMarks [op, op'] [b, d]
    | .BoolOp op es _, ir => chkB (chkE g n cc) op es ir
    | .IfExp c a b _, .ite c' a' b' => chkE g n cc c c' && chkE g n cc a a' && chkE g n cc b b'
    | .Tuple es _ _, .tup irs => chkA (chkE g n cc) es irs && decide (irs.length ≤ 100000)
    | .List es _, .lst _ irs => chkA (chkE g n cc) es irs && decide (irs.length ≤ 100000)
    | .Dict ks vs _, .dd _ nk irs => !nk && chkP (chkE g n cc) ks vs irs && !ks.isEmpty && decide (ks.length ≤ 15)
    | .Call (.Name x _) es [] _, .call f irs => defIs g f x irs.length && isGl (cc.nm.lookup x) && nameOk x && !es.isEmpty && chkA (chkE g n cc) es irs
    | .Call (.Name x _) es [] _, .bi b live nk irs => (match b with
      | .len => bltIs g cc x "len"
      | .sum => bltIs g cc x "sum"
      | _ => false) && !live && !nk && !es.isEmpty && chkA (chkE g n cc) es irs
    | .Call (.Attribute o nm apos) [a] [] cpos, .mm .append o' [a'] => decide (nm = ("append" : Str)) && noCall o && (apos.endLine == cpos.line) && chkE g n cc o o' && chkE g n cc a a'
    | .Subscript a (.Slice lo hi none _) _, .slc a' l' u' => chkE g n cc a a' && chkO (chkE g n cc) lo l' && chkO (chkE g n cc) hi u'
    | .Subscript a b _, .sub a' b' => noSlice b && chkE g n cc a a' && chkE g n cc b b'
    | .ListComp elt [⟨tg, iter, ifs, 0⟩] scope _, .lc _ ws elt' t ik its ifs' => chkI g cc (chkE g n cc) tg iter ik its && blkOk cc scope ws && decide (∀ i ∈ t.vars, i ∈ ws) && chkT (subCc cc scope) tg t && chkF (chkE g n (subCc cc scope)) ifs ifs' && chkE g n (subCc cc scope) elt elt' && noSet iter
    | .Call (.Name x _) [a] [] _, .mk c f m [a'] => clsIs g c x f m false && isGl (cc.nm.lookup x) && nameOk x && chkE g n cc a a'
    | .Call (.Name x _) [] [⟨some f', a, _⟩] _, .mk c f m [a'] => decide (f' = f) && clsIs g c x f m false && isGl (cc.nm.lookup x) && nameOk x && chkE g n cc a a'
    | .Call (.Name x _) [] [] _, .mk c f m [] => clsIs g c x f m true && isGl (cc.nm.lookup x) && nameOk x
    | .Attribute a f' _, .fld f cs a' => decide (f' = f) && cs.all (fldIs g f) && noCall a && chkE g n cc a a'
    | .Call (.Name x _) [a, .Name y _] [] _, .isx tb a' => bltIs g cc x "isinstance" && isGl (cc.nm.lookup y) && nameOk y && kitIs g y tb && chkE g n cc a a'
    | .Call (.Name x _) [a] [] _, .stx cs a' => bltIs g cc x "str" && cs.all (fun c => decide (c < g.cls.length)) && chkE g n cc a a'
    | _, _ => false
end Pd
end
section
/-! PdC2: the checker of expressions is sound. -/
namespace Pd
open PySem PySem.Spec PyProof.Rows L2
theorem chkE_star {g : Gt} {m : Nat} {cc : Cc} {e : Expr} {ir : E} (h : chkE g m cc e ir = true) : ∀ (es : List Expr) (env : Env), starEach (e :: es) env = (false, eval e env) :: starEach es env := by
  intro es env
  cases e <;> first
    | rfl
    | (cases m with
       | zero => cases h
       | succ m => cases ir <;> cases h)
theorem noSet_ok {e : Expr} (h : noSet e = true) (env : Env) : ∀ x, foldedSetIterable e env x = pure x := by
  intro x
  cases e <;> first | rfl | cases h
theorem noSlice_ok {e : Expr} (h : noSlice e = true) : PlainIx e := by
  intro o i
  cases e <;> first | rfl | cases h
theorem noCall_ok {e : Expr} (h : noCall e = true) (nm : Str) (env : Env) (w : Sem Value) : attributeBase e nm env w = w := by
  cases e <;> first | rfl | cases h
section
variable {g : Gt} {n : Nm} {G : Nat → D} {F : FT} {k : Nat}
/-- what the checker's yes means, at fuel m -/
def Sound (g : Gt) (n : Nm) (G : Nat → D) (F : FT) (k m : Nat) : Prop := ∀ (cc : Cc) (e : Expr) (ir : E), chkE g m cc e ir = true → ∀ (X : Cx) (W : WX), XOk g cc X n G F k W → PE X e (tE (cx X n) G F W ir) ∧ PT X e (tT (cx X n) G F W ir)
theorem plainT {X : Cx} {W : WX} {e : Expr} {ir : E} (h : PE X e (tE (cx X n) G F W ir)) (he : ∀ whole, isTrue e X.env whole = (do let v ← whole; standAt e.pos; holding [v] (truthy v))) : PE X e (tE (cx X n) G F W ir) ∧ PT X e (tT (cx X n) G F W ir) := ⟨h, t_truth h he⟩
section
variable {m : Nat} (S : Sound g n G F k m) {cc : Cc} {X : Cx} {W : WX} (o : XOk g cc X n G F k W)
include S o
theorem a_ok : ∀ {es : List Expr} {irs : List E}, chkA (chkE g m cc) es irs = true → PA X es (tEs (cx X n) G F W irs) ∧ es.length = irs.length ∧ ∀ pos, (backTo pos (starEach es X.env)).any (·.1) = false
  | [], [], _ => ⟨xs_nil, rfl, fun _ => rfl⟩
  | [], _ :: _, h => by cases h
  | _ :: _, [], h => by cases h
  | e :: es, i :: is, h => by
    simp only [chkA, Bool.and_eq_true] at h
    obtain ⟨h1, h2, h3⟩ := a_ok h.2
    have st := chkE_star h.1 es X.env
    refine ⟨xs_cons (S cc e i h.1 X W o).1 h1 st, by simp [h2], fun pos => ?_⟩
    rw [st]
    show (false || (backTo pos (starEach es X.env)).any (·.1)) = false
    rw [h3 pos]; rfl
theorem b_ok {op : BoolOp} {pos : Pos} : ∀ {es : List Expr} {ir : E}, chkB (chkE g m cc) op es ir = true → PE X (.BoolOp op es pos) (tE (cx X n) G F W ir) ∧ PW X (.BoolOp op es pos) (tT (cx X n) G F W ir)
  | [], ir, h => by cases ir <;> cases h
  | [a], ir, h => by
    have h' : chkE g m cc a ir = true := by cases ir <;> exact h
    obtain ⟨h1, h2⟩ := S cc a ir h' X W o
    refine ⟨x_andOne h1, ?_⟩
    cases op with
    | And => exact t_andOne h2
    | Or => exact t_orOne h2
  | a :: b :: r, ir, h => by
    cases ir with
    | and a' b' =>
      cases op with
      | Or => cases h
      | And =>
        simp only [chkB, Bool.and_eq_true] at h
        obtain ⟨h1, h2⟩ := S cc a a' h.1.2 X W o
        obtain ⟨h3, h4⟩ := b_ok (es := b :: r) h.2
        exact ⟨x_and h1 h3, t_and h2 h4⟩
    | or a' b' =>
      cases op with
      | And => cases h
      | Or =>
        simp only [chkB, Bool.and_eq_true] at h
        obtain ⟨h1, h2⟩ := S cc a a' h.1.2 X W o
        obtain ⟨h3, h4⟩ := b_ok (es := b :: r) h.2
        exact ⟨x_or h1 h3, t_or h2 h4⟩
    | _ => cases h
theorem p_ok : ∀ {ks : List (Option Expr)} {vs : List Expr} {irs : List E}, chkP (chkE g m cc) ks vs irs = true → Prs X n G F W ks vs irs
  | [], [], [], _ => .nil
  | some k :: ks, v :: vs, k' :: v' :: es, h => by
    simp only [chkP, Bool.and_eq_true] at h
    exact .cons (S cc k k' h.1.1 X W o).1 (S cc v v' h.1.2 X W o).1 (p_ok h.2)
  | [], [], _ :: _, h => by cases h
  | [], _ :: _, _, h => by cases h
  | none :: _, _, _, h => by cases h
  | some _ :: _, [], _, h => by cases h
  | some _ :: _, _ :: _, [], h => by cases h
  | some _ :: _, _ :: _, [_], h => by cases h
theorem o_ok {e : Option Expr} {ir : E} (h : chkO (chkE g m cc) e ir = true) : PO X e (tOI (cx X n) G F W ir) := by
  cases e with
  | none => cases ir <;> first | exact o_none | cases h
  | some e =>
    have h' : (!ir.isAb && chkE g m cc e ir) = true := by cases ir <;> exact h
    simp only [Bool.and_eq_true, Bool.not_eq_true'] at h'
    exact o_some h'.1 (S cc e ir h'.2 X W o).1
theorem f_ok {es : List Expr} {irs : List E} (h : chkF (chkE g m cc) es irs = true) : PTs X es (tTs (cx X n) G F W irs) := by
  match es, irs, h with
  | [], [], _ => exact ts_nil
  | [e], [i], h => exact ts_one (S cc e i h X W o).2
  | [], _ :: _, h => cases h
  | _ :: _ :: _, _, h => cases h
  | [_], [], h => cases h
  | [_], _ :: _ :: _, h => cases h
end
theorem any_eq {l : List Str} {x : Str} (h : (l.any fun y => decide (y = x)) = true) : x ∈ l := by
  obtain ⟨y, h1, h2⟩ := List.any_eq_true.mp h
  rw [← of_decide_eq_true h2]; exact h1
theorem cls_ok {c : Nat} {x f m : Str} {need : Bool} (h : clsIs g c x f m need = true) : ∃ d, g.cls[c]? = some (x, f, m, d) ∧ (need = true → d = true) := by
  unfold clsIs at h
  split at h
  · rename_i x' f' m' d e
    simp only [Bool.and_eq_true, decide_eq_true_eq] at h
    obtain ⟨⟨⟨h1, h2⟩, h3⟩, h4⟩ := h
    subst h1; subst h2; subst h3
    refine ⟨d, e, fun z => ?_⟩
    subst z
    simpa using h4
  · cases h
theorem fld_ok {cc : Cc} {X : Cx} {W : WX} {f : Str} {c : Nat} (o : XOk g cc X n G F k W) (h : fldIs g f c = true) : ClF X.K (n.ca c) f := by
  unfold fldIs at h
  split at h
  · rename_i x' f' m' d e
    rw [← of_decide_eq_true h]
    exact (o.fcls c _ _ _ _ e).2
  · cases h
theorem lt_cls {cc : Cc} {X : Cx} {W : WX} {c : Nat} (o : XOk g cc X n G F k W) (h : c < g.cls.length) : ∃ f, ClF X.K (n.ca c) f :=
  ⟨_, (o.fcls c _ _ _ _ (List.getElem?_eq_getElem h)).2⟩
theorem lookup_mem {tb : List (Nat × Bool)} {c : Nat} {b : Bool} (h : tb.lookup c = some b) : (c, b) ∈ tb := by
  induction tb with
  | nil => cases h
  | cons q r ih =>
    obtain ⟨c', b'⟩ := q
    rw [List.lookup_cons] at h
    split at h
    · rename_i e
      have : c = c' := by simpa using e
      cases h
      rw [this]
      exact List.mem_cons_self
    · exact List.mem_cons_of_mem _ (ih h)
theorem kit_ok {y : Str} {tb : List (Nat × Bool)} (h : kitIs g y tb = true) : (y, tb) ∈ g.kit ∧ ∀ c b, tb.lookup c = some b → c < g.cls.length := by
  simp only [kitIs, Bool.and_eq_true] at h
  refine ⟨?_, fun c b e => of_decide_eq_true (List.all_eq_true.mp h.2 _ (lookup_mem e))⟩
  obtain ⟨q, h1, h2⟩ := List.any_eq_true.mp h.1
  rw [← of_decide_eq_true h2]
  exact h1
theorem blt_ok {cc : Cc} {X : Cx} {W : WX} {x name : Str} (o : XOk g cc X n G F k W) (h : bltIs g cc x name = true) : x = name ∧ Gl X x ∧ X.mg x = none := by
  simp only [bltIs, Bool.and_eq_true] at h
  exact ⟨of_decide_eq_true h.1.1, gl_ok o h.1.2, o.fblt x (any_eq h.2)⟩
mutual
theorem t_ok {cc : Cc} {X : Cx} {W : WX} (o : XOk g cc X n G F k W) : ∀ {e : Expr} {t : T}, chkT cc e t = true → PG X e (tG (cx X n) t)
  | .Name x p, .v i, h => by
    simp only [chkT, Bool.and_eq_true] at h
    have nd : X.N.Nodup := by rw [o.hN]; exact o.nd
    refine g_var nd (slot_ok o h.1.1) (loc_ok o h.1.2) ?_
    rcases Bool.or_eq_true _ _ ▸ h.2 with q | q
    · exact .inl (o.fn q x)
    · exact .inr (local_ok o q)
  | .Tuple es _ _, .tup ts, h => by
    simp only [chkT] at h
    obtain ⟨h1, h2, h3, h4⟩ := ts_ok o h
    exact g_tup o.calm h1 h2 h3 h4
theorem ts_ok {cc : Cc} {X : Cx} {W : WX} (o : XOk g cc X n G F k W) : ∀ {es : List Expr} {ts : List T}, chkTs cc es ts = true → PGs X es (tGs (cx X n) ts) ∧ ts.length = es.length ∧ (assignEach es X.env).length = es.length ∧ (assignEach es X.env).findIdx? (·.1) = none
  | [], [], _ => ⟨gs_nil, rfl, rfl, rfl⟩
  | e :: es, t :: ts, h => by
    simp only [chkTs, Bool.and_eq_true] at h
    obtain ⟨h1, h2, h3, h4⟩ := ts_ok o h.2
    have ae : assignEach (e :: es) X.env = (false, assign e X.env) :: assignEach es X.env := by
      cases e <;> first | rfl | (cases t <;> cases h.1)
    refine ⟨gs_cons (t_ok o h.1) h1 (by rw [ae]; rfl), by simp [h2], by rw [ae]; simp [h3], ?_⟩
    rw [ae, List.findIdx?_cons, if_neg Bool.false_ne_true, h4]; rfl
end
/-- a comprehension's block -/
theorem blk_ok {cc : Cc} {X : Cx} {W : WX} {scope : Scope} {ws : List Nat} (o : XOk g cc X n G F k W) (h : blkOk cc scope ws = true) : BlkOk X.N X.env.scope scope (ownOf cc ws) ∧ ws = (ownOf cc ws).map (·.2) ∧
    ∀ (s : Shared) (H : Hp) (C : Addr) (cl : List (Str × Addr)) (fp : List Addr), XOk g (subCc cc scope) (X.blk s H scope (compEnvC scope cl C X.env) fp) n G F k W0 := by
  simp only [blkOk, Bool.and_eq_true, decide_eq_true_eq] at h
  obtain ⟨⟨⟨h1, h2⟩, h3⟩, h4⟩ := h
  refine ⟨⟨h1, fun y hy => of_decide_eq_true (List.all_eq_true.mp h2 y hy), fun p hp => ?_, fun y hy e => ?_, fun y hy e => ?_⟩, h3.symm, fun s H C cl fp => ?_⟩
  · obtain ⟨i, hi, e⟩ := List.mem_filterMap.mp hp
    rw [o.hN]
    cases ei : cc.N[i]? with
    | none => rw [ei] at e; cases e
    | some x => rw [ei] at e; cases e; exact ei
  · have q := List.all_eq_true.mp h4 y hy
    rw [e] at q
    simp only [Bool.and_eq_true, Bool.not_eq_true'] at q
    rw [o.hnm]
    revert q
    cases cc.nm.lookup y.1 with
    | none => intro q; cases q.1
    | some z => cases z <;> intro q <;> first | exact .inl rfl | exact .inr rfl | exact absurd q.2 (by decide) | exact absurd q.1 (by decide)
  · have q := List.all_eq_true.mp h4 y hy
    have q2 : ((ownOf cc ws).any (fun p => decide (p.1 = y.1)) || !(cc.N.any fun x => decide (x = y.1))) = true := by
      rcases e with e | e <;> (rw [e] at q; exact q)
    rw [Bool.or_eq_true] at q2
    rcases q2 with q2 | q2
    · obtain ⟨p, hp, ep⟩ := List.any_eq_true.mp q2
      exact .inl (List.mem_map.mpr ⟨p, hp, of_decide_eq_true ep⟩)
    · refine .inr fun hm => ?_
      rw [Bool.not_eq_true'] at q2
      rw [o.hN] at hm
      have : cc.N.any (fun x => decide (x = y.1)) = true := List.any_eq_true.mpr ⟨y.1, hm, decide_eq_true rfl⟩
      rw [this] at q2; cases q2
  · exact {
      hN := o.hN
      nd := o.nd
      hnm := by
        show (relS scope X.env.scope).names = relNames scope cc.nm
        unfold relS relNames
        have kf : (ScopeKind.function == ScopeKind.function) = true := by decide
        simp only [o.kind, o.hnm, kf, Bool.and_true]
      kind := h1
      calm := o.calm
      fn := fun z => by cases z
      tk := fun u s' ⟨_, _, _, _, _, _, _, _, _, _, _, _, _, _, _, _, w⟩ => w
      own := fun z => by cases z
      room := o.room
      fdef := o.fdef
      fglob := o.fglob
      fblt := o.fblt
      fcls := o.fcls
      fkit := o.fkit
      pos := o.pos }
theorem i_ok {m : Nat} (S : Sound g n G F k m) {cc : Cc} {X : Cx} {W : WX} (o : XOk g cc X n G F k W) {tg iter : Expr} {ik : IK} {its : List E} (h : chkI g cc (chkE g m cc) tg iter ik its = true) : PI X tg iter (tI (cx X n) G F W ik its) := by
  unfold chkI at h
  split at h
  · exact i_seq (S cc _ _ h X W o).1
  · rename_i i x p a q
    simp only [Bool.and_eq_true] at h
    have hx := of_decide_eq_true h.1.1.1
    subst hx
    have hA := a_ok S o (es := [a]) (irs := [i]) (by simp only [chkA, Bool.and_eq_true]; exact ⟨h.2, trivial⟩)
    exact i_range1 (gl_ok o h.1.1.2) (o.fblt _ (any_eq h.1.2)) hA.1 (chkE_star h.2 [] X.env)
  · rename_i i j x p a b q
    simp only [Bool.and_eq_true] at h
    have hx := of_decide_eq_true h.1.1.1.1
    subst hx
    have hA := a_ok S o (es := [a, b]) (irs := [i, j]) (by simp only [chkA, Bool.and_eq_true]; exact ⟨h.1.2, h.2, trivial⟩)
    exact i_range2 (gl_ok o h.1.1.1.2) (o.fblt _ (any_eq h.1.1.2)) hA.1 (by rw [chkE_star h.1.2, chkE_star h.2]; rfl) (chkE_star h.2 [] X.env)
  · rename_i i x p a q
    simp only [Bool.and_eq_true] at h
    have hx := of_decide_eq_true h.1.1.1.1
    subst hx
    have hA := a_ok S o (es := [a]) (irs := [i]) (by simp only [chkA, Bool.and_eq_true]; exact ⟨h.1.2, trivial⟩)
    cases tg <;> first | (cases h.2; done) | exact i_enum (gl_ok o h.1.1.1.2) (o.fblt _ (any_eq h.1.1.2)) hA.1 (chkE_star h.1.2 [] X.env)
  · rename_i i j x p a b q
    simp only [Bool.and_eq_true] at h
    have hx := of_decide_eq_true h.1.1.1.1.1
    subst hx
    have hA := a_ok S o (es := [a, b]) (irs := [i, j]) (by simp only [chkA, Bool.and_eq_true]; exact ⟨h.1.1.2, h.1.2, trivial⟩)
    cases tg <;> first | (cases h.2; done) | exact i_zip (gl_ok o h.1.1.1.1.2) (o.fblt _ (any_eq h.1.1.1.2)) hA.1 (chkE_star h.1.1.2 _ X.env) (by rw [chkE_star h.1.2]; rfl)
  · cases h
theorem bo_ok {X : Cx} {o' : BO} {op : Operator} (h : boIs o' op = true) : OpR X (binaryOp op) (rOp (cx X n) (binop o')) := by
  cases o' <;> cases op <;> first | (cases h; done) | exact o_add | exact o_sub | exact o_mul | exact o_fdiv | exact o_mod | exact o_pow
theorem co_ok {X : Cx} {o' : CO} {op : CmpOp} (hu : X.A.units + 65 < cLine) (h : coIs o' op = true) : OpR X (compareOp op) (rCmp (cx X n) o') := by
  have hu' : X.A.units + 64 < cLine := by omega
  cases o' <;> cases op <;> first | (cases h; done) | exact c_eq hu' | exact c_ne hu' | exact c_lt hu' | exact c_le hu' | exact c_gt hu' | exact c_ge hu' | exact c_is | exact c_isnot | exact c_in hu | exact c_notin hu
theorem x_neg {X : Cx} {W : WX} {a : Expr} {a' : E} {pos : Pos} (ha : PE X a (tE (cx X n) G F W a')) : PE X (.UnaryOp .USub a pos) (tE (cx X n) G F W (.neg a')) := by
  refine peImp (pe_un (op := .USub) un_neg ha) fun σ H Q ⟨ρ, h, σD, R, S, w⟩ => ?_
  simp only [ev] at w
  refine ⟨ρ, h, σD, R, S, w.bind fun da h1 x H1 ρ1 g1 R1 r1 w1 => ?_⟩
  cases da with
  | p y =>
    cases y with
    | int i => exact ⟨i, rd_int r1, Wn.ok R1 w1 (by simp only [rD, RD, RP])⟩
    | _ => exact w1.elim
  | _ => exact w1.elim
theorem sound : ∀ m, Sound g n G F k m
  | 0, _, _, _, h, _, _, _ => by cases h
  | m + 1, cc, e, ir, h, X, W, o => by
    have S : Sound g n G F k m := sound m
    have hu := o.un
    unfold chkE at h
    split at h
    · simp only [Bool.and_eq_true] at h
      have hn := nm_ok h.2
      exact plainT (x_var (slot_ok o h.1.1) (vis_ok o h.1.2) hn.1 hn.2.1) fun _ => rfl
    · rename_i x p i
      simp only [Bool.and_eq_true] at h
      have hn := nm_ok h.2
      have hi : g.globs[i]? = some x := by
        have := h.1.1
        unfold globIs at this
        split at this
        · rename_i y e; rw [e, of_decide_eq_true this]
        · cases this
      obtain ⟨v, u, hm, r, q⟩ := o.fglob i x hi
      exact plainT (x_glob (gl_ok o h.1.2) hm r hn.1 q) fun _ => rfl
    · exact plainT x_none fun _ => rfl
    · have := eq_of_beq h
      subst this
      exact plainT x_bool fun _ => rfl
    · have := of_decide_eq_true h
      subst this
      exact plainT x_int fun _ => rfl
    · have := of_decide_eq_true h
      subst this
      exact plainT x_str fun _ => rfl
    · obtain ⟨h1, h2⟩ := S cc _ _ h X W o
      exact ⟨x_not h1, t_not h2⟩
    · obtain ⟨h1, h2⟩ := S cc _ _ h X W o
      exact plainT (x_neg h1) fun _ => rfl
    · simp only [Bool.and_eq_true] at h
      exact plainT (x_bin (bo_ok h.1.1) (S cc _ _ h.1.2 X W o).1 (S cc _ _ h.2 X W o).1) fun _ => rfl
    · simp only [Bool.and_eq_true, Bool.not_eq_true'] at h
      have c := co_ok (n := n) hu h.1.1.1
      have ha := (S cc _ _ h.1.1.2 X W o).1
      have hb := (S cc _ _ h.1.2 X W o).1
      exact ⟨x_cmp c ha hb h.2, t_cmp c ha hb h.2⟩
    · simp only [Bool.and_eq_true, Bool.not_eq_true'] at h
      have c := co_ok (n := n) hu h.1.1.1.1.1
      have c' := co_ok (n := n) hu h.1.1.1.1.2
      have ha := (S cc _ _ h.1.1.1.2 X W o).1
      have hb := (S cc _ _ h.1.1.2 X W o).1
      have hd := (S cc _ _ h.1.2 X W o).1
      exact ⟨x_chain c c' ha hb hd h.2, t_chain c c' ha hb hd h.2⟩
    · obtain ⟨h1, h2⟩ := b_ok S o h
      exact ⟨h1, h2.pt⟩
    · simp only [Bool.and_eq_true] at h
      obtain ⟨c1, c2⟩ := S cc _ _ h.1.1 X W o
      obtain ⟨a1, a2⟩ := S cc _ _ h.1.2 X W o
      obtain ⟨b1, b2⟩ := S cc _ _ h.2 X W o
      exact ⟨x_ite c2 a1 b1, t_ite c2 a2 b2⟩
    · simp only [Bool.and_eq_true, decide_eq_true_eq] at h
      exact plainT (x_tup (a_ok S o h.1).1 h.2) fun _ => rfl
    · simp only [Bool.and_eq_true, decide_eq_true_eq] at h
      exact plainT (x_lst (a_ok S o h.1).1 h.2) fun _ => rfl
    · rename_i ks vs p live nk irs
      simp only [Bool.and_eq_true, decide_eq_true_eq, Bool.not_eq_true'] at h
      obtain ⟨⟨⟨h0, h1⟩, h2⟩, h3⟩ := h
      subst h0
      exact plainT (x_dd (p_ok S o h1) (fun z => by subst z; cases h2) h3) fun _ => rfl
    · rename_i x p es q f irs
      simp only [Bool.and_eq_true, Bool.not_eq_true'] at h
      obtain ⟨⟨⟨⟨h0, h1⟩, h2⟩, h3⟩, h4⟩ := h
      have hn := nm_ok h2
      have hi : g.defs[f]? = some (x, irs.length) := by
        unfold defIs at h0
        split at h0
        · rename_i y m' e
          rw [Bool.and_eq_true] at h0
          rw [e, of_decide_eq_true h0.1, of_decide_eq_true h0.2]
        · cases h0
      obtain ⟨hA, hl, hp⟩ := a_ok S o h4
      cases es with
      | nil => cases h3
      | cons a es =>
        cases irs with
        | nil => cases h4
        | cons i irs =>
          have h4' := h4
          simp only [chkA, Bool.and_eq_true] at h4'
          have st := chkE_star h4'.1 es X.env
          refine plainT (x_call (o.fdef f x _ hi) o.room (gl_ok o h1) o.tk hA rfl hn.1 st ?_) fun _ => rfl
          exact (a_ok S o h4'.2).2.2 q
    · rename_i x p es q b live nk irs
      simp only [Bool.and_eq_true, Bool.not_eq_true'] at h
      obtain ⟨⟨⟨⟨h0, h1⟩, h2⟩, h3⟩, h4⟩ := h
      subst h1; subst h2
      obtain ⟨hA, hl, hp⟩ := a_ok S o h4
      cases es with
      | nil => cases h3
      | cons a es =>
        cases irs with
        | nil => cases h4
        | cons i irs =>
          have h4' := h4
          simp only [chkA, Bool.and_eq_true] at h4'
          have st := chkE_star h4'.1 es X.env
          have pl := (a_ok S o h4'.2).2.2 q
          cases b with
          | len =>
            obtain ⟨hx, hg, hm⟩ := blt_ok o h0
            subst hx
            exact plainT (peImp (pe_callB (op_len o.calm) hg hm (by kernel_rfl) hA (by decide) (by decide) st pl) fun σ H Q w => bi_read w) fun _ => rfl
          | sum =>
            obtain ⟨hx, hg, hm⟩ := blt_ok o h0
            subst hx
            exact plainT (peImp (pe_callB (b_sum o.calm) hg hm (by kernel_rfl) hA (by decide) (by decide) st pl) fun σ H Q w => bi_read w) fun _ => rfl
          | _ => cases h0
    · rename_i ob nm ap a q ob' a'
      simp only [Bool.and_eq_true, decide_eq_true_eq] at h
      obtain ⟨⟨⟨⟨h0, h1⟩, h2⟩, h3⟩, h4⟩ := h
      subst h0
      have st := chkE_star h4 [] X.env
      exact plainT (x_append (S cc _ _ h3 X W o).1 (S cc _ _ h4 X W o).1 (noCall_ok h1 _ _ _) (by rw [st]; rfl) h2 st) fun _ => rfl
    · simp only [Bool.and_eq_true] at h
      exact plainT (x_slc (S cc _ _ h.1.1 X W o).1 (o_ok S o h.1.2) (o_ok S o h.2)) fun _ => rfl
    · simp only [Bool.and_eq_true] at h
      exact plainT (x_sub (by omega) (S cc _ _ h.1.2 X W o).1 (S cc _ _ h.2 X W o).1 (noSlice_ok h.1.1)) fun _ => rfl
    · rename_i elt tg iter ifs scope q live ws elt' t ik its ifs'
      simp only [Bool.and_eq_true, decide_eq_true_eq] at h
      obtain ⟨⟨⟨⟨⟨⟨h0, h1⟩, h2⟩, h3⟩, h4⟩, h5⟩, h6⟩ := h
      obtain ⟨bo, hw, bx⟩ := blk_ok o h1
      have nd : X.N.Nodup := by rw [o.hN]; exact o.nd
      exact plainT (x_lc o.calm nd (i_ok S o h0) bo hw h2 (fun s H C cl fp => t_ok (bx s H C cl fp) h3) (fun s H C cl fp => f_ok S (bx s H C cl fp) h4) (fun s H C cl fp => (S _ _ _ h5 _ _ (bx s H C cl fp)).1) (noSet_ok h6 _)) fun _ => rfl
    · rename_i x p a q c f m a'
      simp only [Bool.and_eq_true] at h
      obtain ⟨d, e⟩ := cls_ok h.1.1.1
      have hn := nm_ok h.1.2
      exact plainT (x_mk1 (o.fcls _ _ _ _ _ e.1).1 (o.room.mono o.pos) (gl_ok o h.1.1.2) o.tk hn.1 (S cc _ _ h.2 X W o).1 (chkE_star h.2 [] X.env)) fun _ => rfl
    · rename_i x p f' a kp q c f m a'
      simp only [Bool.and_eq_true, decide_eq_true_eq] at h
      obtain ⟨⟨⟨⟨h0, h1⟩, h2⟩, h3⟩, h4⟩ := h
      subst h0
      obtain ⟨d, e⟩ := cls_ok h1
      have hn := nm_ok h3
      exact plainT (x_mkk (o.fcls _ _ _ _ _ e.1).1 (o.room.mono o.pos) (gl_ok o h2) o.tk hn.1 (S cc _ _ h4 X W o).1) fun _ => rfl
    · rename_i x p q c f m
      simp only [Bool.and_eq_true] at h
      obtain ⟨d, e⟩ := cls_ok h.1.1
      have hn := nm_ok h.2
      exact plainT (x_mk0 (o.fcls _ _ _ _ _ e.1).1 (o.room.mono o.pos) (gl_ok o h.1.2) o.tk hn.1 (e.2 rfl)) fun _ => rfl
    · rename_i a f' q f cs a'
      simp only [Bool.and_eq_true, decide_eq_true_eq] at h
      obtain ⟨⟨⟨h0, h1⟩, h2⟩, h3⟩ := h
      subst h0
      exact plainT (x_fld (fun c hc => fld_ok o (List.all_eq_true.mp h1 c hc)) (S cc _ _ h3 X W o).1 (noCall_ok h2 _ _ _)) fun _ => rfl
    · rename_i x p a y p2 q tb a'
      simp only [Bool.and_eq_true] at h
      obtain ⟨⟨⟨⟨h0, h1⟩, h2⟩, h3⟩, h4⟩ := h
      obtain ⟨hx, hg, hm⟩ := blt_ok o h0
      subst hx
      have hn := nm_ok h2
      have hy : y ≠ "__name__" := fun z => by
        have q := hn.2.2
        rw [z] at q
        exact absurd q (by decide)
      obtain ⟨hk, hl⟩ := kit_ok h3
      obtain ⟨cv, tv, hcv, r1, r2, hb⟩ := o.fkit _ _ hk
      have ht : PE X (.Name y p2) (tC tv) := by
        rcases hcv with e | ⟨e1, e2⟩
        · exact pe_glob (gl_ok o h1) e r1 hn.1
        · exact pe_bltn (gl_ok o h1) e1 e2 r1 hy hn.1
      exact plainT (x_isx hg hm (by kernel_rfl) (by decide) (by decide) (fun c b e => ⟨lt_cls o (hl c b e), hb c b e⟩) ht r2 (S cc _ _ h4 X W o).1 (chkE_star h4 _ X.env)) fun _ => rfl
    · rename_i x p a q cs a'
      simp only [Bool.and_eq_true] at h
      obtain ⟨hx, hg, hm⟩ := blt_ok o h.1.1
      subst hx
      exact plainT (x_stx hg hm (by kernel_rfl) (by decide) (by decide) (by omega) (fun c hc => lt_cls o (of_decide_eq_true (List.all_eq_true.mp h.1.2 c hc))) (S cc _ _ h.2 X W o).1 (chkE_star h.2 [] X.env)) fun _ => rfl
    · cases h
end
end Pd
end
section
/-! PdC3: the checker of statements; defs. -/
namespace Pd
open PySem PySem.Spec PyProof.Rows L2
def noComp : Expr → Bool
  | .ListComp .. => false
  | .SetComp .. => false
  | .DictComp .. => false
  | _ => true
def noPar : Expr → Expr → Bool
  | .Tuple .., .Tuple .. => false
  | .List .., .Tuple .. => false
  | _, _ => true
def noStar : Expr → Bool
  | .Starred .. => false
  | _ => true
/-- name = [..] whose stores are exchanged -/
def swB (cc : Cc) (y : Str) (py pos : Pos) (scope : Scope) : Bool := isLocal (cc.nm.lookup y) && (py.line == pos.line) && !(scope.names.any fun (n, k) => n == y && (k == .local || k == .cell))
def chkAsg (g : Gt) (f : Nat) (cc : Cc) (tg e : Expr) (t : T) (e' : E) : Bool := match tg, e, t, e' with
  | .Name y py, .ListComp elt [⟨tg2, iter, ifs, 0⟩] scope pos, .v i, .lc live ws elt' t2 ik its ifs' => slotIs cc i y && swB cc y py pos scope && chkE g f cc (.ListComp elt [⟨tg2, iter, ifs, 0⟩] scope pos) (.lc live ws elt' t2 ik its ifs')
  | _, _, _, _ => false
def chkSs1 (c : Stmt → S → Bool) : List Stmt → List S → Bool
  | [], [] => true
  | s :: ss, r :: rs => c s r && chkSs1 c ss rs
  | _, _ => false
def chkS (g : Gt) (f : Nat) (cc : Cc) : Nat → Stmt → S → Bool
  | 0, _, _ => false
  | m + 1, st, s => match st, s with
    | .Assign [.Subscript o i _] e _, .put o' i' e' => noComp e && noSlice i && chkE g f cc e e' && chkE g f cc o o' && chkE g f cc i i'
    | .Assign [tg] e _, .asg t e' => chkAsg g f cc tg e t e' || (noComp e && noPar tg e && chkT cc tg t && chkE g f cc e e')
    | .Expr (.Constant (.str _) _ _) _, .pass => true
    | .Expr e _, .ex e' => noComp e && chkE g f cc e e'
    | .Return (some e) _, .ret e' => chkE g f cc e e'
    | .Return none _, .retn => true
    | .If c a b _, .ite c' a' b' => chkE g f cc c c' && chkSs1 (chkS g f cc m) a a' && chkSs1 (chkS g f cc m) b b'
    | .While c b [] _, .whl c' b' => cc.df && chkE g f cc c c' && chkSs1 (chkS g f cc m) b b'
    | .For tg iter b [] _, .for t ik its b' => cc.df && chkI g cc (chkE g f cc) tg iter ik its && chkT cc tg t && noSet iter && chkSs1 (chkS g f cc m) b b'
    | .Pass _, .pass => true
    | .Break _, .brk => true
    | .Continue _, .cnt => true
    | _, .never => true
    | _, _ => false
section
variable {g : Gt} {n : Nm} {G : Nat → D} {F : FT} {k : Nat} {W : WX}
theorem noComp_ok {e : Expr} (h : noComp e = true) (t : Option Expr) (l : Nat) (env : Env) : swapsWith e t l env = pure false := by
  cases e <;> first | rfl | cases h
theorem swS_ok {tg e : Expr} (h : noComp e = true) (l : Nat) (env : Env) : swapsWithSole [tg] e l env = pure false := noComp_ok h (some tg) l env
theorem noPar_ok {tg e : Expr} (h : noPar tg e = true) (env : Env) : swappedStores [tg] e env = pure none := by
  cases tg <;> cases e <;> first | rfl | cases h
theorem chkT_star {cc : Cc} {e : Expr} {t : T} (h : chkT cc e t = true) (env : Env) : (assignEach [e] env).map (·.2) = [assign e env] := by
  cases e <;> first | rfl | (cases t <;> cases h)
theorem asg_ok {f : Nat} {cc : Cc} {X : Cx} {tg e : Expr} {t : T} {e' : E} {pos : Pos} (o : XOk g cc X n G F k W) (h : chkAsg g f cc tg e t e' = true) : PS X (.Assign [tg] e pos) (tS (cx X n) G F W (.asg t e')) := by
  unfold chkAsg at h
  split at h
  · rename_i y py elt tg2 iter ifs scope p i live ws elt' t2 ik its ifs'
    simp only [Bool.and_eq_true] at h
    obtain ⟨⟨hy, hsw⟩, hc⟩ := h
    cases f with
    | zero => cases hc
    | succ f =>
      have S : Sound g n G F k f := sound f
      simp only [chkE, Bool.and_eq_true, decide_eq_true_eq] at hc
      obtain ⟨⟨⟨⟨⟨⟨h0, h1⟩, h2⟩, h3⟩, h4⟩, h5⟩, h6⟩ := hc
      obtain ⟨bo, hw, bx⟩ := blk_ok o h1
      have nd : X.N.Nodup := by rw [o.hN]; exact o.nd
      simp only [swB, Bool.and_eq_true, Bool.not_eq_true'] at hsw
      have hl := local_ok o hsw.1.1
      exact s_asgLc o.calm nd (slot_ok o hy) hl (sw_true o.kind hl hsw.1.2 hsw.2) (i_ok S o h0) bo hw h2 (fun s H C cl fp => t_ok (bx s H C cl fp) h3) (fun s H C cl fp => f_ok S (bx s H C cl fp) h4) (fun s H C cl fp => (S _ _ _ h5 _ _ (bx s H C cl fp)).1) (noSet_ok h6 _)
  · cases h
theorem ss1_ok {c : Stmt → S → Bool} {X : Cx} (hc : ∀ st s, c st s = true → PS X st (tS (cx X n) G F W s)) : ∀ {sts : List Stmt} {ss : List S}, chkSs1 c sts ss = true → PSs X sts (tSs (cx X n) G F W ss)
  | [], [], _ => ss_nil
  | st :: sts, s :: ss, h => by
    simp only [chkSs1, Bool.and_eq_true] at h
    exact ss_cons (hc st s h.1) (ss1_ok hc h.2)
  | [], _ :: _, h => by cases h
  | _ :: _, [], h => by cases h
theorem stm_ok {f : Nat} {cc : Cc} {X : Cx} (o : XOk g cc X n G F k W) : ∀ m st s, chkS g f cc m st s = true → PS X st (tS (cx X n) G F W s)
  | 0, _, _, h => by cases h
  | m + 1, st, s, h => by
    have S : Sound g n G F k f := sound f
    have ih := stm_ok (f := f) o m
    have hu := o.un
    unfold chkS at h
    split at h
    · simp only [Bool.and_eq_true] at h
      obtain ⟨⟨⟨⟨h0, h1⟩, h2⟩, h3⟩, h4⟩ := h
      refine s_put (by omega) (S cc _ _ h2 X W o).1 (S cc _ _ h3 X W o).1 (S cc _ _ h4 X W o).1 (fun v => ?_) (swS_ok h0 _ _) (noPar_ok rfl _)
      rename_i ob ix _ _ _ _ _ _
      cases ix <;> first | rfl | cases h1
    · simp only [Bool.or_eq_true, Bool.and_eq_true] at h
      rcases h with h | ⟨⟨⟨h0, h1⟩, h2⟩, h3⟩
      · exact asg_ok o h
      · exact s_asg (S cc _ _ h3 X W o).1 (t_ok o h2) (swS_ok h0 _ _) (noPar_ok h1 _) (chkT_star h2 _)
    · exact s_doc
    · simp only [Bool.and_eq_true] at h
      exact s_ex (S cc _ _ h.2 X W o).1 (noComp_ok h.1 _ _ _)
    · exact s_ret (S cc _ _ h X W o).1
    · exact s_retn
    · simp only [Bool.and_eq_true] at h
      exact s_ite (S cc _ _ h.1.1 X W o).2 (ss1_ok ih h.1.2) (ss1_ok ih h.2)
    · simp only [Bool.and_eq_true] at h
      exact s_whl (o.own h.1.1) (S cc _ _ h.1.2 X W o).2 (ss1_ok ih h.2)
    · simp only [Bool.and_eq_true] at h
      obtain ⟨⟨⟨⟨h0, h1⟩, h2⟩, h3⟩, h4⟩ := h
      exact s_for (o.own h0) o.calm (i_ok S o h1) (t_ok o h2) (ss1_ok ih h4) (noSet_ok h3 _)
    · exact s_pass
    · exact s_brk
    · exact s_cnt
    · exact s_never
    · cases h
end
/-! ### defs -/
/-- what the head says of a def's object -/
structure DefAt (P : Program) (K : PySem.W.Frag) (mg : Str → Option Value) (f : Addr) (x : Str) (ps : List Str) (body : List Stmt) (scope : Scope) : Prop where
  at_ : ∃ (oc : Value) (od : Option Addr) (osl : Array (Option Value)) (name qual : Str) (params : Arguments) (dV kV doc pm cdv ct : Value) (an : Option Addr),
    K.lookup f = some ⟨oc, od, .func (PySem.W.fnOf name qual params body scope dV kV doc pm an cdv ct), osl⟩ ∧ PySem.W.codeIn K cdv qual = true ∧ Binds K (PySem.W.fnOf name qual params body scope dV kV doc pm an cdv ct) ps []
  mg : mg x = some (.ref f)
  kp : PySem.W.keepIn K (.ref f) = true
/-- a def's text is the IR's def -/
def chkD (g : Gt) (ps N : List Str) (body : List Stmt) (scope : Scope) (fd : Fd) : Bool :=
  decide (fd.np = ps.length) && decide (fd.nn = N.length) && decide (N.take ps.length = ps) && decide (N.Nodup) && decide (scope.kind = .function) && !scope.isCoroutine && !scope.isGenerator &&
  ps.all (fun x => isLoc (scope.names.lookup x)) && scope.names.all (fun y => match y.2 with | .free => false | _ => true) && chkSs1 (chkS g 60 { N := N, nm := scope.names, df := true } 60) body fd.body
theorem scope_ok {g : Gt} {ps N : List Str} {body : List Stmt} {scope : Scope} {fd : Fd} (h : chkD g ps N body scope fd = true) : FnScope N ps scope := by
  simp only [chkD, Bool.and_eq_true, decide_eq_true_eq, Bool.not_eq_true'] at h
  obtain ⟨⟨⟨⟨⟨⟨⟨⟨⟨_, _⟩, h1⟩, h2⟩, h3⟩, h4⟩, h5⟩, h6⟩, h7⟩, _⟩ := h
  refine ⟨h3, h4, h5, h2, h1, fun x hx => ?_, fun y hy e => ?_⟩
  · have := List.all_eq_true.mp h6 x hx
    revert this
    cases scope.names.lookup x with
    | none => intro h; cases h
    | some q => cases q <;> intro h <;> first | exact .inl rfl | exact .inr rfl | cases h
  · have := List.all_eq_true.mp h7 y hy
    rw [e] at this
    cases this
/-- a law's module, checked -/
structure ModOk (g : Gt) (n : Nm) (G : Nat → D) (fs : Nat → Option Fd) (P : Program) (w : World) (K : PySem.W.Frag) (mg : Str → Option Value) : Prop where
  defs : ∀ f x np, g.defs[f]? = some (x, np) → ∃ ps N body scope fd, DefAt P K mg (n.fa f) x ps body scope ∧ ps.length = np ∧ fs f = some fd ∧ chkD g ps N body scope fd = true
  fglob : ∀ i x, g.globs[i]? = some x → ∃ v u, mg x = some u ∧ RelV v u ∧ ∀ (ρ : List Addr) (L : Addr → Prop) (H : Hp), RD { prog := P, w := w, K := K, fa := n.fa, ca := n.ca, fld := n.fld } ρ L H (G i) v
  fblt : ∀ x, x ∈ g.blts → mg x = none
  fcls : ∀ c x f m d, g.cls[c]? = some (x, f, m, d) → (∀ base, ClM P w K mg base (n.ca c) x f m d) ∧ ClF K (n.ca c) f
  fkit : ∀ y tb, (y, tb) ∈ g.kit → KitOk K mg n.ca y tb
theorem defs_ok {g : Gt} {n : Nm} {G : Nat → D} {fs : Nat → Option Fd} {P : Program} {w : World} {K : PySem.W.Frag} {mg : Str → Option Value} {base : Heap} (M : ModOk g n G fs P w K mg) :
    ∀ (k f : Nat) (x : Str) (np : Nat), g.defs[f]? = some (x, np) → DefOk { prog := P, w := w, K := K, fa := n.fa, ca := n.ca, fld := n.fld } mg base (Fn G fs k) (k + 2) f x np
  | 0, f, x, np, hf => by
    obtain ⟨ps, N, body, scope, fd, ⟨⟨oc, od, osl, name, qual, params, dV, kV, doc, pm, cdv, ct, an, lk, hcd, bd⟩, hmg, kp⟩, hl, _, _⟩ := M.defs f x np hf
    refine ⟨⟨_, ps, ⟨fun vs H Q E h => h.1.trans hl.symm, fun A outer s H args us vs Q E _ _ _ _ h => ?_⟩, hl, bd⟩, hmg, kp⟩
    obtain ⟨_, ρ, h0, ds, _, _, ww⟩ := h
    exact ww.elim
  | k + 1, f, x, np, hf => by
    obtain ⟨ps, N, body, scope, fd, ⟨⟨oc, od, osl, name, qual, params, dV, kV, doc, pm, cdv, ct, an, lk, hcd, bd⟩, hmg, kp⟩, hl, hfs, hc⟩ := M.defs f x np hf
    refine ⟨⟨_, ps, fn_of lk hcd (scope_ok hc) (fun vs H Q E h => h.1.trans hl.symm) (fun A outer s H vs Q E hr hsp => ?_), hl, bd⟩, hmg, kp⟩
    obtain ⟨hvl, ρ, h0, ds, R, r, ww⟩ := hsp
    have hc' := hc
    simp only [chkD, Bool.and_eq_true, decide_eq_true_eq, Bool.not_eq_true'] at hc'
    obtain ⟨⟨⟨⟨⟨⟨⟨⟨⟨hnp, hnn⟩, h1⟩, h2⟩, h3⟩, h4⟩, h5⟩, h6⟩, h7⟩, hb⟩ := hc'
    have o : XOk g { N := N, nm := scope.names, df := true } (cxOf (L2.CX P w) P w K mg base N qual scope (n.fa f) cdv A outer s H E) n G (Fn G fs k) (k + 2) (fun cls d _ H => E cls d H) := {
      hN := rfl
      nd := h2
      hnm := rfl
      kind := h3
      calm := rfl
      fn := fun _ _ => rfl
      tk := takes_of rfl rfl rfl rfl
      own := fun _ => passes_of rfl
      room := hr
      fdef := fun f x np e => defs_ok M k f x np e
      fglob := M.fglob
      fblt := M.fblt
      fcls := fun c x f m d e => ⟨(M.fcls c x f m d e).1 base, (M.fcls c x f m d e).2⟩
      fkit := M.fkit
      pos := Nat.le_add_left 2 k }
    refine ⟨_, ss1_ok (stm_ok o 60) hb, ρ, h0, ds.map some ++ List.replicate (fd.nn - fd.np) none, R, ?_, ?_⟩
    · refine ⟨?_, fun i d e => ?_⟩
      · have hld := r.length
        simp only [L2.start, List.length_append, List.length_map, List.length_replicate]
        rw [hnn, hnp]
        omega
      · have hld := r.length
        by_cases hi : i < ds.length
        · rw [List.getElem?_append_left (by simpa using hi), List.getElem?_map] at e
          cases ed : ds[i]? with
          | none => rw [ed] at e; cases e
          | some d' =>
            rw [ed] at e
            cases e
            obtain ⟨v, ev, q⟩ := r.get ed
            refine ⟨v, ?_, q⟩
            unfold L2.start
            rw [List.getElem?_append_left (by rw [List.length_map]; omega), List.getElem?_map, ev]
            rfl
        · rw [List.getElem?_append_right (by simpa using hi), List.getElem?_replicate] at e
          split at e <;> cases e
    · have w1 : Wn { prog := P, w := w, K := K, fa := n.fa, ca := n.ca, fld := n.fld } (fun cls d x H' => E cls d H') [] ρ h0 H (rD { prog := P, w := w, K := K, fa := n.fa, ca := n.ca, fld := n.fld }) (match fs f with | some fd => runFd G (Fn G fs k) fd ds h0 | none => .no "def") Q := ww
      rw [hfs] at w1
      have w2 : Wn { prog := P, w := w, K := K, fa := n.fa, ca := n.ca, fld := n.fld } (fun cls d x H' => E cls d H') [] ρ h0 H (rD { prog := P, w := w, K := K, fa := n.fa, ca := n.ca, fld := n.fld }) (runFd G (Fn G fs k) fd ds h0) Q := w1
      unfold runFd at w2
      split at w2
      · cases e : execs G (Fn G fs k) fd.body (ds.map some ++ List.replicate (fd.nn - fd.np) none) h0 with
        | nx _ h' => rw [e] at w2; exact fun H' ρ' σ' g1 R1 _ => w2 .non H' ρ' g1 R1 (by simp only [rD, RD, RP])
        | rt d h' => rw [e] at w2; exact fun v H' ρ' g1 R1 r1 => w2 v H' ρ' g1 R1 r1
        | ex m d _ h' => rw [e] at w2; exact fun H' ρ' σ' v dd g1 R1 _ r1 e1 => w2 H' ρ' v dd g1 R1 r1 e1
        | bk _ _ => rw [e] at w2; exact w2.elim
        | ct _ _ => rw [e] at w2; exact w2.elim
        | no _ => rw [e] at w2; exact w2.elim
      · exact w2.elim
end Pd
end
section
/-! PdC4: one def of a checked module, its object told by the head. -/
namespace Pd
open PySem PySem.Spec PyProof.Rows L2
theorem def_okD {g : Gt} {n : Nm} {G : Nat → D} {fs : Nat → Option Fd} {P : Program} {w : World} {K : PySem.W.Frag} {mg : Str → Option Value} {base : Heap} (M : ModOk g n G fs P w K mg) (k f : Nat) {np : Nat} {nm qual : Str} {params : Arguments} {body : List Stmt} {scope : Scope} {fd0 : FuncData} {ps N : List Str} {fd : Fd}
    (F0 : FunD K nm qual params body scope [] [] (n.fa f) fd0) (hl : ps.length = np) (hfs : fs f = some fd) (hc : chkD g ps N body scope fd = true) :
    FnOk P w K mg base (L2.CX P w) (k + 3) (n.fa f) fd0 ps (spF { prog := P, w := w, K := K, fa := n.fa, ca := n.ca, fld := n.fld } (Fn G fs (k + 1)) f np) := by
  obtain ⟨⟨oc, od, dV, kV, doc, pm, an, cdv, ct, osl, rfl, lk, hcd, _, _⟩, kp⟩ := F0
  refine fn_of lk hcd (scope_ok hc) (fun vs H Q E h => h.1.trans hl.symm) (fun A outer s H vs Q E hr hsp => ?_)
  obtain ⟨hvl, ρ, h0, ds, R, r, ww⟩ := hsp
  have hc' := hc
  simp only [chkD, Bool.and_eq_true, decide_eq_true_eq, Bool.not_eq_true'] at hc'
  obtain ⟨⟨⟨⟨⟨⟨⟨⟨⟨hnp, hnn⟩, h1⟩, h2⟩, h3⟩, h4⟩, h5⟩, h6⟩, h7⟩, hb⟩ := hc'
  have o : XOk g { N := N, nm := scope.names, df := true } (cxOf (L2.CX P w) P w K mg base N qual scope (n.fa f) cdv A outer s H E) n G (Fn G fs k) (k + 2) (fun cls d _ H => E cls d H) := {
    hN := rfl
    nd := h2
    hnm := rfl
    kind := h3
    calm := rfl
    fn := fun _ _ => rfl
    tk := takes_of rfl rfl rfl rfl
    own := fun _ => passes_of rfl
    room := hr
    fdef := fun f x np e => defs_ok M k f x np e
    fglob := M.fglob
    fblt := M.fblt
    fcls := fun c x f m d e => ⟨(M.fcls c x f m d e).1 base, (M.fcls c x f m d e).2⟩
    fkit := M.fkit
    pos := Nat.le_add_left 2 k }
  refine ⟨_, ss1_ok (stm_ok o 60) hb, ρ, h0, ds.map some ++ List.replicate (fd.nn - fd.np) none, R, ?_, ?_⟩
  · refine ⟨?_, fun i d e => ?_⟩
    · have hld := r.length
      simp only [L2.start, List.length_append, List.length_map, List.length_replicate]
      rw [hnn, hnp]
      omega
    · have hld := r.length
      by_cases hi : i < ds.length
      · rw [List.getElem?_append_left (by simpa using hi), List.getElem?_map] at e
        cases ed : ds[i]? with
        | none => rw [ed] at e; cases e
        | some d' =>
          rw [ed] at e
          cases e
          obtain ⟨v, ev, q⟩ := r.get ed
          refine ⟨v, ?_, q⟩
          unfold L2.start
          rw [List.getElem?_append_left (by rw [List.length_map]; omega), List.getElem?_map, ev]
          rfl
      · rw [List.getElem?_append_right (by simpa using hi), List.getElem?_replicate] at e
        split at e <;> cases e
  · have w1 : Wn { prog := P, w := w, K := K, fa := n.fa, ca := n.ca, fld := n.fld } (fun cls d x H' => E cls d H') [] ρ h0 H (rD { prog := P, w := w, K := K, fa := n.fa, ca := n.ca, fld := n.fld }) (match fs f with | some fd => runFd G (Fn G fs k) fd ds h0 | none => .no "def") Q := ww
    rw [hfs] at w1
    have w2 : Wn { prog := P, w := w, K := K, fa := n.fa, ca := n.ca, fld := n.fld } (fun cls d x H' => E cls d H') [] ρ h0 H (rD { prog := P, w := w, K := K, fa := n.fa, ca := n.ca, fld := n.fld }) (runFd G (Fn G fs k) fd ds h0) Q := w1
    unfold runFd at w2
    split at w2
    · cases e : execs G (Fn G fs k) fd.body (ds.map some ++ List.replicate (fd.nn - fd.np) none) h0 with
      | nx _ h' => rw [e] at w2; exact fun H' ρ' σ' g1 R1 _ => w2 .non H' ρ' g1 R1 (by simp only [rD, RD, RP])
      | rt d h' => rw [e] at w2; exact fun v H' ρ' g1 R1 r1 => w2 v H' ρ' g1 R1 r1
      | ex m d _ h' => rw [e] at w2; exact fun H' ρ' σ' v dd g1 R1 _ r1 e1 => w2 H' ρ' v dd g1 R1 r1 e1
      | bk _ _ => rw [e] at w2; exact w2.elim
      | ct _ _ => rw [e] at w2; exact w2.elim
      | no _ => rw [e] at w2; exact w2.elim
    · exact w2.elim
end Pd
end
section
/-! PdH: a law's head for the layer: own error classes from looks at the written part. -/
namespace Pd
open PySem PySem.Spec PyProof.Rows L2
inductive Bs where | ve | le | oe
def Bs.B : Bs → String
  | .ve => "ValueError"
  | .le => "LookupError"
  | .oe => "OverflowError"
def Bs.new : Bs → String
  | .ve => "ValueError.__new__"
  | .le => "LookupError.__new__"
  | .oe => "OverflowError.__new__"
def Bs.ini : Bs → String
  | .ve => "ValueError.__init__"
  | .le => "LookupError.__init__"
  | .oe => "OverflowError.__init__"
def Bs.tail : Bs → List Value
  | .ve => [.type "ValueError", .type "Exception", .type "BaseException", .type "object"]
  | .le => [.type "LookupError", .type "Exception", .type "BaseException", .type "object"]
  | .oe => [.type "OverflowError", .type "ArithmeticError", .type "Exception", .type "BaseException", .type "object"]
def Bs.nm : Bs → Str
  | .ve => "ValueError"
  | .le => "LookupError"
  | .oe => "OverflowError"
theorem Bs.facts : ∀ b : Bs, ExcBaseFacts b.B b.new b.ini b.tail
  | .ve => PySem.F.excBase_ValueError
  | .le => PySem.F.excBase_LookupError
  | .oe => PySem.F.excBase_OverflowError
theorem Bs.tl : ∀ b : Bs, TailX b.tail
  | .ve => tail_VE
  | .le => tail_LE
  | .oe => tail_OE
theorem Bs.boot : ∀ b : Bs, bootBuiltins b.nm = some (.type b.B)
  | .ve => by kernel_rfl
  | .le => by kernel_rfl
  | .oe => by kernel_rfl
theorem Bs.nn : ∀ b : Bs, b.nm ≠ "__name__" ∧ (b.nm == ("__debug__" : Str)) = false
  | .ve => by decide
  | .le => by decide
  | .oe => by decide
theorem Bs.ty : ∀ b : Bs, typeOf (.type b.B) = pure (.type "type")
  | .ve => by kernel_rfl
  | .le => by kernel_rfl
  | .oe => by kernel_rfl
theorem Bs.stub : ∀ b : Bs, Manifest.isStub b.B = false
  | .ve => by decide +kernel
  | .le => by decide +kernel
  | .oe => by decide +kernel
theorem Bs.handed : ∀ b : Bs, PySem.W.handedIn (.builtin b.ini) = true
  | .ve => by decide +kernel
  | .le => by decide +kernel
  | .oe => by decide +kernel
section
variable {K : PySem.W.Frag} {C R : Addr} {b : Bs}
def oexB (K : PySem.W.Frag) (C : Addr) (b : Bs) : Bool := match K.lookup C with
  | some ⟨.type "type", _, .cls cd, sl⟩ => (match cd.mro, sl.toList with
    | .ref C' :: bm, [_, _, _, _, some (.builtin n), _] => C' == C && n == b.new && !cd.hasDel && cd.hasDict && refsT b.tail bm
    | _, _ => false)
  | _ => false
theorem oexB_ok (q : oexB K C b = true) (sa : PySem.W.findIn K (.ref C) "__setattr__" = some (some (.builtin "object.__setattr__"))) (kC : PySem.W.keepIn K (.ref C) = true) : OexT K C b.B b.new b.ini b.tail := by
  refine ⟨b.facts, b.tl, ?_, sa, kC⟩
  unfold oexB at q
  split at q
  · rename_i dd cd sl ho
    split at q
    · rename_i C' bm k0 k1 k2 k3 n k5 hm hs
      simp only [Bool.and_eq_true, beq_iff_eq, Bool.not_eq_true'] at q
      obtain ⟨⟨⟨⟨rfl, rfl⟩, hdel⟩, hdc⟩, ht⟩ := q
      obtain ⟨nm, bs, mro, ns, qn, hd, sn, sub, ab, col, del⟩ := cd
      dsimp only at hm hdel hdc
      subst hm hdel hdc
      have hsl : sl = #[k0, k1, k2, k3, some (.builtin b.new), k5] := by
        obtain ⟨l⟩ := sl
        simp only at hs
        rw [hs]
      subst hsl
      exact ⟨nm, qn, ns, bs, bm, sn, sub, ab, col, dd, k0, k1, k2, k3, k5, ho, ht⟩
    · cases q
  · cases q
def fcB : Option PySem.W.CFound → String → Bool
  | some (.val (.builtin i)), s => i == s
  | _, _ => false
theorem fcB_ok {o : Option PySem.W.CFound} {s : String} (h : fcB o s = true) : o = some (.val (.builtin s)) := by
  unfold fcB at h
  split at h
  · rw [beq_iff_eq.mp h]
  · cases h
/-- an own error class: name, field, text, its base's name (own: the base is an own class), whether the field has a default -/
structure ClE where
  x : Str
  f : Str
  m : Str
  base : Str
  own : Bool
  dv : Bool
  b : Bs
def excCB (K : PySem.W.Frag) (C : Addr) : Bool := He.eqO (PySem.W.findIn K (.ref C) "__class__") (some (some (.builtin "object.__class__"))) && decide (PySem.W.specialIn K (.builtin "object.__class__") "__get__" = some (some (.builtin "getset_descriptor.__get__"))) &&
  decide (PySem.W.takesIn K (.builtin "object.__class__") = some true) && decide (PySem.W.mroIn K C (.type "object") = some true)
def baseB (K : PySem.W.Frag) (e : ClE) : Bool := match e.own with
  | true => He.eqO (PySem.W.nsIn K mainGlobals e.base) (some (some (.ref (He.ga K e.base)))) && decide (PySem.W.specialIn K (.ref (He.ga K e.base)) "__getattribute__" = some (some (.builtin "type.__getattribute__"))) && decide (PySem.W.typeIn K (.ref (He.ga K e.base)) = some (.type "type")) &&
    PySem.W.readsIn K (He.ga K e.base) (.type "type") && fcB (PySem.W.findCls K (.ref (He.ga K e.base)) (.type "type") "__init__") e.b.ini && !(e.base == ("__debug__" : Str))
  | false => He.eqO (PySem.W.nsIn K mainGlobals e.base) (some none) && fcB (PySem.W.findCls K (.type e.b.B) (.type "type") "__init__") e.b.ini && decide (e.base = e.b.nm)
/-- all that is looked at of it -/
def clB (K : PySem.W.Frag) (e : ClE) : Bool := let C := He.ga K e.x
  oexB K C e.b && He.eqO (PySem.W.findIn K (.ref C) "__setattr__") (some (some (.builtin "object.__setattr__"))) && PySem.W.keepIn K (.ref C) && L2.xfB K C && He.eqO (PySem.W.findIn K (.ref C) e.f) (some none) &&
  He.eqO (PySem.W.findIn K (.ref C) "__str__") (some (some (.builtin "BaseException.__str__"))) && excCB K C && He.eqO (PySem.W.findIn K (.ref C) "__init__") (some (some (.ref (He.ma K C "__init__")))) &&
  decide (PySem.W.typeIn K (.ref (He.ma K C "__init__")) = some (.type "function")) && He.eqO (PySem.W.nsIn K mainGlobals e.x) (some (some (.ref C))) && baseB K e
structure ClOk (K : PySem.W.Frag) (e : ClE) : Prop where
  T : OexT K (He.ga K e.x) e.b.B e.b.new e.b.ini e.b.tail
  F : ClF K (He.ga K e.x) e.f
  iC : PySem.W.findIn K (.ref (He.ga K e.x)) "__init__" = some (some (.ref (He.ma K (He.ga K e.x) "__init__")))
  tI : PySem.W.typeIn K (.ref (He.ma K (He.ga K e.x) "__init__")) = some (.type "function")
  gl : PySem.W.nsIn K mainGlobals e.x = some (some (.ref (He.ga K e.x)))
  bs : baseB K e = true
theorem clB_ok {e : ClE} (h : clB K e = true) : ClOk K e := by
  simp only [clB, excCB, Bool.and_eq_true] at h
  obtain ⟨⟨⟨⟨⟨⟨⟨⟨⟨⟨h1, h2⟩, h3⟩, h4⟩, h5⟩, h6⟩, ⟨⟨h7, h8⟩, h9⟩, h10⟩, h11⟩, h12⟩, h13⟩, h14⟩ := h
  have x := L2.xfB_ok h4
  exact ⟨oexB_ok h1 (He.eqO_ok h2) h3, ⟨x, ⟨x.ga, x.gg, x.exC, x.hdC, He.eqO_ok h7, of_decide_eq_true h8, of_decide_eq_true h9, of_decide_eq_true h10⟩, He.eqO_ok h5, He.eqO_ok h6⟩, He.eqO_ok h11, of_decide_eq_true h12, He.eqO_ok h13, h14⟩
/-! ### its __init__ -/
variable {P : Program} {w : World} {mg : Str → Option Value} {base h : Heap} {e : ClE} {nm qual : Str} {params : Arguments} {body : List Stmt} {scope : Scope} {dvs : List V} {kws : List (Str × V)} {fI : Addr} {fd : FuncData}
theorem init_ok {q1 q2 q3 q4 q5 q6 q7 p1 p2 pos : Pos} {k1 : Nat} (O : ClOk K e) (X : K.In h) (G : h.Ns mainGlobals mg) (Fd : FunD K nm qual params body scope dvs kws fI fd)
    (hbody : body = [.Expr (.Call (.Attribute (.Name e.base p1) "__init__" p2) [.Name "self" q1, .Constant (.str e.m) k1 q2] [] pos) q5, .Assign [.Attribute (.Name "self" q3) e.f q6] (.Name e.f q4) q7])
    (S : FnScope ["self", e.f] ["self", e.f] scope) (hs : scope.names.lookup ("self" : Str) = some .local) (hf : scope.names.lookup e.f = some .local) (hg : scope.names.lookup e.base = some .globalImplicit)
    (hd : (e.f == ("__debug__" : Str)) = false ∧ (e.f == ("__classdict__" : Str)) = false)
    (hc : ∀ env : Env, ∃ pl : Sem Bool, eval (.Call (.Attribute (.Name e.base p1) "__init__" p2) [.Name "self" q1, .Constant (.str e.m) k1 q2] [] pos) env = (do
      let ov ← eval (.Name e.base p1) env
      standAt p2.atName
      let (f, first) ← holding [ov] (getMethod ov "__init__" pl)
      callWith pos f first (backTo pos (starEach [.Name "self" q1, .Constant (.str e.m) k1 q2] env)) (backToKw pos (keywordEach [] env)))) :
    FnOk P w K mg base (L2.CX P w) 1 fI fd ["self", e.f] (spInit K e.b.B e.b.new e.b.ini e.b.tail (He.ga K e.x) e.m e.f) := by
  refine Fd.ok (k := 0) S (fun vs H Q E h => ?_) fun cdv A outer s H vs Q E hr hsp => ?_
  · obtain ⟨a, y, t0, rfl, _⟩ := h
    rfl
  · have h0 : ∀ q, PE (cxOf (L2.CX P w) P w K mg base ["self", e.f] qual scope fI cdv A outer s H E) (.Name "self" q) (tVar 0) := fun q => pe_var rfl (.inl hs)
    have h1 : ∀ q, PE (cxOf (L2.CX P w) P w K mg base ["self", e.f] qual scope fI cdv A outer s H E) (.Name e.f q) (tVar 1) := fun q => pe_var rfl (.inl hf) hd.1 hd.2
    have hb : ∀ (ta : TA), PA (cxOf (L2.CX P w) P w K mg base ["self", e.f] qual scope fI cdv A outer s H E) [.Name "self" q1, .Constant (.str e.m) k1 q2] ta → PE (cxOf (L2.CX P w) P w K mg base ["self", e.f] qual scope fI cdv A outer s H E) (.Call (.Attribute (.Name e.base p1) "__init__" p2) [.Name "self" q1, .Constant (.str e.m) k1 q2] [] pos) (tInitT K e.b.B e.b.new e.b.ini e.b.tail ta) := fun ta ha => by
      have hB := O.bs
      obtain ⟨pl, hc⟩ := hc (cxOf (L2.CX P w) P w K mg base ["self", e.f] qual scope fI cdv A outer s H E).env
      unfold baseB at hB
      split at hB
      · simp only [Bool.and_eq_true, Bool.not_eq_true'] at hB
        obtain ⟨⟨⟨⟨⟨g1, g2⟩, g3⟩, g4⟩, g5⟩, g6⟩ := hB
        exact pe_initO hg (PySem.W.mg_of X G (He.eqO_ok g1)) g6 (of_decide_eq_true g2) (of_decide_eq_true g3) g4 (fcB_ok g5) e.b.handed ha hc rfl rfl
      · simp only [Bool.and_eq_true] at hB
        obtain ⟨⟨g1, g2⟩, g3⟩ := hB
        have ex := of_decide_eq_true g3
        exact pe_initB hg (PySem.W.mg_none_of X G (He.eqO_ok g1)) (by rw [ex]; exact e.b.boot) (by rw [ex]; exact e.b.nn.1) (by rw [ex]; exact e.b.nn.2) e.b.ty e.b.stub (fcB_ok g2) e.b.handed ha hc rfl rfl
    obtain ⟨t, ht, hk⟩ := init_body (X := cxOf (L2.CX P w) P w K mg base ["self", e.f] qual scope fI cdv A outer s H E) (q5 := q5) (q8 := q5) O.T O.F.hno hb (h0 q1) (h0 q3) (h1 q4) rfl hbody
    exact ⟨t, ht, hk vs H Q E rfl hsp⟩
end
end Pd
end
section
/-! PdH2: a law's head for the layer: the module's facts put together. -/
namespace Pd
open PySem PySem.Spec PyProof.Rows L2
section
variable {K : PySem.W.Frag} {P : Program} {w : World} {mg : Str → Option Value} {h : Heap} {e : ClE} {nm qual : Str} {params : Arguments} {body : List Stmt} {scope : Scope} {fI : Addr} {fd : FuncData} {q1 q2 q3 q4 q5 q6 q7 p1 p2 pos : Pos} {k1 : Nat}
/-- what is said of an __init__'s text (each by rfl) -/
structure InitT (e : ClE) (nm qual : Str) (params : Arguments) (body : List Stmt) (scope : Scope) : Prop where
  bd : ∃ (q1 q2 q3 q4 q5 q6 q7 p1 p2 pos : Pos) (k1 : Nat), body = [.Expr (.Call (.Attribute (.Name e.base p1) "__init__" p2) [.Name "self" q1, .Constant (.str e.m) k1 q2] [] pos) q5, .Assign [.Attribute (.Name "self" q3) e.f q6] (.Name e.f q4) q7] ∧
    ∀ env : Env, ∃ pl : Sem Bool, eval (.Call (.Attribute (.Name e.base p1) "__init__" p2) [.Name "self" q1, .Constant (.str e.m) k1 q2] [] pos) env = (do
      let ov ← eval (.Name e.base p1) env
      standAt p2.atName
      let (f, first) ← holding [ov] (getMethod ov "__init__" pl)
      callWith pos f first (backTo pos (starEach [.Name "self" q1, .Constant (.str e.m) k1 q2] env)) (backToKw pos (keywordEach [] env)))
  sc : FnScope ["self", e.f] ["self", e.f] scope
  hs : scope.names.lookup ("self" : Str) = some .local
  hf : scope.names.lookup e.f = some .local
  hg : scope.names.lookup e.base = some .globalImplicit
  hd : (e.f == ("__debug__" : Str)) = false ∧ (e.f == ("__classdict__" : Str)) = false
  b1 : e.dv = true → ∀ (T : Addr) (kV doc pm : Value) (an : Option Addr) (cdv ct a u : Value), ∃ k, bindArgs (PySem.W.fnOf nm qual params body scope (.ref T) kV doc pm an cdv ct) ⟨[a, u], []⟩ = seqItems? (.ref T) >>= k ∧ k (some #[.none]) = pure ([("self" : Str), e.f].zip [a, u])
  b5 : e.dv = false → ∀ (kV doc pm : Value) (an : Option Addr) (cdv ct a u : Value), bindArgs (PySem.W.fnOf nm qual params body scope .none kV doc pm an cdv ct) ⟨[a, u], []⟩ = pure ([("self" : Str), e.f].zip [a, u])
  b2 : e.dv = true → ∀ (T : Addr) (kV doc pm : Value) (an : Option Addr) (cdv ct a u : Value), ∃ k, bindArgs (PySem.W.fnOf nm qual params body scope (.ref T) kV doc pm an cdv ct) ⟨[a], [(e.f, u)]⟩ = seqItems? (.ref T) >>= k ∧ k (some #[.none]) = pure ([("self" : Str), e.f].zip [a, u])
  b4 : e.dv = false → ∀ (kV doc pm : Value) (an : Option Addr) (cdv ct a u : Value), bindArgs (PySem.W.fnOf nm qual params body scope .none kV doc pm an cdv ct) ⟨[a], [(e.f, u)]⟩ = pure ([("self" : Str), e.f].zip [a, u])
  b3 : e.dv = true → ∀ (T : Addr) (kV doc pm : Value) (an : Option Addr) (cdv ct a : Value), ∃ k, bindArgs (PySem.W.fnOf nm qual params body scope (.ref T) kV doc pm an cdv ct) ⟨[a], []⟩ = seqItems? (.ref T) >>= k ∧ k (some #[.none]) = pure ([("self" : Str), e.f].zip [a, .none])
theorem clM_ok (O : ClOk K e) (X : K.In h) (G : h.Ns mainGlobals mg) (Fd : FunD K nm qual params body scope (if e.dv then [.non] else []) [] (He.ma K (He.ga K e.x) "__init__") fd) (I : InitT e nm qual params body scope) (base : Heap) : ClM P w K mg base (He.ga K e.x) e.x e.f e.m e.dv := by
  obtain ⟨⟨q1, q2, q3, q4, q5, q6, q7, p1, p2, pos, k1, hb, hc⟩, sc, hs, hf, hg, hd, b1, b5, b2, b4, b3⟩ := I
  refine ⟨PySem.W.mg_of X G O.gl, O.T.kC, e.b.B, e.b.new, e.b.ini, e.b.tail, _, fd, ["self", e.f], O.T, O.iC, O.tI, init_ok O X G Fd hb sc hs hf hg hd hc, ?_⟩
  obtain ⟨oc, od, dV, kV, doc, pm, an, cdv, ct, osl, rfl, lk, hcd, hD, hK⟩ := Fd.ex
  intro s ks a u
  cases hdv : e.dv with
  | false =>
    rw [if_neg (by rw [hdv]; decide)] at hD
    rcases hD with ⟨_, rfl⟩ | ⟨z, _⟩
    · exact ⟨.of_eq (b5 hdv _ _ _ _ _ _ _ _), .of_eq (b4 hdv _ _ _ _ _ _ _ _), fun z => nomatch z⟩
    · exact absurd rfl z
  | true =>
    rw [if_pos hdv] at hD
    rcases hD with ⟨z, _⟩ | ⟨_, T, o, its, m, rfl, lT, oT, rT⟩
    · cases z
    · cases rT with
      | cons r1 rr =>
        cases rr
        cases r1
        refine ⟨?_, ?_, fun _ => ?_⟩
        · obtain ⟨k, e1, e2⟩ := b1 hdv T kV doc pm an cdv ct (.ref a) u
          exact BindsTo.of_looks fun M => by
            rw [e1]
            exact looks_items ks lT oT (.of_pure e2)
        · obtain ⟨k, e1, e2⟩ := b2 hdv T kV doc pm an cdv ct (.ref a) u
          exact BindsTo.of_looks fun M => by
            rw [e1]
            exact looks_items ks lT oT (.of_pure e2)
        · obtain ⟨k, e1, e2⟩ := b3 hdv T kV doc pm an cdv ct (.ref a)
          exact BindsTo.of_looks fun M => by
            rw [e1]
            exact looks_items ks lT oT (.of_pure e2)
/-! ### the module -/
def cname (g : Gt) (c : Nat) : Str := match g.cls[c]? with
  | some q => q.1
  | none => Str.empty
def dname (g : Gt) (f : Nat) : Str := match g.defs[f]? with
  | some q => q.1
  | none => Str.empty
def nmOf (g : Gt) (K : PySem.W.Frag) : Nm := { fa := fun f => He.ga K (dname g f), ca := fun c => He.ga K (cname g c), fld := fun c => match g.cls[c]? with
  | some q => q.2.1
  | none => Str.empty }
def kitB (g : Gt) (K : PySem.W.Frag) (q : Str × List (Nat × Bool)) : Bool := match PySem.W.nsIn K mainGlobals q.1 with
  | some (some (.ref a)) => q.2.all fun z => decide (PySem.W.kitOne K (.ref (He.ga K (cname g z.1))) (.ref a) = some z.2)
  | some none => (match bootBuiltins q.1 with
    | some (.type t) => q.2.all fun z => decide (PySem.W.kitOne K (.ref (He.ga K (cname g z.1))) (.type t) = some z.2)
    | _ => false)
  | _ => false
theorem kitB_ok {g : Gt} {y : Str} {tb : List (Nat × Bool)} (X : K.In h) (G : h.Ns mainGlobals mg) (q : kitB g K (y, tb) = true) : KitOk K mg (nmOf g K).ca y tb := by
  unfold kitB at q
  split at q
  · rename_i a e
    exact ⟨.ref a, .ref a, .inl (PySem.W.mg_of X G e), rfl, fun u z => z, fun c b l => of_decide_eq_true (List.all_eq_true.mp q _ (lookup_mem l))⟩
  · rename_i e
    split at q
    · rename_i t e2
      exact ⟨.type t, .ty t, .inr ⟨PySem.W.mg_none_of X G e, e2⟩, rfl, fun u z => z, fun c b l => of_decide_eq_true (List.all_eq_true.mp q _ (lookup_mem l))⟩
    · cases q
  · cases q
/-- all that the head looks at -/
def hdB (g : Gt) (es : List ClE) (K : PySem.W.Frag) : Bool := (g.defs.all fun q => He.eqO (PySem.W.nsIn K mainGlobals q.1) (some (some (.ref (He.ga K q.1))))) && (g.blts.all fun x => He.eqO (PySem.W.nsIn K mainGlobals x) (some none)) && es.all (clB K) && g.kit.all (kitB g K)
/-- a def of the head's list, told of -/
theorem defAt_of {d : He.DefD} {x : Str} {ps : List Str} (X : K.In h) (G : h.Ns mainGlobals mg) (F : ∃ fd, FunD K d.name d.qual d.params d.body d.scope [] [] (He.ga K x) fd) (gl : PySem.W.nsIn K mainGlobals x = some (some (.ref (He.ga K x))))
    (hb : ∀ (kV doc pm : Value) (an : Option Addr) (cdv ct : Value) (us : List Value), us.length = ps.length → bindArgs (PySem.W.fnOf d.name d.qual d.params d.body d.scope .none kV doc pm an cdv ct) ⟨us, []⟩ = pure (ps.zip us)) :
    DefAt P K mg (He.ga K x) x ps d.body d.scope := by
  obtain ⟨fd, F⟩ := F
  have bd := F.bindsN hb
  obtain ⟨⟨oc, od, dV, kV, doc, pm, an, cdv, ct, osl, rfl, lk, hcd, _, _⟩, kp⟩ := F
  exact ⟨⟨oc, od, osl, d.name, d.qual, d.params, dV, kV, doc, pm, cdv, ct, an, lk, hcd, bd⟩, PySem.W.mg_of X G gl, kp⟩
theorem modOk_of {g : Gt} {es : List ClE} {G' : Nat → D} {fs : Nat → Option Fd} (X : K.In h) (G : h.Ns mainGlobals mg) (hes : g.cls = es.map fun e => (e.x, e.f, e.m, e.dv)) (hgl : g.globs = []) (hB : hdB g es K = true)
    (hdefs : ∀ f x np, g.defs[f]? = some (x, np) → ∃ ps N body scope fd, DefAt P K mg (He.ga K x) x ps body scope ∧ ps.length = np ∧ fs f = some fd ∧ chkD g ps N body scope fd = true)
    (hcl : ∀ (c : Nat) (e : ClE), es[c]? = some e → ∀ base, ClM P w K mg base (He.ga K e.x) e.x e.f e.m e.dv) : ModOk g (nmOf g K) G' fs P w K mg := by
  simp only [hdB, Bool.and_eq_true] at hB
  obtain ⟨⟨⟨h1, h2⟩, h3⟩, h4⟩ := hB
  refine ⟨fun f x np e => ?_, fun i x e => ?_, fun x hx => PySem.W.mg_none_of X G (He.eqO_ok (List.all_eq_true.mp h2 x hx)), fun c x f m d e => ?_, fun y tb hy => kitB_ok X G (List.all_eq_true.mp h4 _ hy)⟩
  · have en : (nmOf g K).fa f = He.ga K x := by
      show He.ga K (dname g f) = _
      unfold dname
      rw [e]
    rw [en]
    exact hdefs f x np e
  · rw [hgl] at e; cases e
  · have en : (nmOf g K).ca c = He.ga K x := by
      show He.ga K (cname g c) = _
      unfold cname
      rw [e]
    rw [en]
    rw [hes, List.getElem?_map] at e
    cases ec : es[c]? with
    | none => rw [ec] at e; cases e
    | some e' =>
      rw [ec] at e
      simp only [Option.map_some, Option.some.injEq, Prod.mk.injEq] at e
      obtain ⟨rfl, rfl, rfl, rfl⟩ := e
      exact ⟨hcl c e' ec, (clB_ok (List.all_eq_true.mp h3 e' (List.mem_of_getElem? ec))).F⟩
/-! ### the Hook -/
def obsP (ok : PySem.W.Frag → Bool) (fn : List He.DefD) (K : PySem.W.Frag) : He.AlD := (ok K && fn.all fun d => d.ok K, fn.map fun d => He.fnW K d.at_)
def SaysP (ok : PySem.W.Frag → Bool) (fn : List He.DefD) (K : PySem.W.Frag) : Prop := obsP ok fn K = He.valD fn
def asHd (g : Addr → Option Obj) : Nat → List Addr
  | 0 => [mainGlobals, cStatics]
  | n + 1 => He.growD g (asHd g n)
def obsPG (n : Nat) (ok : PySem.W.Frag → Bool) (fn : List He.DefD) (g : Addr → Option Obj) : He.AlD := obsP ok fn (He.frG g (asHd g n))
def hookP (n : Nat) (ok : PySem.W.Frag → Bool) (fn : List He.DefD) : PySem.W.Hook where
  α := He.AlD
  obs := fun s => obsPG n ok fn s.heap.get?
  val := fun _ => He.valD fn
  says := fun _ h => ∃ K : PySem.W.Frag, K.In h ∧ SaysP ok fn K
  of := fun _ _ e => ⟨_, He.frG_in, e⟩
  keeps := fun _ _ _ ⟨K, hK, c⟩ k => ⟨K, PySem.W.Frag.In.keeps hK k, c⟩
theorem obsPG_eq {n : Nat} {ok : PySem.W.Frag → Bool} {fn : List He.DefD} {g : Addr → Option Obj} {s : Shared} (h : ∀ a, g a = s.heap.get? a) : obsPG n ok fn g = (hookP n ok fn).obs s := by
  have e : g = s.heap.get? := funext h
  rw [e] <;> rfl
theorem SaysP.ok {ok : PySem.W.Frag → Bool} {fn : List He.DefD} (c : SaysP ok fn K) : ok K = true :=
  (He.ba (show (ok K && fn.all fun d => d.ok K) = true from congrArg (fun z : He.AlD => z.1) c)).1
theorem SaysP.def_ {ok : PySem.W.Frag → Bool} {fn : List He.DefD} (c : SaysP ok fn K) (i : Nat) {d : He.DefD} (h : fn[i]? = some d) : ∃ fd, FunD K d.name d.qual d.params d.body d.scope (d.dvs K) (d.kws K) (He.fAd K d.at_) fd := by
  have c2 := (He.ba (show (ok K && fn.all fun d => d.ok K) = true from congrArg (fun z : He.AlD => z.1) c)).2
  have e : fn.map (fun d => He.fnW K d.at_) = fn.map He.DefD.val := congrArg (fun z : He.AlD => z.2) c
  have e2 : (fn.map fun d => He.fnW K d.at_)[i]? = (fn.map He.DefD.val)[i]? := by rw [e]
  rw [List.getElem?_map, List.getElem?_map, h] at e2
  exact He.DefD.funD (Option.some.inj e2) (List.all_eq_true.mp c2 d (List.mem_of_getElem? h))
end
end Pd
end
section
namespace K99
open PySem Pd
/-- 0 _law_mixed(cell, k, number) -/
def fd_law_mixed : Fd := { np := 2, nn := 3, body := [
    .asg (.v 2) (.bin .add (.bin .add (.bin .mod (.v 0) (.sub (.lst false [.k (.int (1000000007)), .k (.int (998244353)), .k (.int (2147483629)), .k (.int (1000000009))]) (.bin .mod (.v 1) (.k (.int (4)))))) (.bin .mul (.k (.int (7919))) (.v 1))) (.k (.int (13)))),
    .ret (.bin .mod (.bin .mul (.bin .mod (.bin .mul (.v 2) (.v 2)) (.k (.int (2147483647)))) (.k (.int (48271)))) (.k (.int (2147483647))))] }
/-- 1 _law_draw(cell, k) -/
def fd_law_draw : Fd := { np := 2, nn := 2, body := [
    .ret (.dd true false [.k (.str ⟨#[108, 101, 102, 116]⟩), .ite (.cmp .ge (.v 0) (.bin .pow (.k (.int (10))) (.k (.int (18))))) (.v 0) (.k (.int (0))), .k (.str ⟨#[99, 101, 108, 108]⟩), .v 0, .k (.str ⟨#[116, 117, 114, 110, 115]⟩), .bin .mul (.k (.int (1000))) (.v 1)])] }
/-- 2 _law_digit(state, below, found, j) -/
def fd_law_digit : Fd := { np := 2, nn := 4, body := [
    .ite (.cmp .eq (.sub (.v 0) (.k (.str ⟨#[108, 101, 102, 116]⟩))) (.k (.int (0)))) [.for (.v 3) .range [.k (.int (4))] [.put (.v 0) (.k (.str ⟨#[116, 117, 114, 110, 115]⟩)) (.bin .add (.sub (.v 0) (.k (.str ⟨#[116, 117, 114, 110, 115]⟩))) (.k (.int (1)))), .put (.v 0) (.k (.str ⟨#[108, 101, 102, 116]⟩)) (.bin .add (.bin .mul (.sub (.v 0) (.k (.str ⟨#[108, 101, 102, 116]⟩))) (.k (.int (2147483647)))) (.call 0 [.sub (.v 0) (.k (.str ⟨#[99, 101, 108, 108]⟩)), .sub (.v 0) (.k (.str ⟨#[116, 117, 114, 110, 115]⟩))]))]] [],
    .asg (.v 2) (.bin .mod (.sub (.v 0) (.k (.str ⟨#[108, 101, 102, 116]⟩))) (.v 1)),
    .put (.v 0) (.k (.str ⟨#[108, 101, 102, 116]⟩)) (.bin .fdiv (.sub (.v 0) (.k (.str ⟨#[108, 101, 102, 116]⟩))) (.v 1)),
    .ret (.v 2)] }
/-- 3 _law_kinds(e, some, word, is_so) -/
def fd_law_kinds : Fd := { np := 1, nn := 4, body := [
    .asg (.v 1) (.lst false [.tup [.k (.str ⟨#[66, 97, 100, 65, 116, 111, 109, 115]⟩), .isx [(0, false), (1, false), (2, false), (3, false), (4, false), (5, false), (6, false), (7, false), (8, false), (9, false), (10, false), (11, true), (12, false), (13, false), (14, false), (15, false), (16, false), (17, false), (18, false), (19, false), (20, false), (21, false), (22, false), (23, false)] (.v 0)], .tup [.k (.str ⟨#[66, 97, 100, 66, 121, 116, 101, 115]⟩), .isx [(0, false), (1, false), (2, false), (3, false), (4, false), (5, false), (6, false), (7, false), (8, false), (9, false), (10, false), (11, false), (12, false), (13, false), (14, false), (15, false), (16, true), (17, false), (18, false), (19, false), (20, false), (21, false), (22, false), (23, false)] (.v 0)]]),
    .asg (.v 1) (.bin .add (.v 1) (.lst false [.tup [.k (.str ⟨#[66, 97, 100, 67, 97, 115, 101]⟩), .isx [(0, false), (1, false), (2, false), (3, false), (4, false), (5, false), (6, false), (7, false), (8, false), (9, false), (10, false), (11, false), (12, false), (13, false), (14, true), (15, false), (16, false), (17, false), (18, false), (19, false), (20, false), (21, false), (22, false), (23, false)] (.v 0)], .tup [.k (.str ⟨#[66, 97, 100, 68, 101, 101, 100]⟩), .isx [(0, false), (1, false), (2, false), (3, false), (4, false), (5, false), (6, false), (7, false), (8, false), (9, false), (10, false), (11, false), (12, false), (13, false), (14, false), (15, false), (16, false), (17, false), (18, false), (19, false), (20, false), (21, true), (22, false), (23, false)] (.v 0)]])),
    .asg (.v 1) (.bin .add (.v 1) (.lst false [.tup [.k (.str ⟨#[66, 97, 100, 70, 105, 103, 117, 114, 101]⟩), .isx [(0, false), (1, false), (2, false), (3, false), (4, false), (5, false), (6, false), (7, false), (8, false), (9, false), (10, false), (11, false), (12, false), (13, false), (14, false), (15, false), (16, false), (17, false), (18, true), (19, false), (20, false), (21, false), (22, false), (23, false)] (.v 0)], .tup [.k (.str ⟨#[66, 97, 100, 70, 111, 114, 109, 117, 108, 97]⟩), .isx [(0, false), (1, false), (2, false), (3, false), (4, true), (5, false), (6, false), (7, false), (8, false), (9, false), (10, false), (11, false), (12, false), (13, false), (14, false), (15, false), (16, false), (17, false), (18, false), (19, false), (20, false), (21, false), (22, false), (23, false)] (.v 0)]])),
    .asg (.v 1) (.bin .add (.v 1) (.lst false [.tup [.k (.str ⟨#[66, 97, 100, 70, 114, 97, 99, 116, 105, 111, 110]⟩), .isx [(0, true), (1, false), (2, false), (3, false), (4, false), (5, false), (6, false), (7, false), (8, false), (9, false), (10, false), (11, false), (12, false), (13, false), (14, false), (15, false), (16, false), (17, false), (18, false), (19, false), (20, false), (21, false), (22, false), (23, false)] (.v 0)], .tup [.k (.str ⟨#[66, 97, 100, 78, 97, 109, 101]⟩), .isx [(0, false), (1, true), (2, false), (3, false), (4, false), (5, false), (6, false), (7, false), (8, false), (9, false), (10, false), (11, false), (12, false), (13, false), (14, false), (15, false), (16, false), (17, false), (18, false), (19, false), (20, false), (21, false), (22, false), (23, false)] (.v 0)]])),
    .asg (.v 1) (.bin .add (.v 1) (.lst false [.tup [.k (.str ⟨#[66, 97, 100, 78, 117, 109, 98, 101, 114]⟩), .isx [(0, false), (1, false), (2, true), (3, false), (4, false), (5, false), (6, false), (7, false), (8, false), (9, false), (10, false), (11, false), (12, false), (13, false), (14, false), (15, false), (16, false), (17, false), (18, false), (19, false), (20, false), (21, false), (22, false), (23, false)] (.v 0)], .tup [.k (.str ⟨#[66, 97, 100, 80, 97, 112, 101, 114]⟩), .isx [(0, false), (1, false), (2, false), (3, false), (4, false), (5, false), (6, false), (7, false), (8, false), (9, false), (10, false), (11, false), (12, false), (13, false), (14, false), (15, false), (16, false), (17, false), (18, false), (19, false), (20, true), (21, false), (22, false), (23, false)] (.v 0)]])),
    .asg (.v 1) (.bin .add (.v 1) (.lst false [.tup [.k (.str ⟨#[66, 97, 100, 80, 108, 97, 110]⟩), .isx [(0, false), (1, false), (2, false), (3, false), (4, false), (5, false), (6, false), (7, false), (8, false), (9, false), (10, false), (11, false), (12, false), (13, true), (14, false), (15, false), (16, false), (17, false), (18, false), (19, false), (20, false), (21, false), (22, false), (23, false)] (.v 0)], .tup [.k (.str ⟨#[66, 97, 100, 80, 111, 105, 110, 116]⟩), .isx [(0, false), (1, false), (2, false), (3, false), (4, false), (5, false), (6, true), (7, false), (8, false), (9, false), (10, false), (11, false), (12, false), (13, false), (14, false), (15, false), (16, false), (17, false), (18, false), (19, false), (20, false), (21, false), (22, false), (23, false)] (.v 0)]])),
    .asg (.v 1) (.bin .add (.v 1) (.lst false [.tup [.k (.str ⟨#[66, 97, 100, 80, 111, 108, 121, 110, 111, 109, 105, 97, 108]⟩), .isx [(0, false), (1, false), (2, false), (3, true), (4, false), (5, false), (6, false), (7, false), (8, false), (9, false), (10, false), (11, false), (12, false), (13, false), (14, false), (15, false), (16, false), (17, false), (18, false), (19, false), (20, false), (21, false), (22, false), (23, false)] (.v 0)], .tup [.k (.str ⟨#[66, 97, 100, 82, 111, 119, 115]⟩), .isx [(0, false), (1, false), (2, false), (3, false), (4, false), (5, false), (6, false), (7, false), (8, false), (9, false), (10, false), (11, false), (12, false), (13, false), (14, false), (15, true), (16, false), (17, false), (18, false), (19, false), (20, false), (21, false), (22, false), (23, false)] (.v 0)]])),
    .asg (.v 1) (.bin .add (.v 1) (.lst false [.tup [.k (.str ⟨#[66, 97, 100, 83, 116, 114, 101, 116, 99, 104, 101, 115]⟩), .isx [(0, false), (1, false), (2, false), (3, false), (4, false), (5, false), (6, false), (7, false), (8, false), (9, true), (10, false), (11, false), (12, false), (13, false), (14, false), (15, false), (16, false), (17, false), (18, false), (19, false), (20, false), (21, false), (22, false), (23, false)] (.v 0)], .tup [.k (.str ⟨#[66, 97, 100, 84, 97, 98, 108, 101]⟩), .isx [(0, false), (1, false), (2, false), (3, false), (4, false), (5, false), (6, false), (7, false), (8, true), (9, false), (10, false), (11, false), (12, false), (13, false), (14, false), (15, false), (16, false), (17, false), (18, false), (19, false), (20, false), (21, false), (22, false), (23, false)] (.v 0)]])),
    .asg (.v 1) (.bin .add (.v 1) (.lst false [.tup [.k (.str ⟨#[66, 97, 100, 84, 97, 115, 107]⟩), .isx [(0, false), (1, false), (2, false), (3, false), (4, false), (5, false), (6, false), (7, false), (8, false), (9, false), (10, false), (11, false), (12, false), (13, false), (14, false), (15, false), (16, false), (17, true), (18, false), (19, false), (20, false), (21, false), (22, false), (23, false)] (.v 0)], .tup [.k (.str ⟨#[66, 97, 100, 84, 101, 115, 116]⟩), .isx [(0, false), (1, false), (2, false), (3, false), (4, false), (5, false), (6, false), (7, false), (8, false), (9, false), (10, true), (11, false), (12, false), (13, false), (14, false), (15, false), (16, false), (17, false), (18, false), (19, false), (20, false), (21, false), (22, false), (23, false)] (.v 0)]])),
    .asg (.v 1) (.bin .add (.v 1) (.lst false [.tup [.k (.str ⟨#[66, 97, 100, 84, 101, 120, 116]⟩), .isx [(0, false), (1, false), (2, false), (3, false), (4, false), (5, false), (6, false), (7, false), (8, false), (9, false), (10, false), (11, false), (12, false), (13, false), (14, false), (15, false), (16, false), (17, false), (18, false), (19, true), (20, false), (21, false), (22, false), (23, false)] (.v 0)], .tup [.k (.str ⟨#[66, 97, 100, 84, 104, 101, 111, 114, 121]⟩), .isx [(0, false), (1, false), (2, false), (3, false), (4, false), (5, true), (6, false), (7, false), (8, false), (9, false), (10, false), (11, false), (12, false), (13, false), (14, false), (15, false), (16, false), (17, false), (18, false), (19, false), (20, false), (21, false), (22, false), (23, false)] (.v 0)]])),
    .asg (.v 1) (.bin .add (.v 1) (.lst false [.tup [.k (.str ⟨#[66, 97, 100, 84, 111, 119, 101, 114]⟩), .isx [(0, false), (1, false), (2, false), (3, false), (4, false), (5, false), (6, false), (7, true), (8, false), (9, false), (10, false), (11, false), (12, false), (13, false), (14, false), (15, false), (16, false), (17, false), (18, false), (19, false), (20, false), (21, false), (22, false), (23, false)] (.v 0)], .tup [.k (.str ⟨#[66, 97, 100, 87, 105, 116, 110, 101, 115, 115]⟩), .isx [(0, false), (1, false), (2, false), (3, false), (4, false), (5, false), (6, false), (7, false), (8, false), (9, false), (10, false), (11, false), (12, true), (13, false), (14, false), (15, false), (16, false), (17, false), (18, false), (19, false), (20, false), (21, false), (22, false), (23, false)] (.v 0)]])),
    .asg (.v 1) (.bin .add (.v 1) (.lst false [.tup [.k (.str ⟨#[78, 111, 83, 117, 99, 104]⟩), .isx [(0, false), (1, false), (2, false), (3, false), (4, false), (5, false), (6, false), (7, false), (8, false), (9, false), (10, false), (11, false), (12, false), (13, false), (14, false), (15, false), (16, false), (17, false), (18, false), (19, false), (20, false), (21, false), (22, false), (23, true)] (.v 0)], .tup [.k (.str ⟨#[84, 111, 111, 77, 97, 110, 121]⟩), .isx [(0, false), (1, false), (2, false), (3, false), (4, false), (5, false), (6, false), (7, false), (8, false), (9, false), (10, false), (11, false), (12, false), (13, false), (14, false), (15, false), (16, false), (17, false), (18, false), (19, false), (20, false), (21, false), (22, true), (23, false)] (.v 0)]])),
    .asg (.v 1) (.bin .add (.v 1) (.lst false [.tup [.k (.str ⟨#[98, 97, 115, 101]⟩), .isx [(0, true), (1, true), (2, true), (3, true), (4, true), (5, true), (6, true), (7, true), (8, true), (9, true), (10, true), (11, true), (12, true), (13, true), (14, true), (15, true), (16, true), (17, true), (18, true), (19, true), (20, true), (21, true), (22, false), (23, false)] (.v 0)], .tup [.k (.str ⟨#[118, 97, 108, 117, 101]⟩), .isx [(0, true), (1, true), (2, true), (3, true), (4, true), (5, true), (6, true), (7, true), (8, true), (9, true), (10, true), (11, true), (12, true), (13, true), (14, true), (15, true), (16, true), (17, true), (18, true), (19, true), (20, true), (21, true), (22, false), (23, false)] (.v 0)]])),
    .asg (.v 1) (.bin .add (.v 1) (.lst false [.tup [.k (.str ⟨#[108, 111, 111, 107, 117, 112]⟩), .isx [(0, false), (1, false), (2, false), (3, false), (4, false), (5, false), (6, false), (7, false), (8, false), (9, false), (10, false), (11, false), (12, false), (13, false), (14, false), (15, false), (16, false), (17, false), (18, false), (19, false), (20, false), (21, false), (22, false), (23, true)] (.v 0)], .tup [.k (.str ⟨#[111, 118, 101, 114, 102, 108, 111, 119]⟩), .isx [(0, false), (1, false), (2, false), (3, false), (4, false), (5, false), (6, false), (7, false), (8, false), (9, false), (10, false), (11, false), (12, false), (13, false), (14, false), (15, false), (16, false), (17, false), (18, false), (19, false), (20, false), (21, false), (22, true), (23, false)] (.v 0)]])),
    .ret (.lc false [2, 3] (.v 2) (.tup [.v 2, .v 3]) .seq [.v 1] [.v 3])] }
/-- 4 _law_valued(thing, found) -/
def fd_law_valued : Fd := { np := 1, nn := 2, body := [
    .asg (.v 1) (.lst false [.tup [.mk 0 ⟨#[118, 97, 108, 117, 101]⟩ ⟨#[110, 111, 32, 115, 117, 99, 104, 32, 102, 114, 97, 99, 116, 105, 111, 110]⟩ [.v 0], .mk 0 ⟨#[118, 97, 108, 117, 101]⟩ ⟨#[110, 111, 32, 115, 117, 99, 104, 32, 102, 114, 97, 99, 116, 105, 111, 110]⟩ [.v 0], .k (.str ⟨#[66, 97, 100, 70, 114, 97, 99, 116, 105, 111, 110]⟩)]]),
    .asg (.v 1) (.bin .add (.v 1) (.lst false [.tup [.mk 1 ⟨#[118, 97, 108, 117, 101]⟩ ⟨#[110, 111, 32, 115, 117, 99, 104, 32, 110, 97, 109, 101]⟩ [.v 0], .mk 1 ⟨#[118, 97, 108, 117, 101]⟩ ⟨#[110, 111, 32, 115, 117, 99, 104, 32, 110, 97, 109, 101]⟩ [.v 0], .k (.str ⟨#[66, 97, 100, 78, 97, 109, 101]⟩)]])),
    .ret (.bin .add (.v 1) (.lst false [.tup [.mk 2 ⟨#[118, 97, 108, 117, 101]⟩ ⟨#[110, 111, 32, 115, 117, 99, 104, 32, 110, 117, 109, 98, 101, 114]⟩ [.v 0], .mk 2 ⟨#[118, 97, 108, 117, 101]⟩ ⟨#[110, 111, 32, 115, 117, 99, 104, 32, 110, 117, 109, 98, 101, 114]⟩ [.v 0], .k (.str ⟨#[66, 97, 100, 78, 117, 109, 98, 101, 114]⟩)]]))] }
/-- 5 _law_placed(thing, found) -/
def fd_law_placed : Fd := { np := 1, nn := 2, body := [
    .asg (.v 1) (.lst false [.tup [.mk 3 ⟨#[112, 108, 97, 99, 101]⟩ ⟨#[110, 111, 32, 115, 117, 99, 104, 32, 112, 111, 108, 121, 110, 111, 109, 105, 97, 108]⟩ [.v 0], .mk 3 ⟨#[112, 108, 97, 99, 101]⟩ ⟨#[110, 111, 32, 115, 117, 99, 104, 32, 112, 111, 108, 121, 110, 111, 109, 105, 97, 108]⟩ [.v 0], .k (.str ⟨#[66, 97, 100, 80, 111, 108, 121, 110, 111, 109, 105, 97, 108]⟩)]]),
    .asg (.v 1) (.bin .add (.v 1) (.lst false [.tup [.mk 4 ⟨#[112, 108, 97, 99, 101]⟩ ⟨#[110, 111, 32, 115, 117, 99, 104, 32, 102, 111, 114, 109, 117, 108, 97]⟩ [.v 0], .mk 4 ⟨#[112, 108, 97, 99, 101]⟩ ⟨#[110, 111, 32, 115, 117, 99, 104, 32, 102, 111, 114, 109, 117, 108, 97]⟩ [.v 0], .k (.str ⟨#[66, 97, 100, 70, 111, 114, 109, 117, 108, 97]⟩)]])),
    .asg (.v 1) (.bin .add (.v 1) (.lst false [.tup [.mk 5 ⟨#[112, 108, 97, 99, 101]⟩ ⟨#[110, 111, 32, 115, 117, 99, 104, 32, 116, 104, 101, 111, 114, 121]⟩ [.v 0], .mk 5 ⟨#[112, 108, 97, 99, 101]⟩ ⟨#[110, 111, 32, 115, 117, 99, 104, 32, 116, 104, 101, 111, 114, 121]⟩ [.v 0], .k (.str ⟨#[66, 97, 100, 84, 104, 101, 111, 114, 121]⟩)]])),
    .asg (.v 1) (.bin .add (.v 1) (.lst false [.tup [.mk 6 ⟨#[112, 108, 97, 99, 101]⟩ ⟨#[110, 111, 32, 115, 117, 99, 104, 32, 112, 111, 105, 110, 116]⟩ [.v 0], .mk 6 ⟨#[112, 108, 97, 99, 101]⟩ ⟨#[110, 111, 32, 115, 117, 99, 104, 32, 112, 111, 105, 110, 116]⟩ [.v 0], .k (.str ⟨#[66, 97, 100, 80, 111, 105, 110, 116]⟩)]])),
    .asg (.v 1) (.bin .add (.v 1) (.lst false [.tup [.mk 7 ⟨#[112, 108, 97, 99, 101]⟩ ⟨#[110, 111, 32, 115, 117, 99, 104, 32, 116, 111, 119, 101, 114]⟩ [.v 0], .mk 7 ⟨#[112, 108, 97, 99, 101]⟩ ⟨#[110, 111, 32, 115, 117, 99, 104, 32, 116, 111, 119, 101, 114]⟩ [.v 0], .k (.str ⟨#[66, 97, 100, 84, 111, 119, 101, 114]⟩)]])),
    .asg (.v 1) (.bin .add (.v 1) (.lst false [.tup [.mk 8 ⟨#[112, 108, 97, 99, 101]⟩ ⟨#[110, 111, 32, 115, 117, 99, 104, 32, 116, 97, 98, 108, 101]⟩ [.v 0], .mk 8 ⟨#[112, 108, 97, 99, 101]⟩ ⟨#[110, 111, 32, 115, 117, 99, 104, 32, 116, 97, 98, 108, 101]⟩ [.v 0], .k (.str ⟨#[66, 97, 100, 84, 97, 98, 108, 101]⟩)]])),
    .asg (.v 1) (.bin .add (.v 1) (.lst false [.tup [.mk 9 ⟨#[112, 108, 97, 99, 101]⟩ ⟨#[110, 111, 32, 115, 117, 99, 104, 32, 115, 116, 114, 101, 116, 99, 104, 101, 115]⟩ [.v 0], .mk 9 ⟨#[112, 108, 97, 99, 101]⟩ ⟨#[110, 111, 32, 115, 117, 99, 104, 32, 115, 116, 114, 101, 116, 99, 104, 101, 115]⟩ [.v 0], .k (.str ⟨#[66, 97, 100, 83, 116, 114, 101, 116, 99, 104, 101, 115]⟩)]])),
    .asg (.v 1) (.bin .add (.v 1) (.lst false [.tup [.mk 10 ⟨#[112, 108, 97, 99, 101]⟩ ⟨#[110, 111, 32, 115, 117, 99, 104, 32, 116, 101, 115, 116, 32, 112, 111, 105, 110, 116]⟩ [.v 0], .mk 10 ⟨#[112, 108, 97, 99, 101]⟩ ⟨#[110, 111, 32, 115, 117, 99, 104, 32, 116, 101, 115, 116, 32, 112, 111, 105, 110, 116]⟩ [.v 0], .k (.str ⟨#[66, 97, 100, 84, 101, 115, 116]⟩)]])),
    .asg (.v 1) (.bin .add (.v 1) (.lst false [.tup [.mk 11 ⟨#[112, 108, 97, 99, 101]⟩ ⟨#[110, 111, 32, 115, 117, 99, 104, 32, 97, 116, 111, 109, 115]⟩ [.v 0], .mk 11 ⟨#[112, 108, 97, 99, 101]⟩ ⟨#[110, 111, 32, 115, 117, 99, 104, 32, 97, 116, 111, 109, 115]⟩ [.v 0], .k (.str ⟨#[66, 97, 100, 65, 116, 111, 109, 115]⟩)]])),
    .asg (.v 1) (.bin .add (.v 1) (.lst false [.tup [.mk 12 ⟨#[112, 108, 97, 99, 101]⟩ ⟨#[110, 111, 32, 115, 117, 99, 104, 32, 110, 117, 109, 98, 101, 114, 115]⟩ [.v 0], .mk 12 ⟨#[112, 108, 97, 99, 101]⟩ ⟨#[110, 111, 32, 115, 117, 99, 104, 32, 110, 117, 109, 98, 101, 114, 115]⟩ [.v 0], .k (.str ⟨#[66, 97, 100, 87, 105, 116, 110, 101, 115, 115]⟩)]])),
    .asg (.v 1) (.bin .add (.v 1) (.lst false [.tup [.mk 13 ⟨#[112, 108, 97, 99, 101]⟩ ⟨#[110, 111, 32, 115, 117, 99, 104, 32, 112, 108, 97, 110]⟩ [.v 0], .mk 13 ⟨#[112, 108, 97, 99, 101]⟩ ⟨#[110, 111, 32, 115, 117, 99, 104, 32, 112, 108, 97, 110]⟩ [.v 0], .k (.str ⟨#[66, 97, 100, 80, 108, 97, 110]⟩)]])),
    .asg (.v 1) (.bin .add (.v 1) (.lst false [.tup [.mk 14 ⟨#[112, 108, 97, 99, 101]⟩ ⟨#[110, 111, 32, 115, 117, 99, 104, 32, 99, 97, 115, 101]⟩ [.v 0], .mk 14 ⟨#[112, 108, 97, 99, 101]⟩ ⟨#[110, 111, 32, 115, 117, 99, 104, 32, 99, 97, 115, 101]⟩ [.v 0], .k (.str ⟨#[66, 97, 100, 67, 97, 115, 101]⟩)]])),
    .asg (.v 1) (.bin .add (.v 1) (.lst false [.tup [.mk 15 ⟨#[112, 108, 97, 99, 101]⟩ ⟨#[110, 111, 32, 115, 117, 99, 104, 32, 114, 111, 119, 115]⟩ [.v 0], .mk 15 ⟨#[112, 108, 97, 99, 101]⟩ ⟨#[110, 111, 32, 115, 117, 99, 104, 32, 114, 111, 119, 115]⟩ [.v 0], .k (.str ⟨#[66, 97, 100, 82, 111, 119, 115]⟩)]])),
    .asg (.v 1) (.bin .add (.v 1) (.lst false [.tup [.mk 16 ⟨#[112, 108, 97, 99, 101]⟩ ⟨#[110, 111, 32, 115, 117, 99, 104, 32, 98, 121, 116, 101, 115]⟩ [.v 0], .mk 16 ⟨#[112, 108, 97, 99, 101]⟩ ⟨#[110, 111, 32, 115, 117, 99, 104, 32, 98, 121, 116, 101, 115]⟩ [.v 0], .k (.str ⟨#[66, 97, 100, 66, 121, 116, 101, 115]⟩)]])),
    .asg (.v 1) (.bin .add (.v 1) (.lst false [.tup [.mk 17 ⟨#[112, 108, 97, 99, 101]⟩ ⟨#[110, 111, 32, 115, 117, 99, 104, 32, 116, 97, 115, 107]⟩ [.v 0], .mk 17 ⟨#[112, 108, 97, 99, 101]⟩ ⟨#[110, 111, 32, 115, 117, 99, 104, 32, 116, 97, 115, 107]⟩ [.v 0], .k (.str ⟨#[66, 97, 100, 84, 97, 115, 107]⟩)]])),
    .asg (.v 1) (.bin .add (.v 1) (.lst false [.tup [.mk 18 ⟨#[112, 108, 97, 99, 101]⟩ ⟨#[110, 111, 32, 115, 117, 99, 104, 32, 102, 105, 103, 117, 114, 101]⟩ [.v 0], .mk 18 ⟨#[112, 108, 97, 99, 101]⟩ ⟨#[110, 111, 32, 115, 117, 99, 104, 32, 102, 105, 103, 117, 114, 101]⟩ [.v 0], .k (.str ⟨#[66, 97, 100, 70, 105, 103, 117, 114, 101]⟩)]])),
    .asg (.v 1) (.bin .add (.v 1) (.lst false [.tup [.mk 19 ⟨#[112, 108, 97, 99, 101]⟩ ⟨#[110, 111, 32, 115, 117, 99, 104, 32, 116, 101, 120, 116]⟩ [.v 0], .mk 19 ⟨#[112, 108, 97, 99, 101]⟩ ⟨#[110, 111, 32, 115, 117, 99, 104, 32, 116, 101, 120, 116]⟩ [.v 0], .k (.str ⟨#[66, 97, 100, 84, 101, 120, 116]⟩)]])),
    .asg (.v 1) (.bin .add (.v 1) (.lst false [.tup [.mk 20 ⟨#[112, 108, 97, 99, 101]⟩ ⟨#[110, 111, 32, 115, 117, 99, 104, 32, 112, 97, 112, 101, 114]⟩ [.v 0], .mk 20 ⟨#[112, 108, 97, 99, 101]⟩ ⟨#[110, 111, 32, 115, 117, 99, 104, 32, 112, 97, 112, 101, 114]⟩ [.v 0], .k (.str ⟨#[66, 97, 100, 80, 97, 112, 101, 114]⟩)]])),
    .ret (.bin .add (.v 1) (.lst false [.tup [.mk 21 ⟨#[112, 108, 97, 99, 101]⟩ ⟨#[110, 111, 32, 115, 117, 99, 104, 32, 100, 101, 101, 100]⟩ [.v 0], .mk 21 ⟨#[112, 108, 97, 99, 101]⟩ ⟨#[110, 111, 32, 115, 117, 99, 104, 32, 100, 101, 101, 100]⟩ [.v 0], .k (.str ⟨#[66, 97, 100, 68, 101, 101, 100]⟩)]]))] }
/-- 6 _law_right(thing, one, other, name) -/
def fd_law_right : Fd := { np := 1, nn := 4, body := [
    .for (.tup [.v 1, .v 2, .v 3]) .seq [.call 4 [.v 0]] [.ite (.or (.cmp .ne (.call 3 [.v 1]) (.lst false [.v 3, .k (.str ⟨#[98, 97, 115, 101]⟩), .k (.str ⟨#[118, 97, 108, 117, 101]⟩)])) (.cmp .ne (.call 3 [.v 2]) (.lst false [.v 3, .k (.str ⟨#[98, 97, 115, 101]⟩), .k (.str ⟨#[118, 97, 108, 117, 101]⟩)]))) [.ret (.k (.bool false))] [], .ite (.or (.cmp .ne (.fld ⟨#[118, 97, 108, 117, 101]⟩ [0, 1, 2, 23] (.v 1)) (.v 0)) (.cmp .ne (.fld ⟨#[118, 97, 108, 117, 101]⟩ [0, 1, 2, 23] (.v 2)) (.v 0))) [.ret (.k (.bool false))] []],
    .for (.tup [.v 1, .v 2, .v 3]) .seq [.call 5 [.v 0]] [.ite (.or (.cmp .ne (.call 3 [.v 1]) (.lst false [.v 3, .k (.str ⟨#[98, 97, 115, 101]⟩), .k (.str ⟨#[118, 97, 108, 117, 101]⟩)])) (.cmp .ne (.call 3 [.v 2]) (.lst false [.v 3, .k (.str ⟨#[98, 97, 115, 101]⟩), .k (.str ⟨#[118, 97, 108, 117, 101]⟩)]))) [.ret (.k (.bool false))] [], .ite (.or (.cmp .ne (.fld ⟨#[112, 108, 97, 99, 101]⟩ [3, 4, 5, 6, 7, 8, 9, 10, 11, 12, 13, 14, 15, 16, 17, 18, 19, 20, 21] (.v 1)) (.v 0)) (.cmp .ne (.fld ⟨#[112, 108, 97, 99, 101]⟩ [3, 4, 5, 6, 7, 8, 9, 10, 11, 12, 13, 14, 15, 16, 17, 18, 19, 20, 21] (.v 2)) (.v 0))) [.ret (.k (.bool false))] []],
    .for (.v 1) .seq [.tup [.mk 23 ⟨#[118, 97, 108, 117, 101]⟩ ⟨#[110, 111, 116, 104, 105, 110, 103, 32, 115, 111, 32, 99, 97, 108, 108, 101, 100]⟩ [.v 0], .mk 23 ⟨#[118, 97, 108, 117, 101]⟩ ⟨#[110, 111, 116, 104, 105, 110, 103, 32, 115, 111, 32, 99, 97, 108, 108, 101, 100]⟩ [.v 0]]] [.ite (.or (.cmp .ne (.call 3 [.v 1]) (.lst false [.k (.str ⟨#[78, 111, 83, 117, 99, 104]⟩), .k (.str ⟨#[108, 111, 111, 107, 117, 112]⟩)])) (.cmp .ne (.fld ⟨#[118, 97, 108, 117, 101]⟩ [0, 1, 2, 23] (.v 1)) (.v 0))) [.ret (.k (.bool false))] []],
    .for (.v 1) .seq [.tup [.mk 22 ⟨#[109, 111, 115, 116]⟩ ⟨#[116, 111, 111, 32, 109, 97, 110, 121]⟩ [.v 0], .mk 22 ⟨#[109, 111, 115, 116]⟩ ⟨#[116, 111, 111, 32, 109, 97, 110, 121]⟩ [.v 0]]] [.ite (.or (.cmp .ne (.call 3 [.v 1]) (.lst false [.k (.str ⟨#[84, 111, 111, 77, 97, 110, 121]⟩), .k (.str ⟨#[111, 118, 101, 114, 102, 108, 111, 119]⟩)])) (.cmp .ne (.fld ⟨#[109, 111, 115, 116]⟩ [22] (.v 1)) (.v 0))) [.ret (.k (.bool false))] []],
    .ret (.k (.bool true))] }
/-- 7 law(script, some, others, rows, thing, k, cell, state, number, made, e, one, other, name) -/
def fd_law : Fd := { np := 1, nn := 14, body := [
    .for (.tup [.v 5, .v 6]) .enum [.bin .add (.slc (.v 0) (.ab) (.k (.int (4)))) (.lst false [.bi .sum false false [.v 0]])] [.asg (.v 7) (.call 1 [.v 6, .v 5]), .asg (.v 8) (.call 2 [.v 7, .k (.int (100000))]), .asg (.v 1) (.lst false [.v 8, .bin .sub (.k (.int (0))) (.v 8), .bin .mul (.k (.str ⟨#[97, 98]⟩)) (.bin .mod (.v 8) (.k (.int (50)))), .tup [.k (.str ⟨#[97, 116, 111, 109]⟩), .tup [.k (.int (0)), .v 8]], .k (.none), .tup [.bin .pow (.k (.int (10))) (.k (.int (30))), .tup []], .bin .mul (.tup [.v 8]) (.k (.int (9)))]), .ite (.or (.not (.call 6 [.sub (.v 1) (.call 2 [.v 7, .k (.int (7))])])) (.not (.call 6 [.bin .pow (.bin .pow (.bin .pow (.k (.int (10))) (.k (.int (50)))) (.k (.int (50)))) (.k (.int (2)))]))) [.ret (.k (.bool false))] []],
    .asg (.v 1) (.lst false [.mk 0 ⟨#[118, 97, 108, 117, 101]⟩ ⟨#[110, 111, 32, 115, 117, 99, 104, 32, 102, 114, 97, 99, 116, 105, 111, 110]⟩ [], .mk 1 ⟨#[118, 97, 108, 117, 101]⟩ ⟨#[110, 111, 32, 115, 117, 99, 104, 32, 110, 97, 109, 101]⟩ [], .mk 2 ⟨#[118, 97, 108, 117, 101]⟩ ⟨#[110, 111, 32, 115, 117, 99, 104, 32, 110, 117, 109, 98, 101, 114]⟩ [], .mk 23 ⟨#[118, 97, 108, 117, 101]⟩ ⟨#[110, 111, 116, 104, 105, 110, 103, 32, 115, 111, 32, 99, 97, 108, 108, 101, 100]⟩ []]),
    .asg (.v 2) (.lst false [.mk 3 ⟨#[112, 108, 97, 99, 101]⟩ ⟨#[110, 111, 32, 115, 117, 99, 104, 32, 112, 111, 108, 121, 110, 111, 109, 105, 97, 108]⟩ [], .mk 4 ⟨#[112, 108, 97, 99, 101]⟩ ⟨#[110, 111, 32, 115, 117, 99, 104, 32, 102, 111, 114, 109, 117, 108, 97]⟩ [], .mk 5 ⟨#[112, 108, 97, 99, 101]⟩ ⟨#[110, 111, 32, 115, 117, 99, 104, 32, 116, 104, 101, 111, 114, 121]⟩ [], .mk 6 ⟨#[112, 108, 97, 99, 101]⟩ ⟨#[110, 111, 32, 115, 117, 99, 104, 32, 112, 111, 105, 110, 116]⟩ [], .mk 7 ⟨#[112, 108, 97, 99, 101]⟩ ⟨#[110, 111, 32, 115, 117, 99, 104, 32, 116, 111, 119, 101, 114]⟩ [], .mk 8 ⟨#[112, 108, 97, 99, 101]⟩ ⟨#[110, 111, 32, 115, 117, 99, 104, 32, 116, 97, 98, 108, 101]⟩ [], .mk 9 ⟨#[112, 108, 97, 99, 101]⟩ ⟨#[110, 111, 32, 115, 117, 99, 104, 32, 115, 116, 114, 101, 116, 99, 104, 101, 115]⟩ []]),
    .asg (.v 2) (.bin .add (.v 2) (.lst false [.mk 10 ⟨#[112, 108, 97, 99, 101]⟩ ⟨#[110, 111, 32, 115, 117, 99, 104, 32, 116, 101, 115, 116, 32, 112, 111, 105, 110, 116]⟩ [], .mk 11 ⟨#[112, 108, 97, 99, 101]⟩ ⟨#[110, 111, 32, 115, 117, 99, 104, 32, 97, 116, 111, 109, 115]⟩ [], .mk 12 ⟨#[112, 108, 97, 99, 101]⟩ ⟨#[110, 111, 32, 115, 117, 99, 104, 32, 110, 117, 109, 98, 101, 114, 115]⟩ [], .mk 13 ⟨#[112, 108, 97, 99, 101]⟩ ⟨#[110, 111, 32, 115, 117, 99, 104, 32, 112, 108, 97, 110]⟩ [], .mk 14 ⟨#[112, 108, 97, 99, 101]⟩ ⟨#[110, 111, 32, 115, 117, 99, 104, 32, 99, 97, 115, 101]⟩ [], .mk 15 ⟨#[112, 108, 97, 99, 101]⟩ ⟨#[110, 111, 32, 115, 117, 99, 104, 32, 114, 111, 119, 115]⟩ [], .mk 16 ⟨#[112, 108, 97, 99, 101]⟩ ⟨#[110, 111, 32, 115, 117, 99, 104, 32, 98, 121, 116, 101, 115]⟩ [], .mk 17 ⟨#[112, 108, 97, 99, 101]⟩ ⟨#[110, 111, 32, 115, 117, 99, 104, 32, 116, 97, 115, 107]⟩ [], .mk 18 ⟨#[112, 108, 97, 99, 101]⟩ ⟨#[110, 111, 32, 115, 117, 99, 104, 32, 102, 105, 103, 117, 114, 101]⟩ [], .mk 19 ⟨#[112, 108, 97, 99, 101]⟩ ⟨#[110, 111, 32, 115, 117, 99, 104, 32, 116, 101, 120, 116]⟩ [], .mk 20 ⟨#[112, 108, 97, 99, 101]⟩ ⟨#[110, 111, 32, 115, 117, 99, 104, 32, 112, 97, 112, 101, 114]⟩ [], .mk 21 ⟨#[112, 108, 97, 99, 101]⟩ ⟨#[110, 111, 32, 115, 117, 99, 104, 32, 100, 101, 101, 100]⟩ []])),
    .ite (.or (.cmp .ne (.lc false [10] (.fld ⟨#[118, 97, 108, 117, 101]⟩ [0, 1, 2, 23] (.v 10)) (.v 10) .seq [.v 1] []) (.bin .mul (.lst false [.k (.none)]) (.k (.int (4))))) (.cmp .ne (.lc false [10] (.fld ⟨#[112, 108, 97, 99, 101]⟩ [3, 4, 5, 6, 7, 8, 9, 10, 11, 12, 13, 14, 15, 16, 17, 18, 19, 20, 21] (.v 10)) (.v 10) .seq [.v 2] []) (.bin .mul (.lst false [.k (.none)]) (.k (.int (19)))))) [.ret (.k (.bool false))] [],
    .asg (.v 3) (.lst true []),
    .for (.v 4) .seq [.tup [.k (.str ⟨#[122, 113, 122, 113]⟩), .bin .pow (.k (.int (10))) (.k (.int (30))), .k (.int (70707)), .k (.str ⟨#[]⟩), .k (.str ⟨#[100, 101, 101, 100]⟩)]] [.asg (.v 9) (.bin .add (.lc false [11, 12, 13] (.v 11) (.tup [.v 11, .v 12, .v 13]) .seq [.bin .add (.call 4 [.v 4]) (.call 5 [.v 4])] []) (.lst false [.mk 23 ⟨#[118, 97, 108, 117, 101]⟩ ⟨#[110, 111, 116, 104, 105, 110, 103, 32, 115, 111, 32, 99, 97, 108, 108, 101, 100]⟩ [.v 4], .mk 22 ⟨#[109, 111, 115, 116]⟩ ⟨#[116, 111, 111, 32, 109, 97, 110, 121]⟩ [.v 4]])), .ex (.mm .append (.v 3) [.lc false [10] (.stx [0, 1, 2, 3, 4, 5, 6, 7, 8, 9, 10, 11, 12, 13, 14, 15, 16, 17, 18, 19, 20, 21, 22, 23] (.v 10)) (.v 10) .seq [.v 9] []])],
    .ret (.cmp .eq (.v 3) (.bin .mul (.lst false [.sub (.v 3) (.k (.int (0)))]) (.k (.int (5)))))] }
def fsL : List Fd := [fd_law_mixed, fd_law_draw, fd_law_digit, fd_law_kinds, fd_law_valued, fd_law_placed, fd_law_right, fd_law]
def fs (i : Nat) : Option Fd := fsL[i]?
/--  -/
def gL : List D := []
def G (i : Nat) : D := gL.getD i (.p .none)
abbrev law : Nat := 7
def defsL : List (Str × Nat) := [("_law_mixed", 2), ("_law_draw", 2), ("_law_digit", 2), ("_law_kinds", 1), ("_law_valued", 1), ("_law_placed", 1), ("_law_right", 1), ("law", 1)]
/-- where each def stands at the top, its parameters, its locals -/
def tblL : List (Nat × List Str × List Str) := [(27, ["cell", "k"], ["cell", "k", "number"]),
  (28, ["cell", "k"], ["cell", "k"]),
  (29, ["state", "below"], ["state", "below", "found", "j"]),
  (30, ["e"], ["e", "some", "word", "is_so"]),
  (31, ["thing"], ["thing", "found"]),
  (32, ["thing"], ["thing", "found"]),
  (33, ["thing"], ["thing", "one", "other", "name"]),
  (34, ["script"], ["script", "some", "others", "rows", "thing", "k", "cell", "state", "number", "made", "e", "one", "other", "name"])]
def clsTop : List Nat := [2, 3, 4, 5, 6, 7, 8, 9, 10, 11, 12, 13, 14, 15, 16, 17, 18, 19, 20, 21, 22, 23, 24, 25]
def bltsL : List Str := ["LookupError", "OverflowError", "ValueError", "enumerate", "isinstance", "range", "str", "sum"]
def clsL : List (Str × Str × Str × Bool) := [("BadFraction", "value", "no such fraction", true), ("BadName", "value", "no such name", true), ("BadNumber", "value", "no such number", true), ("BadPolynomial", "place", "no such polynomial", true), ("BadFormula", "place", "no such formula", true), ("BadTheory", "place", "no such theory", true), ("BadPoint", "place", "no such point", true), ("BadTower", "place", "no such tower", true), ("BadTable", "place", "no such table", true), ("BadStretches", "place", "no such stretches", true), ("BadTest", "place", "no such test point", true), ("BadAtoms", "place", "no such atoms", true), ("BadWitness", "place", "no such numbers", true), ("BadPlan", "place", "no such plan", true), ("BadCase", "place", "no such case", true), ("BadRows", "place", "no such rows", true), ("BadBytes", "place", "no such bytes", true), ("BadTask", "place", "no such task", true), ("BadFigure", "place", "no such figure", true), ("BadText", "place", "no such text", true), ("BadPaper", "place", "no such paper", true), ("BadDeed", "place", "no such deed", true), ("TooMany", "most", "too many", false), ("NoSuch", "value", "nothing so called", true)]
def kitL : List (Str × List (Nat × Bool)) := [("BadAtoms", [(0, false), (1, false), (2, false), (3, false), (4, false), (5, false), (6, false), (7, false), (8, false), (9, false), (10, false), (11, true), (12, false), (13, false), (14, false), (15, false), (16, false), (17, false), (18, false), (19, false), (20, false), (21, false), (22, false), (23, false)]),
  ("BadBytes", [(0, false), (1, false), (2, false), (3, false), (4, false), (5, false), (6, false), (7, false), (8, false), (9, false), (10, false), (11, false), (12, false), (13, false), (14, false), (15, false), (16, true), (17, false), (18, false), (19, false), (20, false), (21, false), (22, false), (23, false)]),
  ("BadCase", [(0, false), (1, false), (2, false), (3, false), (4, false), (5, false), (6, false), (7, false), (8, false), (9, false), (10, false), (11, false), (12, false), (13, false), (14, true), (15, false), (16, false), (17, false), (18, false), (19, false), (20, false), (21, false), (22, false), (23, false)]),
  ("BadDeed", [(0, false), (1, false), (2, false), (3, false), (4, false), (5, false), (6, false), (7, false), (8, false), (9, false), (10, false), (11, false), (12, false), (13, false), (14, false), (15, false), (16, false), (17, false), (18, false), (19, false), (20, false), (21, true), (22, false), (23, false)]),
  ("BadFigure", [(0, false), (1, false), (2, false), (3, false), (4, false), (5, false), (6, false), (7, false), (8, false), (9, false), (10, false), (11, false), (12, false), (13, false), (14, false), (15, false), (16, false), (17, false), (18, true), (19, false), (20, false), (21, false), (22, false), (23, false)]),
  ("BadFormula", [(0, false), (1, false), (2, false), (3, false), (4, true), (5, false), (6, false), (7, false), (8, false), (9, false), (10, false), (11, false), (12, false), (13, false), (14, false), (15, false), (16, false), (17, false), (18, false), (19, false), (20, false), (21, false), (22, false), (23, false)]),
  ("BadFraction", [(0, true), (1, false), (2, false), (3, false), (4, false), (5, false), (6, false), (7, false), (8, false), (9, false), (10, false), (11, false), (12, false), (13, false), (14, false), (15, false), (16, false), (17, false), (18, false), (19, false), (20, false), (21, false), (22, false), (23, false)]),
  ("BadName", [(0, false), (1, true), (2, false), (3, false), (4, false), (5, false), (6, false), (7, false), (8, false), (9, false), (10, false), (11, false), (12, false), (13, false), (14, false), (15, false), (16, false), (17, false), (18, false), (19, false), (20, false), (21, false), (22, false), (23, false)]),
  ("BadNumber", [(0, false), (1, false), (2, true), (3, false), (4, false), (5, false), (6, false), (7, false), (8, false), (9, false), (10, false), (11, false), (12, false), (13, false), (14, false), (15, false), (16, false), (17, false), (18, false), (19, false), (20, false), (21, false), (22, false), (23, false)]),
  ("BadPaper", [(0, false), (1, false), (2, false), (3, false), (4, false), (5, false), (6, false), (7, false), (8, false), (9, false), (10, false), (11, false), (12, false), (13, false), (14, false), (15, false), (16, false), (17, false), (18, false), (19, false), (20, true), (21, false), (22, false), (23, false)]),
  ("BadPlan", [(0, false), (1, false), (2, false), (3, false), (4, false), (5, false), (6, false), (7, false), (8, false), (9, false), (10, false), (11, false), (12, false), (13, true), (14, false), (15, false), (16, false), (17, false), (18, false), (19, false), (20, false), (21, false), (22, false), (23, false)]),
  ("BadPoint", [(0, false), (1, false), (2, false), (3, false), (4, false), (5, false), (6, true), (7, false), (8, false), (9, false), (10, false), (11, false), (12, false), (13, false), (14, false), (15, false), (16, false), (17, false), (18, false), (19, false), (20, false), (21, false), (22, false), (23, false)]),
  ("BadPolynomial", [(0, false), (1, false), (2, false), (3, true), (4, false), (5, false), (6, false), (7, false), (8, false), (9, false), (10, false), (11, false), (12, false), (13, false), (14, false), (15, false), (16, false), (17, false), (18, false), (19, false), (20, false), (21, false), (22, false), (23, false)]),
  ("BadRows", [(0, false), (1, false), (2, false), (3, false), (4, false), (5, false), (6, false), (7, false), (8, false), (9, false), (10, false), (11, false), (12, false), (13, false), (14, false), (15, true), (16, false), (17, false), (18, false), (19, false), (20, false), (21, false), (22, false), (23, false)]),
  ("BadStretches", [(0, false), (1, false), (2, false), (3, false), (4, false), (5, false), (6, false), (7, false), (8, false), (9, true), (10, false), (11, false), (12, false), (13, false), (14, false), (15, false), (16, false), (17, false), (18, false), (19, false), (20, false), (21, false), (22, false), (23, false)]),
  ("BadTable", [(0, false), (1, false), (2, false), (3, false), (4, false), (5, false), (6, false), (7, false), (8, true), (9, false), (10, false), (11, false), (12, false), (13, false), (14, false), (15, false), (16, false), (17, false), (18, false), (19, false), (20, false), (21, false), (22, false), (23, false)]),
  ("BadTask", [(0, false), (1, false), (2, false), (3, false), (4, false), (5, false), (6, false), (7, false), (8, false), (9, false), (10, false), (11, false), (12, false), (13, false), (14, false), (15, false), (16, false), (17, true), (18, false), (19, false), (20, false), (21, false), (22, false), (23, false)]),
  ("BadTest", [(0, false), (1, false), (2, false), (3, false), (4, false), (5, false), (6, false), (7, false), (8, false), (9, false), (10, true), (11, false), (12, false), (13, false), (14, false), (15, false), (16, false), (17, false), (18, false), (19, false), (20, false), (21, false), (22, false), (23, false)]),
  ("BadText", [(0, false), (1, false), (2, false), (3, false), (4, false), (5, false), (6, false), (7, false), (8, false), (9, false), (10, false), (11, false), (12, false), (13, false), (14, false), (15, false), (16, false), (17, false), (18, false), (19, true), (20, false), (21, false), (22, false), (23, false)]),
  ("BadTheory", [(0, false), (1, false), (2, false), (3, false), (4, false), (5, true), (6, false), (7, false), (8, false), (9, false), (10, false), (11, false), (12, false), (13, false), (14, false), (15, false), (16, false), (17, false), (18, false), (19, false), (20, false), (21, false), (22, false), (23, false)]),
  ("BadTower", [(0, false), (1, false), (2, false), (3, false), (4, false), (5, false), (6, false), (7, true), (8, false), (9, false), (10, false), (11, false), (12, false), (13, false), (14, false), (15, false), (16, false), (17, false), (18, false), (19, false), (20, false), (21, false), (22, false), (23, false)]),
  ("BadWitness", [(0, false), (1, false), (2, false), (3, false), (4, false), (5, false), (6, false), (7, false), (8, false), (9, false), (10, false), (11, false), (12, true), (13, false), (14, false), (15, false), (16, false), (17, false), (18, false), (19, false), (20, false), (21, false), (22, false), (23, false)]),
  ("NoSuch", [(0, false), (1, false), (2, false), (3, false), (4, false), (5, false), (6, false), (7, false), (8, false), (9, false), (10, false), (11, false), (12, false), (13, false), (14, false), (15, false), (16, false), (17, false), (18, false), (19, false), (20, false), (21, false), (22, false), (23, true)]),
  ("TooMany", [(0, false), (1, false), (2, false), (3, false), (4, false), (5, false), (6, false), (7, false), (8, false), (9, false), (10, false), (11, false), (12, false), (13, false), (14, false), (15, false), (16, false), (17, false), (18, false), (19, false), (20, false), (21, false), (22, true), (23, false)]),
  ("RealError", [(0, true), (1, true), (2, true), (3, true), (4, true), (5, true), (6, true), (7, true), (8, true), (9, true), (10, true), (11, true), (12, true), (13, true), (14, true), (15, true), (16, true), (17, true), (18, true), (19, true), (20, true), (21, true), (22, false), (23, false)]),
  ("ValueError", [(0, true), (1, true), (2, true), (3, true), (4, true), (5, true), (6, true), (7, true), (8, true), (9, true), (10, true), (11, true), (12, true), (13, true), (14, true), (15, true), (16, true), (17, true), (18, true), (19, true), (20, true), (21, true), (22, false), (23, false)]),
  ("LookupError", [(0, false), (1, false), (2, false), (3, false), (4, false), (5, false), (6, false), (7, false), (8, false), (9, false), (10, false), (11, false), (12, false), (13, false), (14, false), (15, false), (16, false), (17, false), (18, false), (19, false), (20, false), (21, false), (22, false), (23, true)]),
  ("OverflowError", [(0, false), (1, false), (2, false), (3, false), (4, false), (5, false), (6, false), (7, false), (8, false), (9, false), (10, false), (11, false), (12, false), (13, false), (14, false), (15, false), (16, false), (17, false), (18, false), (19, false), (20, false), (21, false), (22, true), (23, false)])]
def gt : Gt := { defs := defsL, globs := [], blts := bltsL, cls := clsL, kit := kitL }
end K99
end
section
namespace K99
open PySem PySem.Spec PyProof.Rows L2 Pd
def top (i : Nat) : Stmt := PySem.Challenge.pw_everyreal_k99_errors_by_hand.main.body.getD i (.Pass ⟨0, 0, 0, 0⟩)
def clBody (s : Stmt) : List Stmt := match s with
  | .ClassDef _ _ _ b _ _ _ _ _ _ _ => b
  | _ => []
def iniOf (i : Nat) : Stmt := (clBody (top i)).getD 0 (.Pass ⟨0, 0, 0, 0⟩)
/-- the 24 error classes -/
def es : List ClE := clsL.map fun q => ⟨q.1, q.2.1, q.2.2.1, if q.1 = ("TooMany" : Str) then ("OverflowError" : Str) else if q.1 = ("NoSuch" : Str) then ("LookupError" : Str) else ("RealError" : Str), !(decide (q.1 = ("TooMany" : Str)) || decide (q.1 = ("NoSuch" : Str))), q.2.2.2, if q.1 = ("TooMany" : Str) then .oe else if q.1 = ("NoSuch" : Str) then .le else .ve⟩
def dDef (q : Str × Nat) (t : Nat × List Str × List Str) : He.DefD := ⟨(q.1, none), q.1, q.1, defArgs (top t.1), defBody (top t.1), defScope (top t.1), [], []⟩
def dIni (e : ClE) (i : Nat) : He.DefD := ⟨(e.x, some "__init__"), "__init__", ⟨e.x.cps ++ (".__init__" : Str).cps⟩, defArgs (iniOf i), defBody (iniOf i), defScope (iniOf i), if e.dv then [.non] else [], []⟩
def fn : List He.DefD := List.zipWith dDef defsL tblL ++ List.zipWith dIni es clsTop
abbrev R : PySem.W.OpenRow := PySem.W.OpenLaw.row PySem.Challenge.rw_everyreal_k99_errors_by_hand
abbrev hk : PySem.W.Hook := hookP 5 (hdB gt es) fn
def ob (s : PySem.W.SharedT) : He.AlD := obsPG 5 (hdB gt es) fn (HandSHeadRun.getT s)
def names : List Str := ((defsL.map fun q => q.1) ++ (clsL.map fun q => q.1) ++ [("RealError" : Str)]).filter fun x => !(decide (x = ("law" : Str)))
end K99
end
section
namespace K99
open PySem PySem.Spec PyProof.Rows L2 Pd
theorem run (w : World) : HandSHeadRun.RunEq R (PySem.W.view R.prog [34]) hk ob 30000 names w := by
  intro os
  kernel_rfl
end K99
end
section
namespace K99
open PySem Pd L2
def topC (i : Nat) : Stmt := PySem.Challenge.pw_everyreal_k99_errors_by_hand.main.body.getD i (.Pass ⟨0, 0, 0, 0⟩)
def qC (i : Nat) : Nat × List Str × List Str := tblL.getD i (0, [], [])
theorem chk0 : chkD gt (qC 0).2.1 (qC 0).2.2 (defBody (topC (qC 0).1)) (defScope (topC (qC 0).1)) (fsL.getD 0 ⟨0, 0, []⟩) = true := by decide +kernel
theorem chk1 : chkD gt (qC 1).2.1 (qC 1).2.2 (defBody (topC (qC 1).1)) (defScope (topC (qC 1).1)) (fsL.getD 1 ⟨0, 0, []⟩) = true := by decide +kernel
theorem chk2 : chkD gt (qC 2).2.1 (qC 2).2.2 (defBody (topC (qC 2).1)) (defScope (topC (qC 2).1)) (fsL.getD 2 ⟨0, 0, []⟩) = true := by decide +kernel
theorem chk3 : chkD gt (qC 3).2.1 (qC 3).2.2 (defBody (topC (qC 3).1)) (defScope (topC (qC 3).1)) (fsL.getD 3 ⟨0, 0, []⟩) = true := by decide +kernel
theorem chk4 : chkD gt (qC 4).2.1 (qC 4).2.2 (defBody (topC (qC 4).1)) (defScope (topC (qC 4).1)) (fsL.getD 4 ⟨0, 0, []⟩) = true := by decide +kernel
theorem chk5 : chkD gt (qC 5).2.1 (qC 5).2.2 (defBody (topC (qC 5).1)) (defScope (topC (qC 5).1)) (fsL.getD 5 ⟨0, 0, []⟩) = true := by decide +kernel
theorem chk6 : chkD gt (qC 6).2.1 (qC 6).2.2 (defBody (topC (qC 6).1)) (defScope (topC (qC 6).1)) (fsL.getD 6 ⟨0, 0, []⟩) = true := by decide +kernel
theorem chk7 : chkD gt (qC 7).2.1 (qC 7).2.2 (defBody (topC (qC 7).1)) (defScope (topC (qC 7).1)) (fsL.getD 7 ⟨0, 0, []⟩) = true := by decide +kernel
end K99
end
section
/-! M99: the mathematics of k99. -/
namespace Pd
open PySem
theorem trim_self (d : D) (h : Cs) : trim h.length d h = h := by
  unfold trim
  split
  · exact List.take_length
  · rfl
def lowH (h : Cs) : Prop := h.all (MO.low h.length) = true
theorem trim_one {d : D} {h : Cs} {o : MO} (hd : d.low h.length = true) (hh : lowH h) : trim h.length d (h ++ [o]) = h := by
  unfold trim
  have e : (h ++ [o]).take h.length = h := by simp
  rw [e, hd, show h.all (MO.low h.length) = true from hh] <;> rfl
theorem setC_one (h : Cs) (o u : MO) : setC (h ++ [o]) h.length u = h ++ [u] := by
  unfold setC
  rw [List.set_append_right _ _ (Nat.le_refl _)]
  simp
section
variable {G : Nat → D} {F : FT}
theorem mx_asg {e : E} {i : Nat} {r : List S} {σ : Sg} {h : Cs} (d : D) (he : ev G F e σ h = .ok d h) (hi : i < σ.length) : execs G F (.asg (.v i) e :: r) σ h = execs G F r (σ.set i (some d)) h := by
  have z : exec G F (.asg (.v i) e) σ h = .nx (σ.set i (some d)) h := by
    unfold exec
    rw [he]
    show (match asgT (.v i) d σ (trim h.length d h) with | some σ' => O.nx σ' (trim h.length d h) | none => .no "target") = _
    rw [trim_self]
    unfold asgT
    rw [if_pos hi]
  show (match exec G F (.asg (.v i) e) σ h with | .nx σ' h' => execs G F r σ' h' | o => o) = _
  rw [z]
theorem mx_ret {e : E} {r : List S} {σ : Sg} {h h' : Cs} {d : D} (he : ev G F e σ h = .ok d h') : execs G F (.ret e :: r) σ h = .rt d h' := by
  have z : exec G F (.ret e) σ h = .rt d h' := by
    unfold exec
    rw [he] <;> rfl
  show (match exec G F (.ret e) σ h with | .nx σ' h' => execs G F r σ' h' | o => o) = _
  rw [z]
theorem mx_iteF {c : E} {a b r : List S} {σ : Sg} {h : Cs} (he : ev G F c σ h = .ok (.p (.bool false)) h) : execs G F (.ite c a b :: r) σ h = (match execs G F b σ h with | .nx σ' h' => execs G F r σ' h' | o => o) := by
  have z : exec G F (.ite c a b) σ h = execs G F b σ h := by
    unfold exec
    rw [he] <;> rfl
  show (match exec G F (.ite c a b) σ h with | .nx σ' h' => execs G F r σ' h' | o => o) = _
  rw [z]
theorem mx_iteF0 {c : E} {a r : List S} {σ : Sg} {h : Cs} (he : ev G F c σ h = .ok (.p (.bool false)) h) : execs G F (.ite c a [] :: r) σ h = execs G F r σ h := by
  rw [mx_iteF he]
  rfl
theorem me_ne {a b : E} {σ : Sg} {h : Cs} {x : P} (ha : ev G F a σ h = .ok (.p x) h) (hb : ev G F b σ h = .ok (.p x) h) (hs : PySem.SeqAt.shaped x = true) (he : PyData.eqv x x = true) : ev G F (.cmp .ne a b) σ h = .ok (.p (.bool false)) h := by
  have : cmpD .ne (.p x) (.p x) h = some false := by
    show (if PySem.SeqAt.shaped x && PySem.SeqAt.shaped x then some (PyData.eqv x x) else none).map (!·) = _
    rw [hs, he] <;> rfl
  unfold ev
  simp only [ha, R.bind, hb, this]
theorem me_or {a b : E} {σ : Sg} {h : Cs} (ha : ev G F a σ h = .ok (.p (.bool false)) h) (hb : ev G F b σ h = .ok (.p (.bool false)) h) : ev G F (.or a b) σ h = .ok (.p (.bool false)) h := by
  unfold ev
  rw [ha]
  show ev G F b σ h = _
  exact hb
/-- a loop with an invariant on its slots, the cells staying -/
theorem for_inv {t : T} {b : Sg → Cs → O} {h : Cs} (I : Sg → Prop) : ∀ (xs : List D), (∀ x ∈ xs, ∀ σ, I σ → ∃ σ1, asgT t x σ h = some σ1 ∧ ∃ σ2, b σ1 h = .nx σ2 h ∧ I σ2) → ∀ σ, I σ → ∃ σ', forGo t b xs σ h = .nx σ' h ∧ I σ'
  | [], _, σ, i => ⟨σ, rfl, i⟩
  | x :: r, hx, σ, i => by
    obtain ⟨σ1, e1, σ2, e2, i2⟩ := hx x (List.mem_cons_self ..) σ i
    obtain ⟨σ', e, i'⟩ := for_inv I r (fun y hy => hx y (List.mem_cons_of_mem _ hy)) σ2 i2
    refine ⟨σ', ?_, i'⟩
    unfold forGo
    rw [e1]
    show (match b σ1 h with | .nx σ' h' => forGo t b r σ' h' | .ct σ' h' => forGo t b r σ' h' | .bk σ' h' => .nx σ' h' | o => o) = _
    rw [e2]
    exact e
end
end Pd
namespace Pd
open PySem
section
variable {G : Nat → D} {F : FT}
theorem mx_for {t : T} {ik : IK} {its : List E} {b r : List S} {σ σ' : Sg} {h : Cs} (ds xs : List D) (he : evs G F its σ h = .ok ds h) (hw : walk ik ds h = some xs) (hh : hold ds h = h) (hu : unhold ds h h = h) (hf : forGo t (execs G F b) xs σ h = .nx σ' h) : execs G F (.for t ik its b :: r) σ h = execs G F r σ' h := by
  have z : exec G F (.for t ik its b) σ h = .nx σ' h := by
    unfold exec
    simp only [he, R.st, hw, hh, hf, O.unhold, hu]
  simp only [execs, z]
end
end Pd
end
section
namespace K99
open PySem Pd
def nmL : List Str := (kitL.map (·.1)).take 24 ++ [("base" : Str), "value", "lookup", "overflow"]
def kd (c : Nat) : List P := (List.zipWith (fun (x : Str) (q : Str × List (Nat × Bool)) => if (q.2.lookup c).getD false = true then some (PyData.str x) else none) nmL kitL).filterMap id
theorem kin0 (F : FT) (f m : Str) (x : P) (kvs : List (P × P)) : runFd G F fd_law_kinds [.exn 0 f m x] [.dct false kvs] = .ok (.p (.list (kd 0))) [.dct false kvs] := by kernel_rfl
theorem kin1 (F : FT) (f m : Str) (x : P) (kvs kvs2 : List (P × P)) : runFd G F fd_law_kinds [.exn 1 f m x] [.dct false kvs, .dct false kvs2] = .ok (.p (.list (kd 1))) [.dct false kvs, .dct false kvs2] := by kernel_rfl
end K99
end
section
namespace K99
open PySem Pd
/-- cells: dicts only -/
abbrev hp (l : List (List (P × P))) : Cs := l.map (.dct false)
/-- valued, placed -/
def exD (c : Nat) (x : P) : D := match clsL[c]? with
  | some q => .exn c q.2.1 q.2.2.1 x
  | none => .p .none
def nmD (c : Nat) : D := match clsL[c]? with
  | some q => .p (.str q.1)
  | none => .p .none
def valD (x : P) : List D := [0, 1, 2].map fun c => .tup [exD c x, exD c x, nmD c]
def plaD (x : P) : List D := [3, 4, 5, 6, 7, 8, 9, 10, 11, 12, 13, 14, 15, 16, 17, 18, 19, 20, 21].map fun c => .tup [exD c x, exD c x, nmD c]
theorem val1 (F : FT) (x : P) (k1 : List (P × P)) : runFd G F fd_law_valued [.p x] (hp [k1]) = .ok (.lst (valD x)) (hp [k1]) := by kernel_rfl
theorem pla1 (F : FT) (x : P) (k1 : List (P × P)) : runFd G F fd_law_placed [.p x] (hp [k1]) = .ok (.lst (plaD x)) (hp [k1]) := by kernel_rfl
theorem pla4 (F : FT) (x : P) (k1 k2 k3 k4 : List (P × P)) : runFd G F fd_law_placed [.p x] (hp [k1, k2, k3, k4]) = .ok (.lst (plaD x)) (hp [k1, k2, k3, k4]) := by kernel_rfl
/-- right, as far as the thing's own equality -/
def rr (x : P) : Option Bool := if PySem.SeqAt.shaped x && PySem.SeqAt.shaped x then some (PyData.eqv x x) else none
theorem rr_ok {x : P} (hs : PySem.SeqAt.shaped x = true) (he : PyData.eqv x x = true) : rr x = some true := by
  unfold rr
  rw [hs, he] <;> rfl
end K99
end
section
namespace K99
open PySem Pd
def body (i : Nat) : List S := match fd_law_right.body[i]? with
  | some (.for _ _ _ b) => b
  | _ => []
def bV : List S := body 0
def bP : List S := body 1
def bN : List S := body 2
def bT : List S := body 3
def I4 (x : P) (σ : Sg) : Prop := ∃ a b c, σ = [some (.p x), a, b, c]
theorem fn_rt {n f : Nat} {fd : Fd} {ds : List D} {h h' : Cs} {d : D} (hf : fs f = some fd) (hn : ds.length = fd.np) (hb : execs G (Fn G fs n) fd.body (ds.map some ++ List.replicate (fd.nn - fd.np) none) h = .rt d h') : Fn G fs (n + 1) f ds h = .ok d h' := by
  unfold Fn
  simp only [hf]
  unfold runFd
  rw [if_pos hn]
  simp only [hb]
section
variable {n : Nat} {x : P} {k1 : List (P × P)}
theorem itV0_1 (hs : PySem.SeqAt.shaped x = true) (he : PyData.eqv x x = true) : execs G (Fn G fs (n + 1)) bV [some (.p x), some (exD 0 x), some (exD 0 x), some (nmD 0)] (hp [k1]) = .nx [some (.p x), some (exD 0 x), some (exD 0 x), some (nmD 0)] (hp [k1]) := by exact (mx_iteF0 (by kernel_rfl)).trans ((mx_iteF0 (me_or (me_ne (x := x) (by kernel_rfl) rfl hs he) (me_ne (x := x) (by kernel_rfl) rfl hs he))).trans rfl)
theorem itV1_1 (hs : PySem.SeqAt.shaped x = true) (he : PyData.eqv x x = true) : execs G (Fn G fs (n + 1)) bV [some (.p x), some (exD 1 x), some (exD 1 x), some (nmD 1)] (hp [k1]) = .nx [some (.p x), some (exD 1 x), some (exD 1 x), some (nmD 1)] (hp [k1]) := by exact (mx_iteF0 (by kernel_rfl)).trans ((mx_iteF0 (me_or (me_ne (x := x) (by kernel_rfl) rfl hs he) (me_ne (x := x) (by kernel_rfl) rfl hs he))).trans rfl)
theorem itV2_1 (hs : PySem.SeqAt.shaped x = true) (he : PyData.eqv x x = true) : execs G (Fn G fs (n + 1)) bV [some (.p x), some (exD 2 x), some (exD 2 x), some (nmD 2)] (hp [k1]) = .nx [some (.p x), some (exD 2 x), some (exD 2 x), some (nmD 2)] (hp [k1]) := by exact (mx_iteF0 (by kernel_rfl)).trans ((mx_iteF0 (me_or (me_ne (x := x) (by kernel_rfl) rfl hs he) (me_ne (x := x) (by kernel_rfl) rfl hs he))).trans rfl)
theorem itP3_1 (hs : PySem.SeqAt.shaped x = true) (he : PyData.eqv x x = true) : execs G (Fn G fs (n + 1)) bP [some (.p x), some (exD 3 x), some (exD 3 x), some (nmD 3)] (hp [k1]) = .nx [some (.p x), some (exD 3 x), some (exD 3 x), some (nmD 3)] (hp [k1]) := by exact (mx_iteF0 (by kernel_rfl)).trans ((mx_iteF0 (me_or (me_ne (x := x) (by kernel_rfl) rfl hs he) (me_ne (x := x) (by kernel_rfl) rfl hs he))).trans rfl)
theorem itP4_1 (hs : PySem.SeqAt.shaped x = true) (he : PyData.eqv x x = true) : execs G (Fn G fs (n + 1)) bP [some (.p x), some (exD 4 x), some (exD 4 x), some (nmD 4)] (hp [k1]) = .nx [some (.p x), some (exD 4 x), some (exD 4 x), some (nmD 4)] (hp [k1]) := by exact (mx_iteF0 (by kernel_rfl)).trans ((mx_iteF0 (me_or (me_ne (x := x) (by kernel_rfl) rfl hs he) (me_ne (x := x) (by kernel_rfl) rfl hs he))).trans rfl)
theorem itP5_1 (hs : PySem.SeqAt.shaped x = true) (he : PyData.eqv x x = true) : execs G (Fn G fs (n + 1)) bP [some (.p x), some (exD 5 x), some (exD 5 x), some (nmD 5)] (hp [k1]) = .nx [some (.p x), some (exD 5 x), some (exD 5 x), some (nmD 5)] (hp [k1]) := by exact (mx_iteF0 (by kernel_rfl)).trans ((mx_iteF0 (me_or (me_ne (x := x) (by kernel_rfl) rfl hs he) (me_ne (x := x) (by kernel_rfl) rfl hs he))).trans rfl)
theorem itP6_1 (hs : PySem.SeqAt.shaped x = true) (he : PyData.eqv x x = true) : execs G (Fn G fs (n + 1)) bP [some (.p x), some (exD 6 x), some (exD 6 x), some (nmD 6)] (hp [k1]) = .nx [some (.p x), some (exD 6 x), some (exD 6 x), some (nmD 6)] (hp [k1]) := by exact (mx_iteF0 (by kernel_rfl)).trans ((mx_iteF0 (me_or (me_ne (x := x) (by kernel_rfl) rfl hs he) (me_ne (x := x) (by kernel_rfl) rfl hs he))).trans rfl)
theorem itP7_1 (hs : PySem.SeqAt.shaped x = true) (he : PyData.eqv x x = true) : execs G (Fn G fs (n + 1)) bP [some (.p x), some (exD 7 x), some (exD 7 x), some (nmD 7)] (hp [k1]) = .nx [some (.p x), some (exD 7 x), some (exD 7 x), some (nmD 7)] (hp [k1]) := by exact (mx_iteF0 (by kernel_rfl)).trans ((mx_iteF0 (me_or (me_ne (x := x) (by kernel_rfl) rfl hs he) (me_ne (x := x) (by kernel_rfl) rfl hs he))).trans rfl)
theorem itP8_1 (hs : PySem.SeqAt.shaped x = true) (he : PyData.eqv x x = true) : execs G (Fn G fs (n + 1)) bP [some (.p x), some (exD 8 x), some (exD 8 x), some (nmD 8)] (hp [k1]) = .nx [some (.p x), some (exD 8 x), some (exD 8 x), some (nmD 8)] (hp [k1]) := by exact (mx_iteF0 (by kernel_rfl)).trans ((mx_iteF0 (me_or (me_ne (x := x) (by kernel_rfl) rfl hs he) (me_ne (x := x) (by kernel_rfl) rfl hs he))).trans rfl)
theorem itP9_1 (hs : PySem.SeqAt.shaped x = true) (he : PyData.eqv x x = true) : execs G (Fn G fs (n + 1)) bP [some (.p x), some (exD 9 x), some (exD 9 x), some (nmD 9)] (hp [k1]) = .nx [some (.p x), some (exD 9 x), some (exD 9 x), some (nmD 9)] (hp [k1]) := by exact (mx_iteF0 (by kernel_rfl)).trans ((mx_iteF0 (me_or (me_ne (x := x) (by kernel_rfl) rfl hs he) (me_ne (x := x) (by kernel_rfl) rfl hs he))).trans rfl)
theorem itP10_1 (hs : PySem.SeqAt.shaped x = true) (he : PyData.eqv x x = true) : execs G (Fn G fs (n + 1)) bP [some (.p x), some (exD 10 x), some (exD 10 x), some (nmD 10)] (hp [k1]) = .nx [some (.p x), some (exD 10 x), some (exD 10 x), some (nmD 10)] (hp [k1]) := by exact (mx_iteF0 (by kernel_rfl)).trans ((mx_iteF0 (me_or (me_ne (x := x) (by kernel_rfl) rfl hs he) (me_ne (x := x) (by kernel_rfl) rfl hs he))).trans rfl)
theorem itP11_1 (hs : PySem.SeqAt.shaped x = true) (he : PyData.eqv x x = true) : execs G (Fn G fs (n + 1)) bP [some (.p x), some (exD 11 x), some (exD 11 x), some (nmD 11)] (hp [k1]) = .nx [some (.p x), some (exD 11 x), some (exD 11 x), some (nmD 11)] (hp [k1]) := by exact (mx_iteF0 (by kernel_rfl)).trans ((mx_iteF0 (me_or (me_ne (x := x) (by kernel_rfl) rfl hs he) (me_ne (x := x) (by kernel_rfl) rfl hs he))).trans rfl)
theorem itP12_1 (hs : PySem.SeqAt.shaped x = true) (he : PyData.eqv x x = true) : execs G (Fn G fs (n + 1)) bP [some (.p x), some (exD 12 x), some (exD 12 x), some (nmD 12)] (hp [k1]) = .nx [some (.p x), some (exD 12 x), some (exD 12 x), some (nmD 12)] (hp [k1]) := by exact (mx_iteF0 (by kernel_rfl)).trans ((mx_iteF0 (me_or (me_ne (x := x) (by kernel_rfl) rfl hs he) (me_ne (x := x) (by kernel_rfl) rfl hs he))).trans rfl)
theorem itP13_1 (hs : PySem.SeqAt.shaped x = true) (he : PyData.eqv x x = true) : execs G (Fn G fs (n + 1)) bP [some (.p x), some (exD 13 x), some (exD 13 x), some (nmD 13)] (hp [k1]) = .nx [some (.p x), some (exD 13 x), some (exD 13 x), some (nmD 13)] (hp [k1]) := by exact (mx_iteF0 (by kernel_rfl)).trans ((mx_iteF0 (me_or (me_ne (x := x) (by kernel_rfl) rfl hs he) (me_ne (x := x) (by kernel_rfl) rfl hs he))).trans rfl)
theorem itP14_1 (hs : PySem.SeqAt.shaped x = true) (he : PyData.eqv x x = true) : execs G (Fn G fs (n + 1)) bP [some (.p x), some (exD 14 x), some (exD 14 x), some (nmD 14)] (hp [k1]) = .nx [some (.p x), some (exD 14 x), some (exD 14 x), some (nmD 14)] (hp [k1]) := by exact (mx_iteF0 (by kernel_rfl)).trans ((mx_iteF0 (me_or (me_ne (x := x) (by kernel_rfl) rfl hs he) (me_ne (x := x) (by kernel_rfl) rfl hs he))).trans rfl)
theorem itP15_1 (hs : PySem.SeqAt.shaped x = true) (he : PyData.eqv x x = true) : execs G (Fn G fs (n + 1)) bP [some (.p x), some (exD 15 x), some (exD 15 x), some (nmD 15)] (hp [k1]) = .nx [some (.p x), some (exD 15 x), some (exD 15 x), some (nmD 15)] (hp [k1]) := by exact (mx_iteF0 (by kernel_rfl)).trans ((mx_iteF0 (me_or (me_ne (x := x) (by kernel_rfl) rfl hs he) (me_ne (x := x) (by kernel_rfl) rfl hs he))).trans rfl)
theorem itP16_1 (hs : PySem.SeqAt.shaped x = true) (he : PyData.eqv x x = true) : execs G (Fn G fs (n + 1)) bP [some (.p x), some (exD 16 x), some (exD 16 x), some (nmD 16)] (hp [k1]) = .nx [some (.p x), some (exD 16 x), some (exD 16 x), some (nmD 16)] (hp [k1]) := by exact (mx_iteF0 (by kernel_rfl)).trans ((mx_iteF0 (me_or (me_ne (x := x) (by kernel_rfl) rfl hs he) (me_ne (x := x) (by kernel_rfl) rfl hs he))).trans rfl)
theorem itP17_1 (hs : PySem.SeqAt.shaped x = true) (he : PyData.eqv x x = true) : execs G (Fn G fs (n + 1)) bP [some (.p x), some (exD 17 x), some (exD 17 x), some (nmD 17)] (hp [k1]) = .nx [some (.p x), some (exD 17 x), some (exD 17 x), some (nmD 17)] (hp [k1]) := by exact (mx_iteF0 (by kernel_rfl)).trans ((mx_iteF0 (me_or (me_ne (x := x) (by kernel_rfl) rfl hs he) (me_ne (x := x) (by kernel_rfl) rfl hs he))).trans rfl)
theorem itP18_1 (hs : PySem.SeqAt.shaped x = true) (he : PyData.eqv x x = true) : execs G (Fn G fs (n + 1)) bP [some (.p x), some (exD 18 x), some (exD 18 x), some (nmD 18)] (hp [k1]) = .nx [some (.p x), some (exD 18 x), some (exD 18 x), some (nmD 18)] (hp [k1]) := by exact (mx_iteF0 (by kernel_rfl)).trans ((mx_iteF0 (me_or (me_ne (x := x) (by kernel_rfl) rfl hs he) (me_ne (x := x) (by kernel_rfl) rfl hs he))).trans rfl)
theorem itP19_1 (hs : PySem.SeqAt.shaped x = true) (he : PyData.eqv x x = true) : execs G (Fn G fs (n + 1)) bP [some (.p x), some (exD 19 x), some (exD 19 x), some (nmD 19)] (hp [k1]) = .nx [some (.p x), some (exD 19 x), some (exD 19 x), some (nmD 19)] (hp [k1]) := by exact (mx_iteF0 (by kernel_rfl)).trans ((mx_iteF0 (me_or (me_ne (x := x) (by kernel_rfl) rfl hs he) (me_ne (x := x) (by kernel_rfl) rfl hs he))).trans rfl)
theorem itP20_1 (hs : PySem.SeqAt.shaped x = true) (he : PyData.eqv x x = true) : execs G (Fn G fs (n + 1)) bP [some (.p x), some (exD 20 x), some (exD 20 x), some (nmD 20)] (hp [k1]) = .nx [some (.p x), some (exD 20 x), some (exD 20 x), some (nmD 20)] (hp [k1]) := by exact (mx_iteF0 (by kernel_rfl)).trans ((mx_iteF0 (me_or (me_ne (x := x) (by kernel_rfl) rfl hs he) (me_ne (x := x) (by kernel_rfl) rfl hs he))).trans rfl)
theorem itP21_1 (hs : PySem.SeqAt.shaped x = true) (he : PyData.eqv x x = true) : execs G (Fn G fs (n + 1)) bP [some (.p x), some (exD 21 x), some (exD 21 x), some (nmD 21)] (hp [k1]) = .nx [some (.p x), some (exD 21 x), some (exD 21 x), some (nmD 21)] (hp [k1]) := by exact (mx_iteF0 (by kernel_rfl)).trans ((mx_iteF0 (me_or (me_ne (x := x) (by kernel_rfl) rfl hs he) (me_ne (x := x) (by kernel_rfl) rfl hs he))).trans rfl)
theorem it23_1 {a b : Option D} (hs : PySem.SeqAt.shaped x = true) (he : PyData.eqv x x = true) : execs G (Fn G fs (n + 1)) bN [some (.p x), some (exD 23 x), a, b] (hp [k1]) = .nx [some (.p x), some (exD 23 x), a, b] (hp [k1]) := by exact (mx_iteF0 (me_or (by kernel_rfl) (me_ne (x := x) (by kernel_rfl) rfl hs he))).trans rfl
theorem it22_1 {a b : Option D} (hs : PySem.SeqAt.shaped x = true) (he : PyData.eqv x x = true) : execs G (Fn G fs (n + 1)) bT [some (.p x), some (exD 22 x), a, b] (hp [k1]) = .nx [some (.p x), some (exD 22 x), a, b] (hp [k1]) := by exact (mx_iteF0 (me_or (by kernel_rfl) (me_ne (x := x) (by kernel_rfl) rfl hs he))).trans rfl
theorem lpV_1 (hs : PySem.SeqAt.shaped x = true) (he : PyData.eqv x x = true) {σ : Sg} (i : I4 x σ) : ∃ σ', forGo (.tup [.v 1, .v 2, .v 3]) (execs G (Fn G fs (n + 1)) bV) (valD x) σ (hp [k1]) = .nx σ' (hp [k1]) ∧ I4 x σ' := by
  refine for_inv (I4 x) _ (fun y hy σ i => ?_) σ i
  obtain ⟨a, b, c, rfl⟩ := i
  have hy' : y = .tup [exD 0 x, exD 0 x, nmD 0] ∨ y = .tup [exD 1 x, exD 1 x, nmD 1] ∨ y = .tup [exD 2 x, exD 2 x, nmD 2] := by simpa only [valD, List.map_cons, List.map_nil, List.mem_cons, List.not_mem_nil, or_false] using hy
  rcases hy' with rfl | rfl | rfl
  · exact ⟨_, rfl, _, itV0_1 hs he, _, _, _, rfl⟩
  · exact ⟨_, rfl, _, itV1_1 hs he, _, _, _, rfl⟩
  · exact ⟨_, rfl, _, itV2_1 hs he, _, _, _, rfl⟩
theorem lpP_1 (hs : PySem.SeqAt.shaped x = true) (he : PyData.eqv x x = true) {σ : Sg} (i : I4 x σ) : ∃ σ', forGo (.tup [.v 1, .v 2, .v 3]) (execs G (Fn G fs (n + 1)) bP) (plaD x) σ (hp [k1]) = .nx σ' (hp [k1]) ∧ I4 x σ' := by
  refine for_inv (I4 x) _ (fun y hy σ i => ?_) σ i
  obtain ⟨a, b, c, rfl⟩ := i
  have hy' : y = .tup [exD 3 x, exD 3 x, nmD 3] ∨ y = .tup [exD 4 x, exD 4 x, nmD 4] ∨ y = .tup [exD 5 x, exD 5 x, nmD 5] ∨ y = .tup [exD 6 x, exD 6 x, nmD 6] ∨ y = .tup [exD 7 x, exD 7 x, nmD 7] ∨ y = .tup [exD 8 x, exD 8 x, nmD 8] ∨ y = .tup [exD 9 x, exD 9 x, nmD 9] ∨ y = .tup [exD 10 x, exD 10 x, nmD 10] ∨ y = .tup [exD 11 x, exD 11 x, nmD 11] ∨ y = .tup [exD 12 x, exD 12 x, nmD 12] ∨ y = .tup [exD 13 x, exD 13 x, nmD 13] ∨ y = .tup [exD 14 x, exD 14 x, nmD 14] ∨ y = .tup [exD 15 x, exD 15 x, nmD 15] ∨ y = .tup [exD 16 x, exD 16 x, nmD 16] ∨ y = .tup [exD 17 x, exD 17 x, nmD 17] ∨ y = .tup [exD 18 x, exD 18 x, nmD 18] ∨ y = .tup [exD 19 x, exD 19 x, nmD 19] ∨ y = .tup [exD 20 x, exD 20 x, nmD 20] ∨ y = .tup [exD 21 x, exD 21 x, nmD 21] := by simpa only [plaD, List.map_cons, List.map_nil, List.mem_cons, List.not_mem_nil, or_false] using hy
  rcases hy' with rfl | rfl | rfl | rfl | rfl | rfl | rfl | rfl | rfl | rfl | rfl | rfl | rfl | rfl | rfl | rfl | rfl | rfl | rfl
  · exact ⟨_, rfl, _, itP3_1 hs he, _, _, _, rfl⟩
  · exact ⟨_, rfl, _, itP4_1 hs he, _, _, _, rfl⟩
  · exact ⟨_, rfl, _, itP5_1 hs he, _, _, _, rfl⟩
  · exact ⟨_, rfl, _, itP6_1 hs he, _, _, _, rfl⟩
  · exact ⟨_, rfl, _, itP7_1 hs he, _, _, _, rfl⟩
  · exact ⟨_, rfl, _, itP8_1 hs he, _, _, _, rfl⟩
  · exact ⟨_, rfl, _, itP9_1 hs he, _, _, _, rfl⟩
  · exact ⟨_, rfl, _, itP10_1 hs he, _, _, _, rfl⟩
  · exact ⟨_, rfl, _, itP11_1 hs he, _, _, _, rfl⟩
  · exact ⟨_, rfl, _, itP12_1 hs he, _, _, _, rfl⟩
  · exact ⟨_, rfl, _, itP13_1 hs he, _, _, _, rfl⟩
  · exact ⟨_, rfl, _, itP14_1 hs he, _, _, _, rfl⟩
  · exact ⟨_, rfl, _, itP15_1 hs he, _, _, _, rfl⟩
  · exact ⟨_, rfl, _, itP16_1 hs he, _, _, _, rfl⟩
  · exact ⟨_, rfl, _, itP17_1 hs he, _, _, _, rfl⟩
  · exact ⟨_, rfl, _, itP18_1 hs he, _, _, _, rfl⟩
  · exact ⟨_, rfl, _, itP19_1 hs he, _, _, _, rfl⟩
  · exact ⟨_, rfl, _, itP20_1 hs he, _, _, _, rfl⟩
  · exact ⟨_, rfl, _, itP21_1 hs he, _, _, _, rfl⟩
theorem lp23_1 (hs : PySem.SeqAt.shaped x = true) (he : PyData.eqv x x = true) {σ : Sg} (i : I4 x σ) : ∃ σ', forGo (.v 1) (execs G (Fn G fs (n + 1)) bN) [exD 23 x, exD 23 x] σ (hp [k1]) = .nx σ' (hp [k1]) ∧ I4 x σ' := by
  refine for_inv (I4 x) _ (fun y hy σ i => ?_) σ i
  obtain ⟨a, b, c, rfl⟩ := i
  have hy' : y = exD 23 x := by simpa only [List.mem_cons, List.not_mem_nil, or_false, or_self] using hy
  subst hy'
  exact ⟨_, rfl, _, it23_1 hs he, _, _, _, rfl⟩
theorem lp22_1 (hs : PySem.SeqAt.shaped x = true) (he : PyData.eqv x x = true) {σ : Sg} (i : I4 x σ) : ∃ σ', forGo (.v 1) (execs G (Fn G fs (n + 1)) bT) [exD 22 x, exD 22 x] σ (hp [k1]) = .nx σ' (hp [k1]) ∧ I4 x σ' := by
  refine for_inv (I4 x) _ (fun y hy σ i => ?_) σ i
  obtain ⟨a, b, c, rfl⟩ := i
  have hy' : y = exD 22 x := by simpa only [List.mem_cons, List.not_mem_nil, or_false, or_self] using hy
  subst hy'
  exact ⟨_, rfl, _, it22_1 hs he, _, _, _, rfl⟩
theorem right_1 (hs : PySem.SeqAt.shaped x = true) (he : PyData.eqv x x = true) : Fn G fs (n + 2) 6 [.p x] (hp [k1]) = .ok (.p (.bool true)) (hp [k1]) := by
  obtain ⟨σ1, e1, i1⟩ := lpV_1 (n := n) (k1 := k1) hs he (σ := [some (.p x), none, none, none]) ⟨_, _, _, rfl⟩
  obtain ⟨σ2, e2, i2⟩ := lpP_1 (n := n) (k1 := k1) hs he i1
  obtain ⟨σ3, e3, i3⟩ := lp23_1 (n := n) (k1 := k1) hs he i2
  obtain ⟨σ4, e4, i4⟩ := lp22_1 (n := n) (k1 := k1) hs he i3
  have hb : execs G (Fn G fs (n + 1)) fd_law_right.body [some (.p x), none, none, none] (hp [k1]) = .rt (.p (.bool true)) (hp [k1]) := by
    refine (mx_for [.lst (valD x)] (valD x) (by kernel_rfl) rfl rfl rfl e1).trans ?_
    obtain ⟨a1, b1, c1, rfl⟩ := i1
    refine (mx_for [.lst (plaD x)] (plaD x) (by kernel_rfl) rfl rfl rfl e2).trans ?_
    obtain ⟨a2, b2, c2, rfl⟩ := i2
    refine (mx_for [.tup [exD 23 x, exD 23 x]] [exD 23 x, exD 23 x] (by kernel_rfl) rfl rfl rfl e3).trans ?_
    obtain ⟨a3, b3, c3, rfl⟩ := i3
    refine (mx_for [.tup [exD 22 x, exD 22 x]] [exD 22 x, exD 22 x] (by kernel_rfl) rfl rfl rfl e4).trans ?_
    exact mx_ret rfl
  exact fn_rt rfl rfl hb
end
end K99
end
section
namespace K99
open PySem Pd
section
variable {n : Nat} {x : P} {k1 k2 : List (P × P)}
theorem itV0_2 (hs : PySem.SeqAt.shaped x = true) (he : PyData.eqv x x = true) : execs G (Fn G fs (n + 1)) bV [some (.p x), some (exD 0 x), some (exD 0 x), some (nmD 0)] (hp [k1, k2]) = .nx [some (.p x), some (exD 0 x), some (exD 0 x), some (nmD 0)] (hp [k1, k2]) := by exact (mx_iteF0 (by kernel_rfl)).trans ((mx_iteF0 (me_or (me_ne (x := x) (by kernel_rfl) rfl hs he) (me_ne (x := x) (by kernel_rfl) rfl hs he))).trans rfl)
theorem itV1_2 (hs : PySem.SeqAt.shaped x = true) (he : PyData.eqv x x = true) : execs G (Fn G fs (n + 1)) bV [some (.p x), some (exD 1 x), some (exD 1 x), some (nmD 1)] (hp [k1, k2]) = .nx [some (.p x), some (exD 1 x), some (exD 1 x), some (nmD 1)] (hp [k1, k2]) := by exact (mx_iteF0 (by kernel_rfl)).trans ((mx_iteF0 (me_or (me_ne (x := x) (by kernel_rfl) rfl hs he) (me_ne (x := x) (by kernel_rfl) rfl hs he))).trans rfl)
theorem itV2_2 (hs : PySem.SeqAt.shaped x = true) (he : PyData.eqv x x = true) : execs G (Fn G fs (n + 1)) bV [some (.p x), some (exD 2 x), some (exD 2 x), some (nmD 2)] (hp [k1, k2]) = .nx [some (.p x), some (exD 2 x), some (exD 2 x), some (nmD 2)] (hp [k1, k2]) := by exact (mx_iteF0 (by kernel_rfl)).trans ((mx_iteF0 (me_or (me_ne (x := x) (by kernel_rfl) rfl hs he) (me_ne (x := x) (by kernel_rfl) rfl hs he))).trans rfl)
theorem itP3_2 (hs : PySem.SeqAt.shaped x = true) (he : PyData.eqv x x = true) : execs G (Fn G fs (n + 1)) bP [some (.p x), some (exD 3 x), some (exD 3 x), some (nmD 3)] (hp [k1, k2]) = .nx [some (.p x), some (exD 3 x), some (exD 3 x), some (nmD 3)] (hp [k1, k2]) := by exact (mx_iteF0 (by kernel_rfl)).trans ((mx_iteF0 (me_or (me_ne (x := x) (by kernel_rfl) rfl hs he) (me_ne (x := x) (by kernel_rfl) rfl hs he))).trans rfl)
theorem itP4_2 (hs : PySem.SeqAt.shaped x = true) (he : PyData.eqv x x = true) : execs G (Fn G fs (n + 1)) bP [some (.p x), some (exD 4 x), some (exD 4 x), some (nmD 4)] (hp [k1, k2]) = .nx [some (.p x), some (exD 4 x), some (exD 4 x), some (nmD 4)] (hp [k1, k2]) := by exact (mx_iteF0 (by kernel_rfl)).trans ((mx_iteF0 (me_or (me_ne (x := x) (by kernel_rfl) rfl hs he) (me_ne (x := x) (by kernel_rfl) rfl hs he))).trans rfl)
theorem itP5_2 (hs : PySem.SeqAt.shaped x = true) (he : PyData.eqv x x = true) : execs G (Fn G fs (n + 1)) bP [some (.p x), some (exD 5 x), some (exD 5 x), some (nmD 5)] (hp [k1, k2]) = .nx [some (.p x), some (exD 5 x), some (exD 5 x), some (nmD 5)] (hp [k1, k2]) := by exact (mx_iteF0 (by kernel_rfl)).trans ((mx_iteF0 (me_or (me_ne (x := x) (by kernel_rfl) rfl hs he) (me_ne (x := x) (by kernel_rfl) rfl hs he))).trans rfl)
theorem itP6_2 (hs : PySem.SeqAt.shaped x = true) (he : PyData.eqv x x = true) : execs G (Fn G fs (n + 1)) bP [some (.p x), some (exD 6 x), some (exD 6 x), some (nmD 6)] (hp [k1, k2]) = .nx [some (.p x), some (exD 6 x), some (exD 6 x), some (nmD 6)] (hp [k1, k2]) := by exact (mx_iteF0 (by kernel_rfl)).trans ((mx_iteF0 (me_or (me_ne (x := x) (by kernel_rfl) rfl hs he) (me_ne (x := x) (by kernel_rfl) rfl hs he))).trans rfl)
theorem itP7_2 (hs : PySem.SeqAt.shaped x = true) (he : PyData.eqv x x = true) : execs G (Fn G fs (n + 1)) bP [some (.p x), some (exD 7 x), some (exD 7 x), some (nmD 7)] (hp [k1, k2]) = .nx [some (.p x), some (exD 7 x), some (exD 7 x), some (nmD 7)] (hp [k1, k2]) := by exact (mx_iteF0 (by kernel_rfl)).trans ((mx_iteF0 (me_or (me_ne (x := x) (by kernel_rfl) rfl hs he) (me_ne (x := x) (by kernel_rfl) rfl hs he))).trans rfl)
theorem itP8_2 (hs : PySem.SeqAt.shaped x = true) (he : PyData.eqv x x = true) : execs G (Fn G fs (n + 1)) bP [some (.p x), some (exD 8 x), some (exD 8 x), some (nmD 8)] (hp [k1, k2]) = .nx [some (.p x), some (exD 8 x), some (exD 8 x), some (nmD 8)] (hp [k1, k2]) := by exact (mx_iteF0 (by kernel_rfl)).trans ((mx_iteF0 (me_or (me_ne (x := x) (by kernel_rfl) rfl hs he) (me_ne (x := x) (by kernel_rfl) rfl hs he))).trans rfl)
theorem itP9_2 (hs : PySem.SeqAt.shaped x = true) (he : PyData.eqv x x = true) : execs G (Fn G fs (n + 1)) bP [some (.p x), some (exD 9 x), some (exD 9 x), some (nmD 9)] (hp [k1, k2]) = .nx [some (.p x), some (exD 9 x), some (exD 9 x), some (nmD 9)] (hp [k1, k2]) := by exact (mx_iteF0 (by kernel_rfl)).trans ((mx_iteF0 (me_or (me_ne (x := x) (by kernel_rfl) rfl hs he) (me_ne (x := x) (by kernel_rfl) rfl hs he))).trans rfl)
theorem itP10_2 (hs : PySem.SeqAt.shaped x = true) (he : PyData.eqv x x = true) : execs G (Fn G fs (n + 1)) bP [some (.p x), some (exD 10 x), some (exD 10 x), some (nmD 10)] (hp [k1, k2]) = .nx [some (.p x), some (exD 10 x), some (exD 10 x), some (nmD 10)] (hp [k1, k2]) := by exact (mx_iteF0 (by kernel_rfl)).trans ((mx_iteF0 (me_or (me_ne (x := x) (by kernel_rfl) rfl hs he) (me_ne (x := x) (by kernel_rfl) rfl hs he))).trans rfl)
theorem itP11_2 (hs : PySem.SeqAt.shaped x = true) (he : PyData.eqv x x = true) : execs G (Fn G fs (n + 1)) bP [some (.p x), some (exD 11 x), some (exD 11 x), some (nmD 11)] (hp [k1, k2]) = .nx [some (.p x), some (exD 11 x), some (exD 11 x), some (nmD 11)] (hp [k1, k2]) := by exact (mx_iteF0 (by kernel_rfl)).trans ((mx_iteF0 (me_or (me_ne (x := x) (by kernel_rfl) rfl hs he) (me_ne (x := x) (by kernel_rfl) rfl hs he))).trans rfl)
theorem itP12_2 (hs : PySem.SeqAt.shaped x = true) (he : PyData.eqv x x = true) : execs G (Fn G fs (n + 1)) bP [some (.p x), some (exD 12 x), some (exD 12 x), some (nmD 12)] (hp [k1, k2]) = .nx [some (.p x), some (exD 12 x), some (exD 12 x), some (nmD 12)] (hp [k1, k2]) := by exact (mx_iteF0 (by kernel_rfl)).trans ((mx_iteF0 (me_or (me_ne (x := x) (by kernel_rfl) rfl hs he) (me_ne (x := x) (by kernel_rfl) rfl hs he))).trans rfl)
theorem itP13_2 (hs : PySem.SeqAt.shaped x = true) (he : PyData.eqv x x = true) : execs G (Fn G fs (n + 1)) bP [some (.p x), some (exD 13 x), some (exD 13 x), some (nmD 13)] (hp [k1, k2]) = .nx [some (.p x), some (exD 13 x), some (exD 13 x), some (nmD 13)] (hp [k1, k2]) := by exact (mx_iteF0 (by kernel_rfl)).trans ((mx_iteF0 (me_or (me_ne (x := x) (by kernel_rfl) rfl hs he) (me_ne (x := x) (by kernel_rfl) rfl hs he))).trans rfl)
theorem itP14_2 (hs : PySem.SeqAt.shaped x = true) (he : PyData.eqv x x = true) : execs G (Fn G fs (n + 1)) bP [some (.p x), some (exD 14 x), some (exD 14 x), some (nmD 14)] (hp [k1, k2]) = .nx [some (.p x), some (exD 14 x), some (exD 14 x), some (nmD 14)] (hp [k1, k2]) := by exact (mx_iteF0 (by kernel_rfl)).trans ((mx_iteF0 (me_or (me_ne (x := x) (by kernel_rfl) rfl hs he) (me_ne (x := x) (by kernel_rfl) rfl hs he))).trans rfl)
theorem itP15_2 (hs : PySem.SeqAt.shaped x = true) (he : PyData.eqv x x = true) : execs G (Fn G fs (n + 1)) bP [some (.p x), some (exD 15 x), some (exD 15 x), some (nmD 15)] (hp [k1, k2]) = .nx [some (.p x), some (exD 15 x), some (exD 15 x), some (nmD 15)] (hp [k1, k2]) := by exact (mx_iteF0 (by kernel_rfl)).trans ((mx_iteF0 (me_or (me_ne (x := x) (by kernel_rfl) rfl hs he) (me_ne (x := x) (by kernel_rfl) rfl hs he))).trans rfl)
theorem itP16_2 (hs : PySem.SeqAt.shaped x = true) (he : PyData.eqv x x = true) : execs G (Fn G fs (n + 1)) bP [some (.p x), some (exD 16 x), some (exD 16 x), some (nmD 16)] (hp [k1, k2]) = .nx [some (.p x), some (exD 16 x), some (exD 16 x), some (nmD 16)] (hp [k1, k2]) := by exact (mx_iteF0 (by kernel_rfl)).trans ((mx_iteF0 (me_or (me_ne (x := x) (by kernel_rfl) rfl hs he) (me_ne (x := x) (by kernel_rfl) rfl hs he))).trans rfl)
theorem itP17_2 (hs : PySem.SeqAt.shaped x = true) (he : PyData.eqv x x = true) : execs G (Fn G fs (n + 1)) bP [some (.p x), some (exD 17 x), some (exD 17 x), some (nmD 17)] (hp [k1, k2]) = .nx [some (.p x), some (exD 17 x), some (exD 17 x), some (nmD 17)] (hp [k1, k2]) := by exact (mx_iteF0 (by kernel_rfl)).trans ((mx_iteF0 (me_or (me_ne (x := x) (by kernel_rfl) rfl hs he) (me_ne (x := x) (by kernel_rfl) rfl hs he))).trans rfl)
theorem itP18_2 (hs : PySem.SeqAt.shaped x = true) (he : PyData.eqv x x = true) : execs G (Fn G fs (n + 1)) bP [some (.p x), some (exD 18 x), some (exD 18 x), some (nmD 18)] (hp [k1, k2]) = .nx [some (.p x), some (exD 18 x), some (exD 18 x), some (nmD 18)] (hp [k1, k2]) := by exact (mx_iteF0 (by kernel_rfl)).trans ((mx_iteF0 (me_or (me_ne (x := x) (by kernel_rfl) rfl hs he) (me_ne (x := x) (by kernel_rfl) rfl hs he))).trans rfl)
theorem itP19_2 (hs : PySem.SeqAt.shaped x = true) (he : PyData.eqv x x = true) : execs G (Fn G fs (n + 1)) bP [some (.p x), some (exD 19 x), some (exD 19 x), some (nmD 19)] (hp [k1, k2]) = .nx [some (.p x), some (exD 19 x), some (exD 19 x), some (nmD 19)] (hp [k1, k2]) := by exact (mx_iteF0 (by kernel_rfl)).trans ((mx_iteF0 (me_or (me_ne (x := x) (by kernel_rfl) rfl hs he) (me_ne (x := x) (by kernel_rfl) rfl hs he))).trans rfl)
theorem itP20_2 (hs : PySem.SeqAt.shaped x = true) (he : PyData.eqv x x = true) : execs G (Fn G fs (n + 1)) bP [some (.p x), some (exD 20 x), some (exD 20 x), some (nmD 20)] (hp [k1, k2]) = .nx [some (.p x), some (exD 20 x), some (exD 20 x), some (nmD 20)] (hp [k1, k2]) := by exact (mx_iteF0 (by kernel_rfl)).trans ((mx_iteF0 (me_or (me_ne (x := x) (by kernel_rfl) rfl hs he) (me_ne (x := x) (by kernel_rfl) rfl hs he))).trans rfl)
theorem itP21_2 (hs : PySem.SeqAt.shaped x = true) (he : PyData.eqv x x = true) : execs G (Fn G fs (n + 1)) bP [some (.p x), some (exD 21 x), some (exD 21 x), some (nmD 21)] (hp [k1, k2]) = .nx [some (.p x), some (exD 21 x), some (exD 21 x), some (nmD 21)] (hp [k1, k2]) := by exact (mx_iteF0 (by kernel_rfl)).trans ((mx_iteF0 (me_or (me_ne (x := x) (by kernel_rfl) rfl hs he) (me_ne (x := x) (by kernel_rfl) rfl hs he))).trans rfl)
theorem it23_2 {a b : Option D} (hs : PySem.SeqAt.shaped x = true) (he : PyData.eqv x x = true) : execs G (Fn G fs (n + 1)) bN [some (.p x), some (exD 23 x), a, b] (hp [k1, k2]) = .nx [some (.p x), some (exD 23 x), a, b] (hp [k1, k2]) := by exact (mx_iteF0 (me_or (by kernel_rfl) (me_ne (x := x) (by kernel_rfl) rfl hs he))).trans rfl
theorem it22_2 {a b : Option D} (hs : PySem.SeqAt.shaped x = true) (he : PyData.eqv x x = true) : execs G (Fn G fs (n + 1)) bT [some (.p x), some (exD 22 x), a, b] (hp [k1, k2]) = .nx [some (.p x), some (exD 22 x), a, b] (hp [k1, k2]) := by exact (mx_iteF0 (me_or (by kernel_rfl) (me_ne (x := x) (by kernel_rfl) rfl hs he))).trans rfl
theorem lpV_2 (hs : PySem.SeqAt.shaped x = true) (he : PyData.eqv x x = true) {σ : Sg} (i : I4 x σ) : ∃ σ', forGo (.tup [.v 1, .v 2, .v 3]) (execs G (Fn G fs (n + 1)) bV) (valD x) σ (hp [k1, k2]) = .nx σ' (hp [k1, k2]) ∧ I4 x σ' := by
  refine for_inv (I4 x) _ (fun y hy σ i => ?_) σ i
  obtain ⟨a, b, c, rfl⟩ := i
  have hy' : y = .tup [exD 0 x, exD 0 x, nmD 0] ∨ y = .tup [exD 1 x, exD 1 x, nmD 1] ∨ y = .tup [exD 2 x, exD 2 x, nmD 2] := by simpa only [valD, List.map_cons, List.map_nil, List.mem_cons, List.not_mem_nil, or_false] using hy
  rcases hy' with rfl | rfl | rfl
  · exact ⟨_, rfl, _, itV0_2 hs he, _, _, _, rfl⟩
  · exact ⟨_, rfl, _, itV1_2 hs he, _, _, _, rfl⟩
  · exact ⟨_, rfl, _, itV2_2 hs he, _, _, _, rfl⟩
theorem lpP_2 (hs : PySem.SeqAt.shaped x = true) (he : PyData.eqv x x = true) {σ : Sg} (i : I4 x σ) : ∃ σ', forGo (.tup [.v 1, .v 2, .v 3]) (execs G (Fn G fs (n + 1)) bP) (plaD x) σ (hp [k1, k2]) = .nx σ' (hp [k1, k2]) ∧ I4 x σ' := by
  refine for_inv (I4 x) _ (fun y hy σ i => ?_) σ i
  obtain ⟨a, b, c, rfl⟩ := i
  have hy' : y = .tup [exD 3 x, exD 3 x, nmD 3] ∨ y = .tup [exD 4 x, exD 4 x, nmD 4] ∨ y = .tup [exD 5 x, exD 5 x, nmD 5] ∨ y = .tup [exD 6 x, exD 6 x, nmD 6] ∨ y = .tup [exD 7 x, exD 7 x, nmD 7] ∨ y = .tup [exD 8 x, exD 8 x, nmD 8] ∨ y = .tup [exD 9 x, exD 9 x, nmD 9] ∨ y = .tup [exD 10 x, exD 10 x, nmD 10] ∨ y = .tup [exD 11 x, exD 11 x, nmD 11] ∨ y = .tup [exD 12 x, exD 12 x, nmD 12] ∨ y = .tup [exD 13 x, exD 13 x, nmD 13] ∨ y = .tup [exD 14 x, exD 14 x, nmD 14] ∨ y = .tup [exD 15 x, exD 15 x, nmD 15] ∨ y = .tup [exD 16 x, exD 16 x, nmD 16] ∨ y = .tup [exD 17 x, exD 17 x, nmD 17] ∨ y = .tup [exD 18 x, exD 18 x, nmD 18] ∨ y = .tup [exD 19 x, exD 19 x, nmD 19] ∨ y = .tup [exD 20 x, exD 20 x, nmD 20] ∨ y = .tup [exD 21 x, exD 21 x, nmD 21] := by simpa only [plaD, List.map_cons, List.map_nil, List.mem_cons, List.not_mem_nil, or_false] using hy
  rcases hy' with rfl | rfl | rfl | rfl | rfl | rfl | rfl | rfl | rfl | rfl | rfl | rfl | rfl | rfl | rfl | rfl | rfl | rfl | rfl
  · exact ⟨_, rfl, _, itP3_2 hs he, _, _, _, rfl⟩
  · exact ⟨_, rfl, _, itP4_2 hs he, _, _, _, rfl⟩
  · exact ⟨_, rfl, _, itP5_2 hs he, _, _, _, rfl⟩
  · exact ⟨_, rfl, _, itP6_2 hs he, _, _, _, rfl⟩
  · exact ⟨_, rfl, _, itP7_2 hs he, _, _, _, rfl⟩
  · exact ⟨_, rfl, _, itP8_2 hs he, _, _, _, rfl⟩
  · exact ⟨_, rfl, _, itP9_2 hs he, _, _, _, rfl⟩
  · exact ⟨_, rfl, _, itP10_2 hs he, _, _, _, rfl⟩
  · exact ⟨_, rfl, _, itP11_2 hs he, _, _, _, rfl⟩
  · exact ⟨_, rfl, _, itP12_2 hs he, _, _, _, rfl⟩
  · exact ⟨_, rfl, _, itP13_2 hs he, _, _, _, rfl⟩
  · exact ⟨_, rfl, _, itP14_2 hs he, _, _, _, rfl⟩
  · exact ⟨_, rfl, _, itP15_2 hs he, _, _, _, rfl⟩
  · exact ⟨_, rfl, _, itP16_2 hs he, _, _, _, rfl⟩
  · exact ⟨_, rfl, _, itP17_2 hs he, _, _, _, rfl⟩
  · exact ⟨_, rfl, _, itP18_2 hs he, _, _, _, rfl⟩
  · exact ⟨_, rfl, _, itP19_2 hs he, _, _, _, rfl⟩
  · exact ⟨_, rfl, _, itP20_2 hs he, _, _, _, rfl⟩
  · exact ⟨_, rfl, _, itP21_2 hs he, _, _, _, rfl⟩
theorem lp23_2 (hs : PySem.SeqAt.shaped x = true) (he : PyData.eqv x x = true) {σ : Sg} (i : I4 x σ) : ∃ σ', forGo (.v 1) (execs G (Fn G fs (n + 1)) bN) [exD 23 x, exD 23 x] σ (hp [k1, k2]) = .nx σ' (hp [k1, k2]) ∧ I4 x σ' := by
  refine for_inv (I4 x) _ (fun y hy σ i => ?_) σ i
  obtain ⟨a, b, c, rfl⟩ := i
  have hy' : y = exD 23 x := by simpa only [List.mem_cons, List.not_mem_nil, or_false, or_self] using hy
  subst hy'
  exact ⟨_, rfl, _, it23_2 hs he, _, _, _, rfl⟩
theorem lp22_2 (hs : PySem.SeqAt.shaped x = true) (he : PyData.eqv x x = true) {σ : Sg} (i : I4 x σ) : ∃ σ', forGo (.v 1) (execs G (Fn G fs (n + 1)) bT) [exD 22 x, exD 22 x] σ (hp [k1, k2]) = .nx σ' (hp [k1, k2]) ∧ I4 x σ' := by
  refine for_inv (I4 x) _ (fun y hy σ i => ?_) σ i
  obtain ⟨a, b, c, rfl⟩ := i
  have hy' : y = exD 22 x := by simpa only [List.mem_cons, List.not_mem_nil, or_false, or_self] using hy
  subst hy'
  exact ⟨_, rfl, _, it22_2 hs he, _, _, _, rfl⟩
theorem right_2 (hs : PySem.SeqAt.shaped x = true) (he : PyData.eqv x x = true) : Fn G fs (n + 2) 6 [.p x] (hp [k1, k2]) = .ok (.p (.bool true)) (hp [k1, k2]) := by
  obtain ⟨σ1, e1, i1⟩ := lpV_2 (n := n) (k1 := k1) (k2 := k2) hs he (σ := [some (.p x), none, none, none]) ⟨_, _, _, rfl⟩
  obtain ⟨σ2, e2, i2⟩ := lpP_2 (n := n) (k1 := k1) (k2 := k2) hs he i1
  obtain ⟨σ3, e3, i3⟩ := lp23_2 (n := n) (k1 := k1) (k2 := k2) hs he i2
  obtain ⟨σ4, e4, i4⟩ := lp22_2 (n := n) (k1 := k1) (k2 := k2) hs he i3
  have hb : execs G (Fn G fs (n + 1)) fd_law_right.body [some (.p x), none, none, none] (hp [k1, k2]) = .rt (.p (.bool true)) (hp [k1, k2]) := by
    refine (mx_for [.lst (valD x)] (valD x) (by kernel_rfl) rfl rfl rfl e1).trans ?_
    obtain ⟨a1, b1, c1, rfl⟩ := i1
    refine (mx_for [.lst (plaD x)] (plaD x) (by kernel_rfl) rfl rfl rfl e2).trans ?_
    obtain ⟨a2, b2, c2, rfl⟩ := i2
    refine (mx_for [.tup [exD 23 x, exD 23 x]] [exD 23 x, exD 23 x] (by kernel_rfl) rfl rfl rfl e3).trans ?_
    obtain ⟨a3, b3, c3, rfl⟩ := i3
    refine (mx_for [.tup [exD 22 x, exD 22 x]] [exD 22 x, exD 22 x] (by kernel_rfl) rfl rfl rfl e4).trans ?_
    exact mx_ret rfl
  exact fn_rt rfl rfl hb
end
section
variable {n : Nat} {x : P} {k1 k2 k3 : List (P × P)}
theorem itV0_3 (hs : PySem.SeqAt.shaped x = true) (he : PyData.eqv x x = true) : execs G (Fn G fs (n + 1)) bV [some (.p x), some (exD 0 x), some (exD 0 x), some (nmD 0)] (hp [k1, k2, k3]) = .nx [some (.p x), some (exD 0 x), some (exD 0 x), some (nmD 0)] (hp [k1, k2, k3]) := by exact (mx_iteF0 (by kernel_rfl)).trans ((mx_iteF0 (me_or (me_ne (x := x) (by kernel_rfl) rfl hs he) (me_ne (x := x) (by kernel_rfl) rfl hs he))).trans rfl)
theorem itV1_3 (hs : PySem.SeqAt.shaped x = true) (he : PyData.eqv x x = true) : execs G (Fn G fs (n + 1)) bV [some (.p x), some (exD 1 x), some (exD 1 x), some (nmD 1)] (hp [k1, k2, k3]) = .nx [some (.p x), some (exD 1 x), some (exD 1 x), some (nmD 1)] (hp [k1, k2, k3]) := by exact (mx_iteF0 (by kernel_rfl)).trans ((mx_iteF0 (me_or (me_ne (x := x) (by kernel_rfl) rfl hs he) (me_ne (x := x) (by kernel_rfl) rfl hs he))).trans rfl)
theorem itV2_3 (hs : PySem.SeqAt.shaped x = true) (he : PyData.eqv x x = true) : execs G (Fn G fs (n + 1)) bV [some (.p x), some (exD 2 x), some (exD 2 x), some (nmD 2)] (hp [k1, k2, k3]) = .nx [some (.p x), some (exD 2 x), some (exD 2 x), some (nmD 2)] (hp [k1, k2, k3]) := by exact (mx_iteF0 (by kernel_rfl)).trans ((mx_iteF0 (me_or (me_ne (x := x) (by kernel_rfl) rfl hs he) (me_ne (x := x) (by kernel_rfl) rfl hs he))).trans rfl)
theorem itP3_3 (hs : PySem.SeqAt.shaped x = true) (he : PyData.eqv x x = true) : execs G (Fn G fs (n + 1)) bP [some (.p x), some (exD 3 x), some (exD 3 x), some (nmD 3)] (hp [k1, k2, k3]) = .nx [some (.p x), some (exD 3 x), some (exD 3 x), some (nmD 3)] (hp [k1, k2, k3]) := by exact (mx_iteF0 (by kernel_rfl)).trans ((mx_iteF0 (me_or (me_ne (x := x) (by kernel_rfl) rfl hs he) (me_ne (x := x) (by kernel_rfl) rfl hs he))).trans rfl)
theorem itP4_3 (hs : PySem.SeqAt.shaped x = true) (he : PyData.eqv x x = true) : execs G (Fn G fs (n + 1)) bP [some (.p x), some (exD 4 x), some (exD 4 x), some (nmD 4)] (hp [k1, k2, k3]) = .nx [some (.p x), some (exD 4 x), some (exD 4 x), some (nmD 4)] (hp [k1, k2, k3]) := by exact (mx_iteF0 (by kernel_rfl)).trans ((mx_iteF0 (me_or (me_ne (x := x) (by kernel_rfl) rfl hs he) (me_ne (x := x) (by kernel_rfl) rfl hs he))).trans rfl)
theorem itP5_3 (hs : PySem.SeqAt.shaped x = true) (he : PyData.eqv x x = true) : execs G (Fn G fs (n + 1)) bP [some (.p x), some (exD 5 x), some (exD 5 x), some (nmD 5)] (hp [k1, k2, k3]) = .nx [some (.p x), some (exD 5 x), some (exD 5 x), some (nmD 5)] (hp [k1, k2, k3]) := by exact (mx_iteF0 (by kernel_rfl)).trans ((mx_iteF0 (me_or (me_ne (x := x) (by kernel_rfl) rfl hs he) (me_ne (x := x) (by kernel_rfl) rfl hs he))).trans rfl)
theorem itP6_3 (hs : PySem.SeqAt.shaped x = true) (he : PyData.eqv x x = true) : execs G (Fn G fs (n + 1)) bP [some (.p x), some (exD 6 x), some (exD 6 x), some (nmD 6)] (hp [k1, k2, k3]) = .nx [some (.p x), some (exD 6 x), some (exD 6 x), some (nmD 6)] (hp [k1, k2, k3]) := by exact (mx_iteF0 (by kernel_rfl)).trans ((mx_iteF0 (me_or (me_ne (x := x) (by kernel_rfl) rfl hs he) (me_ne (x := x) (by kernel_rfl) rfl hs he))).trans rfl)
theorem itP7_3 (hs : PySem.SeqAt.shaped x = true) (he : PyData.eqv x x = true) : execs G (Fn G fs (n + 1)) bP [some (.p x), some (exD 7 x), some (exD 7 x), some (nmD 7)] (hp [k1, k2, k3]) = .nx [some (.p x), some (exD 7 x), some (exD 7 x), some (nmD 7)] (hp [k1, k2, k3]) := by exact (mx_iteF0 (by kernel_rfl)).trans ((mx_iteF0 (me_or (me_ne (x := x) (by kernel_rfl) rfl hs he) (me_ne (x := x) (by kernel_rfl) rfl hs he))).trans rfl)
theorem itP8_3 (hs : PySem.SeqAt.shaped x = true) (he : PyData.eqv x x = true) : execs G (Fn G fs (n + 1)) bP [some (.p x), some (exD 8 x), some (exD 8 x), some (nmD 8)] (hp [k1, k2, k3]) = .nx [some (.p x), some (exD 8 x), some (exD 8 x), some (nmD 8)] (hp [k1, k2, k3]) := by exact (mx_iteF0 (by kernel_rfl)).trans ((mx_iteF0 (me_or (me_ne (x := x) (by kernel_rfl) rfl hs he) (me_ne (x := x) (by kernel_rfl) rfl hs he))).trans rfl)
theorem itP9_3 (hs : PySem.SeqAt.shaped x = true) (he : PyData.eqv x x = true) : execs G (Fn G fs (n + 1)) bP [some (.p x), some (exD 9 x), some (exD 9 x), some (nmD 9)] (hp [k1, k2, k3]) = .nx [some (.p x), some (exD 9 x), some (exD 9 x), some (nmD 9)] (hp [k1, k2, k3]) := by exact (mx_iteF0 (by kernel_rfl)).trans ((mx_iteF0 (me_or (me_ne (x := x) (by kernel_rfl) rfl hs he) (me_ne (x := x) (by kernel_rfl) rfl hs he))).trans rfl)
theorem itP10_3 (hs : PySem.SeqAt.shaped x = true) (he : PyData.eqv x x = true) : execs G (Fn G fs (n + 1)) bP [some (.p x), some (exD 10 x), some (exD 10 x), some (nmD 10)] (hp [k1, k2, k3]) = .nx [some (.p x), some (exD 10 x), some (exD 10 x), some (nmD 10)] (hp [k1, k2, k3]) := by exact (mx_iteF0 (by kernel_rfl)).trans ((mx_iteF0 (me_or (me_ne (x := x) (by kernel_rfl) rfl hs he) (me_ne (x := x) (by kernel_rfl) rfl hs he))).trans rfl)
theorem itP11_3 (hs : PySem.SeqAt.shaped x = true) (he : PyData.eqv x x = true) : execs G (Fn G fs (n + 1)) bP [some (.p x), some (exD 11 x), some (exD 11 x), some (nmD 11)] (hp [k1, k2, k3]) = .nx [some (.p x), some (exD 11 x), some (exD 11 x), some (nmD 11)] (hp [k1, k2, k3]) := by exact (mx_iteF0 (by kernel_rfl)).trans ((mx_iteF0 (me_or (me_ne (x := x) (by kernel_rfl) rfl hs he) (me_ne (x := x) (by kernel_rfl) rfl hs he))).trans rfl)
theorem itP12_3 (hs : PySem.SeqAt.shaped x = true) (he : PyData.eqv x x = true) : execs G (Fn G fs (n + 1)) bP [some (.p x), some (exD 12 x), some (exD 12 x), some (nmD 12)] (hp [k1, k2, k3]) = .nx [some (.p x), some (exD 12 x), some (exD 12 x), some (nmD 12)] (hp [k1, k2, k3]) := by exact (mx_iteF0 (by kernel_rfl)).trans ((mx_iteF0 (me_or (me_ne (x := x) (by kernel_rfl) rfl hs he) (me_ne (x := x) (by kernel_rfl) rfl hs he))).trans rfl)
theorem itP13_3 (hs : PySem.SeqAt.shaped x = true) (he : PyData.eqv x x = true) : execs G (Fn G fs (n + 1)) bP [some (.p x), some (exD 13 x), some (exD 13 x), some (nmD 13)] (hp [k1, k2, k3]) = .nx [some (.p x), some (exD 13 x), some (exD 13 x), some (nmD 13)] (hp [k1, k2, k3]) := by exact (mx_iteF0 (by kernel_rfl)).trans ((mx_iteF0 (me_or (me_ne (x := x) (by kernel_rfl) rfl hs he) (me_ne (x := x) (by kernel_rfl) rfl hs he))).trans rfl)
theorem itP14_3 (hs : PySem.SeqAt.shaped x = true) (he : PyData.eqv x x = true) : execs G (Fn G fs (n + 1)) bP [some (.p x), some (exD 14 x), some (exD 14 x), some (nmD 14)] (hp [k1, k2, k3]) = .nx [some (.p x), some (exD 14 x), some (exD 14 x), some (nmD 14)] (hp [k1, k2, k3]) := by exact (mx_iteF0 (by kernel_rfl)).trans ((mx_iteF0 (me_or (me_ne (x := x) (by kernel_rfl) rfl hs he) (me_ne (x := x) (by kernel_rfl) rfl hs he))).trans rfl)
theorem itP15_3 (hs : PySem.SeqAt.shaped x = true) (he : PyData.eqv x x = true) : execs G (Fn G fs (n + 1)) bP [some (.p x), some (exD 15 x), some (exD 15 x), some (nmD 15)] (hp [k1, k2, k3]) = .nx [some (.p x), some (exD 15 x), some (exD 15 x), some (nmD 15)] (hp [k1, k2, k3]) := by exact (mx_iteF0 (by kernel_rfl)).trans ((mx_iteF0 (me_or (me_ne (x := x) (by kernel_rfl) rfl hs he) (me_ne (x := x) (by kernel_rfl) rfl hs he))).trans rfl)
theorem itP16_3 (hs : PySem.SeqAt.shaped x = true) (he : PyData.eqv x x = true) : execs G (Fn G fs (n + 1)) bP [some (.p x), some (exD 16 x), some (exD 16 x), some (nmD 16)] (hp [k1, k2, k3]) = .nx [some (.p x), some (exD 16 x), some (exD 16 x), some (nmD 16)] (hp [k1, k2, k3]) := by exact (mx_iteF0 (by kernel_rfl)).trans ((mx_iteF0 (me_or (me_ne (x := x) (by kernel_rfl) rfl hs he) (me_ne (x := x) (by kernel_rfl) rfl hs he))).trans rfl)
theorem itP17_3 (hs : PySem.SeqAt.shaped x = true) (he : PyData.eqv x x = true) : execs G (Fn G fs (n + 1)) bP [some (.p x), some (exD 17 x), some (exD 17 x), some (nmD 17)] (hp [k1, k2, k3]) = .nx [some (.p x), some (exD 17 x), some (exD 17 x), some (nmD 17)] (hp [k1, k2, k3]) := by exact (mx_iteF0 (by kernel_rfl)).trans ((mx_iteF0 (me_or (me_ne (x := x) (by kernel_rfl) rfl hs he) (me_ne (x := x) (by kernel_rfl) rfl hs he))).trans rfl)
theorem itP18_3 (hs : PySem.SeqAt.shaped x = true) (he : PyData.eqv x x = true) : execs G (Fn G fs (n + 1)) bP [some (.p x), some (exD 18 x), some (exD 18 x), some (nmD 18)] (hp [k1, k2, k3]) = .nx [some (.p x), some (exD 18 x), some (exD 18 x), some (nmD 18)] (hp [k1, k2, k3]) := by exact (mx_iteF0 (by kernel_rfl)).trans ((mx_iteF0 (me_or (me_ne (x := x) (by kernel_rfl) rfl hs he) (me_ne (x := x) (by kernel_rfl) rfl hs he))).trans rfl)
theorem itP19_3 (hs : PySem.SeqAt.shaped x = true) (he : PyData.eqv x x = true) : execs G (Fn G fs (n + 1)) bP [some (.p x), some (exD 19 x), some (exD 19 x), some (nmD 19)] (hp [k1, k2, k3]) = .nx [some (.p x), some (exD 19 x), some (exD 19 x), some (nmD 19)] (hp [k1, k2, k3]) := by exact (mx_iteF0 (by kernel_rfl)).trans ((mx_iteF0 (me_or (me_ne (x := x) (by kernel_rfl) rfl hs he) (me_ne (x := x) (by kernel_rfl) rfl hs he))).trans rfl)
theorem itP20_3 (hs : PySem.SeqAt.shaped x = true) (he : PyData.eqv x x = true) : execs G (Fn G fs (n + 1)) bP [some (.p x), some (exD 20 x), some (exD 20 x), some (nmD 20)] (hp [k1, k2, k3]) = .nx [some (.p x), some (exD 20 x), some (exD 20 x), some (nmD 20)] (hp [k1, k2, k3]) := by exact (mx_iteF0 (by kernel_rfl)).trans ((mx_iteF0 (me_or (me_ne (x := x) (by kernel_rfl) rfl hs he) (me_ne (x := x) (by kernel_rfl) rfl hs he))).trans rfl)
theorem itP21_3 (hs : PySem.SeqAt.shaped x = true) (he : PyData.eqv x x = true) : execs G (Fn G fs (n + 1)) bP [some (.p x), some (exD 21 x), some (exD 21 x), some (nmD 21)] (hp [k1, k2, k3]) = .nx [some (.p x), some (exD 21 x), some (exD 21 x), some (nmD 21)] (hp [k1, k2, k3]) := by exact (mx_iteF0 (by kernel_rfl)).trans ((mx_iteF0 (me_or (me_ne (x := x) (by kernel_rfl) rfl hs he) (me_ne (x := x) (by kernel_rfl) rfl hs he))).trans rfl)
theorem it23_3 {a b : Option D} (hs : PySem.SeqAt.shaped x = true) (he : PyData.eqv x x = true) : execs G (Fn G fs (n + 1)) bN [some (.p x), some (exD 23 x), a, b] (hp [k1, k2, k3]) = .nx [some (.p x), some (exD 23 x), a, b] (hp [k1, k2, k3]) := by exact (mx_iteF0 (me_or (by kernel_rfl) (me_ne (x := x) (by kernel_rfl) rfl hs he))).trans rfl
theorem it22_3 {a b : Option D} (hs : PySem.SeqAt.shaped x = true) (he : PyData.eqv x x = true) : execs G (Fn G fs (n + 1)) bT [some (.p x), some (exD 22 x), a, b] (hp [k1, k2, k3]) = .nx [some (.p x), some (exD 22 x), a, b] (hp [k1, k2, k3]) := by exact (mx_iteF0 (me_or (by kernel_rfl) (me_ne (x := x) (by kernel_rfl) rfl hs he))).trans rfl
theorem lpV_3 (hs : PySem.SeqAt.shaped x = true) (he : PyData.eqv x x = true) {σ : Sg} (i : I4 x σ) : ∃ σ', forGo (.tup [.v 1, .v 2, .v 3]) (execs G (Fn G fs (n + 1)) bV) (valD x) σ (hp [k1, k2, k3]) = .nx σ' (hp [k1, k2, k3]) ∧ I4 x σ' := by
  refine for_inv (I4 x) _ (fun y hy σ i => ?_) σ i
  obtain ⟨a, b, c, rfl⟩ := i
  have hy' : y = .tup [exD 0 x, exD 0 x, nmD 0] ∨ y = .tup [exD 1 x, exD 1 x, nmD 1] ∨ y = .tup [exD 2 x, exD 2 x, nmD 2] := by simpa only [valD, List.map_cons, List.map_nil, List.mem_cons, List.not_mem_nil, or_false] using hy
  rcases hy' with rfl | rfl | rfl
  · exact ⟨_, rfl, _, itV0_3 hs he, _, _, _, rfl⟩
  · exact ⟨_, rfl, _, itV1_3 hs he, _, _, _, rfl⟩
  · exact ⟨_, rfl, _, itV2_3 hs he, _, _, _, rfl⟩
theorem lpP_3 (hs : PySem.SeqAt.shaped x = true) (he : PyData.eqv x x = true) {σ : Sg} (i : I4 x σ) : ∃ σ', forGo (.tup [.v 1, .v 2, .v 3]) (execs G (Fn G fs (n + 1)) bP) (plaD x) σ (hp [k1, k2, k3]) = .nx σ' (hp [k1, k2, k3]) ∧ I4 x σ' := by
  refine for_inv (I4 x) _ (fun y hy σ i => ?_) σ i
  obtain ⟨a, b, c, rfl⟩ := i
  have hy' : y = .tup [exD 3 x, exD 3 x, nmD 3] ∨ y = .tup [exD 4 x, exD 4 x, nmD 4] ∨ y = .tup [exD 5 x, exD 5 x, nmD 5] ∨ y = .tup [exD 6 x, exD 6 x, nmD 6] ∨ y = .tup [exD 7 x, exD 7 x, nmD 7] ∨ y = .tup [exD 8 x, exD 8 x, nmD 8] ∨ y = .tup [exD 9 x, exD 9 x, nmD 9] ∨ y = .tup [exD 10 x, exD 10 x, nmD 10] ∨ y = .tup [exD 11 x, exD 11 x, nmD 11] ∨ y = .tup [exD 12 x, exD 12 x, nmD 12] ∨ y = .tup [exD 13 x, exD 13 x, nmD 13] ∨ y = .tup [exD 14 x, exD 14 x, nmD 14] ∨ y = .tup [exD 15 x, exD 15 x, nmD 15] ∨ y = .tup [exD 16 x, exD 16 x, nmD 16] ∨ y = .tup [exD 17 x, exD 17 x, nmD 17] ∨ y = .tup [exD 18 x, exD 18 x, nmD 18] ∨ y = .tup [exD 19 x, exD 19 x, nmD 19] ∨ y = .tup [exD 20 x, exD 20 x, nmD 20] ∨ y = .tup [exD 21 x, exD 21 x, nmD 21] := by simpa only [plaD, List.map_cons, List.map_nil, List.mem_cons, List.not_mem_nil, or_false] using hy
  rcases hy' with rfl | rfl | rfl | rfl | rfl | rfl | rfl | rfl | rfl | rfl | rfl | rfl | rfl | rfl | rfl | rfl | rfl | rfl | rfl
  · exact ⟨_, rfl, _, itP3_3 hs he, _, _, _, rfl⟩
  · exact ⟨_, rfl, _, itP4_3 hs he, _, _, _, rfl⟩
  · exact ⟨_, rfl, _, itP5_3 hs he, _, _, _, rfl⟩
  · exact ⟨_, rfl, _, itP6_3 hs he, _, _, _, rfl⟩
  · exact ⟨_, rfl, _, itP7_3 hs he, _, _, _, rfl⟩
  · exact ⟨_, rfl, _, itP8_3 hs he, _, _, _, rfl⟩
  · exact ⟨_, rfl, _, itP9_3 hs he, _, _, _, rfl⟩
  · exact ⟨_, rfl, _, itP10_3 hs he, _, _, _, rfl⟩
  · exact ⟨_, rfl, _, itP11_3 hs he, _, _, _, rfl⟩
  · exact ⟨_, rfl, _, itP12_3 hs he, _, _, _, rfl⟩
  · exact ⟨_, rfl, _, itP13_3 hs he, _, _, _, rfl⟩
  · exact ⟨_, rfl, _, itP14_3 hs he, _, _, _, rfl⟩
  · exact ⟨_, rfl, _, itP15_3 hs he, _, _, _, rfl⟩
  · exact ⟨_, rfl, _, itP16_3 hs he, _, _, _, rfl⟩
  · exact ⟨_, rfl, _, itP17_3 hs he, _, _, _, rfl⟩
  · exact ⟨_, rfl, _, itP18_3 hs he, _, _, _, rfl⟩
  · exact ⟨_, rfl, _, itP19_3 hs he, _, _, _, rfl⟩
  · exact ⟨_, rfl, _, itP20_3 hs he, _, _, _, rfl⟩
  · exact ⟨_, rfl, _, itP21_3 hs he, _, _, _, rfl⟩
theorem lp23_3 (hs : PySem.SeqAt.shaped x = true) (he : PyData.eqv x x = true) {σ : Sg} (i : I4 x σ) : ∃ σ', forGo (.v 1) (execs G (Fn G fs (n + 1)) bN) [exD 23 x, exD 23 x] σ (hp [k1, k2, k3]) = .nx σ' (hp [k1, k2, k3]) ∧ I4 x σ' := by
  refine for_inv (I4 x) _ (fun y hy σ i => ?_) σ i
  obtain ⟨a, b, c, rfl⟩ := i
  have hy' : y = exD 23 x := by simpa only [List.mem_cons, List.not_mem_nil, or_false, or_self] using hy
  subst hy'
  exact ⟨_, rfl, _, it23_3 hs he, _, _, _, rfl⟩
theorem lp22_3 (hs : PySem.SeqAt.shaped x = true) (he : PyData.eqv x x = true) {σ : Sg} (i : I4 x σ) : ∃ σ', forGo (.v 1) (execs G (Fn G fs (n + 1)) bT) [exD 22 x, exD 22 x] σ (hp [k1, k2, k3]) = .nx σ' (hp [k1, k2, k3]) ∧ I4 x σ' := by
  refine for_inv (I4 x) _ (fun y hy σ i => ?_) σ i
  obtain ⟨a, b, c, rfl⟩ := i
  have hy' : y = exD 22 x := by simpa only [List.mem_cons, List.not_mem_nil, or_false, or_self] using hy
  subst hy'
  exact ⟨_, rfl, _, it22_3 hs he, _, _, _, rfl⟩
theorem right_3 (hs : PySem.SeqAt.shaped x = true) (he : PyData.eqv x x = true) : Fn G fs (n + 2) 6 [.p x] (hp [k1, k2, k3]) = .ok (.p (.bool true)) (hp [k1, k2, k3]) := by
  obtain ⟨σ1, e1, i1⟩ := lpV_3 (n := n) (k1 := k1) (k2 := k2) (k3 := k3) hs he (σ := [some (.p x), none, none, none]) ⟨_, _, _, rfl⟩
  obtain ⟨σ2, e2, i2⟩ := lpP_3 (n := n) (k1 := k1) (k2 := k2) (k3 := k3) hs he i1
  obtain ⟨σ3, e3, i3⟩ := lp23_3 (n := n) (k1 := k1) (k2 := k2) (k3 := k3) hs he i2
  obtain ⟨σ4, e4, i4⟩ := lp22_3 (n := n) (k1 := k1) (k2 := k2) (k3 := k3) hs he i3
  have hb : execs G (Fn G fs (n + 1)) fd_law_right.body [some (.p x), none, none, none] (hp [k1, k2, k3]) = .rt (.p (.bool true)) (hp [k1, k2, k3]) := by
    refine (mx_for [.lst (valD x)] (valD x) (by kernel_rfl) rfl rfl rfl e1).trans ?_
    obtain ⟨a1, b1, c1, rfl⟩ := i1
    refine (mx_for [.lst (plaD x)] (plaD x) (by kernel_rfl) rfl rfl rfl e2).trans ?_
    obtain ⟨a2, b2, c2, rfl⟩ := i2
    refine (mx_for [.tup [exD 23 x, exD 23 x]] [exD 23 x, exD 23 x] (by kernel_rfl) rfl rfl rfl e3).trans ?_
    obtain ⟨a3, b3, c3, rfl⟩ := i3
    refine (mx_for [.tup [exD 22 x, exD 22 x]] [exD 22 x, exD 22 x] (by kernel_rfl) rfl rfl rfl e4).trans ?_
    exact mx_ret rfl
  exact fn_rt rfl rfl hb
end
end K99
end
section
namespace K99
open PySem Pd
section
variable {n : Nat} {x : P} {k1 k2 k3 k4 : List (P × P)}
theorem itV0_4 (hs : PySem.SeqAt.shaped x = true) (he : PyData.eqv x x = true) : execs G (Fn G fs (n + 1)) bV [some (.p x), some (exD 0 x), some (exD 0 x), some (nmD 0)] (hp [k1, k2, k3, k4]) = .nx [some (.p x), some (exD 0 x), some (exD 0 x), some (nmD 0)] (hp [k1, k2, k3, k4]) := by exact (mx_iteF0 (by kernel_rfl)).trans ((mx_iteF0 (me_or (me_ne (x := x) (by kernel_rfl) rfl hs he) (me_ne (x := x) (by kernel_rfl) rfl hs he))).trans rfl)
theorem itV1_4 (hs : PySem.SeqAt.shaped x = true) (he : PyData.eqv x x = true) : execs G (Fn G fs (n + 1)) bV [some (.p x), some (exD 1 x), some (exD 1 x), some (nmD 1)] (hp [k1, k2, k3, k4]) = .nx [some (.p x), some (exD 1 x), some (exD 1 x), some (nmD 1)] (hp [k1, k2, k3, k4]) := by exact (mx_iteF0 (by kernel_rfl)).trans ((mx_iteF0 (me_or (me_ne (x := x) (by kernel_rfl) rfl hs he) (me_ne (x := x) (by kernel_rfl) rfl hs he))).trans rfl)
theorem itV2_4 (hs : PySem.SeqAt.shaped x = true) (he : PyData.eqv x x = true) : execs G (Fn G fs (n + 1)) bV [some (.p x), some (exD 2 x), some (exD 2 x), some (nmD 2)] (hp [k1, k2, k3, k4]) = .nx [some (.p x), some (exD 2 x), some (exD 2 x), some (nmD 2)] (hp [k1, k2, k3, k4]) := by exact (mx_iteF0 (by kernel_rfl)).trans ((mx_iteF0 (me_or (me_ne (x := x) (by kernel_rfl) rfl hs he) (me_ne (x := x) (by kernel_rfl) rfl hs he))).trans rfl)
theorem itP3_4 (hs : PySem.SeqAt.shaped x = true) (he : PyData.eqv x x = true) : execs G (Fn G fs (n + 1)) bP [some (.p x), some (exD 3 x), some (exD 3 x), some (nmD 3)] (hp [k1, k2, k3, k4]) = .nx [some (.p x), some (exD 3 x), some (exD 3 x), some (nmD 3)] (hp [k1, k2, k3, k4]) := by exact (mx_iteF0 (by kernel_rfl)).trans ((mx_iteF0 (me_or (me_ne (x := x) (by kernel_rfl) rfl hs he) (me_ne (x := x) (by kernel_rfl) rfl hs he))).trans rfl)
theorem itP4_4 (hs : PySem.SeqAt.shaped x = true) (he : PyData.eqv x x = true) : execs G (Fn G fs (n + 1)) bP [some (.p x), some (exD 4 x), some (exD 4 x), some (nmD 4)] (hp [k1, k2, k3, k4]) = .nx [some (.p x), some (exD 4 x), some (exD 4 x), some (nmD 4)] (hp [k1, k2, k3, k4]) := by exact (mx_iteF0 (by kernel_rfl)).trans ((mx_iteF0 (me_or (me_ne (x := x) (by kernel_rfl) rfl hs he) (me_ne (x := x) (by kernel_rfl) rfl hs he))).trans rfl)
theorem itP5_4 (hs : PySem.SeqAt.shaped x = true) (he : PyData.eqv x x = true) : execs G (Fn G fs (n + 1)) bP [some (.p x), some (exD 5 x), some (exD 5 x), some (nmD 5)] (hp [k1, k2, k3, k4]) = .nx [some (.p x), some (exD 5 x), some (exD 5 x), some (nmD 5)] (hp [k1, k2, k3, k4]) := by exact (mx_iteF0 (by kernel_rfl)).trans ((mx_iteF0 (me_or (me_ne (x := x) (by kernel_rfl) rfl hs he) (me_ne (x := x) (by kernel_rfl) rfl hs he))).trans rfl)
theorem itP6_4 (hs : PySem.SeqAt.shaped x = true) (he : PyData.eqv x x = true) : execs G (Fn G fs (n + 1)) bP [some (.p x), some (exD 6 x), some (exD 6 x), some (nmD 6)] (hp [k1, k2, k3, k4]) = .nx [some (.p x), some (exD 6 x), some (exD 6 x), some (nmD 6)] (hp [k1, k2, k3, k4]) := by exact (mx_iteF0 (by kernel_rfl)).trans ((mx_iteF0 (me_or (me_ne (x := x) (by kernel_rfl) rfl hs he) (me_ne (x := x) (by kernel_rfl) rfl hs he))).trans rfl)
theorem itP7_4 (hs : PySem.SeqAt.shaped x = true) (he : PyData.eqv x x = true) : execs G (Fn G fs (n + 1)) bP [some (.p x), some (exD 7 x), some (exD 7 x), some (nmD 7)] (hp [k1, k2, k3, k4]) = .nx [some (.p x), some (exD 7 x), some (exD 7 x), some (nmD 7)] (hp [k1, k2, k3, k4]) := by exact (mx_iteF0 (by kernel_rfl)).trans ((mx_iteF0 (me_or (me_ne (x := x) (by kernel_rfl) rfl hs he) (me_ne (x := x) (by kernel_rfl) rfl hs he))).trans rfl)
theorem itP8_4 (hs : PySem.SeqAt.shaped x = true) (he : PyData.eqv x x = true) : execs G (Fn G fs (n + 1)) bP [some (.p x), some (exD 8 x), some (exD 8 x), some (nmD 8)] (hp [k1, k2, k3, k4]) = .nx [some (.p x), some (exD 8 x), some (exD 8 x), some (nmD 8)] (hp [k1, k2, k3, k4]) := by exact (mx_iteF0 (by kernel_rfl)).trans ((mx_iteF0 (me_or (me_ne (x := x) (by kernel_rfl) rfl hs he) (me_ne (x := x) (by kernel_rfl) rfl hs he))).trans rfl)
theorem itP9_4 (hs : PySem.SeqAt.shaped x = true) (he : PyData.eqv x x = true) : execs G (Fn G fs (n + 1)) bP [some (.p x), some (exD 9 x), some (exD 9 x), some (nmD 9)] (hp [k1, k2, k3, k4]) = .nx [some (.p x), some (exD 9 x), some (exD 9 x), some (nmD 9)] (hp [k1, k2, k3, k4]) := by exact (mx_iteF0 (by kernel_rfl)).trans ((mx_iteF0 (me_or (me_ne (x := x) (by kernel_rfl) rfl hs he) (me_ne (x := x) (by kernel_rfl) rfl hs he))).trans rfl)
theorem itP10_4 (hs : PySem.SeqAt.shaped x = true) (he : PyData.eqv x x = true) : execs G (Fn G fs (n + 1)) bP [some (.p x), some (exD 10 x), some (exD 10 x), some (nmD 10)] (hp [k1, k2, k3, k4]) = .nx [some (.p x), some (exD 10 x), some (exD 10 x), some (nmD 10)] (hp [k1, k2, k3, k4]) := by exact (mx_iteF0 (by kernel_rfl)).trans ((mx_iteF0 (me_or (me_ne (x := x) (by kernel_rfl) rfl hs he) (me_ne (x := x) (by kernel_rfl) rfl hs he))).trans rfl)
theorem itP11_4 (hs : PySem.SeqAt.shaped x = true) (he : PyData.eqv x x = true) : execs G (Fn G fs (n + 1)) bP [some (.p x), some (exD 11 x), some (exD 11 x), some (nmD 11)] (hp [k1, k2, k3, k4]) = .nx [some (.p x), some (exD 11 x), some (exD 11 x), some (nmD 11)] (hp [k1, k2, k3, k4]) := by exact (mx_iteF0 (by kernel_rfl)).trans ((mx_iteF0 (me_or (me_ne (x := x) (by kernel_rfl) rfl hs he) (me_ne (x := x) (by kernel_rfl) rfl hs he))).trans rfl)
theorem itP12_4 (hs : PySem.SeqAt.shaped x = true) (he : PyData.eqv x x = true) : execs G (Fn G fs (n + 1)) bP [some (.p x), some (exD 12 x), some (exD 12 x), some (nmD 12)] (hp [k1, k2, k3, k4]) = .nx [some (.p x), some (exD 12 x), some (exD 12 x), some (nmD 12)] (hp [k1, k2, k3, k4]) := by exact (mx_iteF0 (by kernel_rfl)).trans ((mx_iteF0 (me_or (me_ne (x := x) (by kernel_rfl) rfl hs he) (me_ne (x := x) (by kernel_rfl) rfl hs he))).trans rfl)
theorem itP13_4 (hs : PySem.SeqAt.shaped x = true) (he : PyData.eqv x x = true) : execs G (Fn G fs (n + 1)) bP [some (.p x), some (exD 13 x), some (exD 13 x), some (nmD 13)] (hp [k1, k2, k3, k4]) = .nx [some (.p x), some (exD 13 x), some (exD 13 x), some (nmD 13)] (hp [k1, k2, k3, k4]) := by exact (mx_iteF0 (by kernel_rfl)).trans ((mx_iteF0 (me_or (me_ne (x := x) (by kernel_rfl) rfl hs he) (me_ne (x := x) (by kernel_rfl) rfl hs he))).trans rfl)
theorem itP14_4 (hs : PySem.SeqAt.shaped x = true) (he : PyData.eqv x x = true) : execs G (Fn G fs (n + 1)) bP [some (.p x), some (exD 14 x), some (exD 14 x), some (nmD 14)] (hp [k1, k2, k3, k4]) = .nx [some (.p x), some (exD 14 x), some (exD 14 x), some (nmD 14)] (hp [k1, k2, k3, k4]) := by exact (mx_iteF0 (by kernel_rfl)).trans ((mx_iteF0 (me_or (me_ne (x := x) (by kernel_rfl) rfl hs he) (me_ne (x := x) (by kernel_rfl) rfl hs he))).trans rfl)
theorem itP15_4 (hs : PySem.SeqAt.shaped x = true) (he : PyData.eqv x x = true) : execs G (Fn G fs (n + 1)) bP [some (.p x), some (exD 15 x), some (exD 15 x), some (nmD 15)] (hp [k1, k2, k3, k4]) = .nx [some (.p x), some (exD 15 x), some (exD 15 x), some (nmD 15)] (hp [k1, k2, k3, k4]) := by exact (mx_iteF0 (by kernel_rfl)).trans ((mx_iteF0 (me_or (me_ne (x := x) (by kernel_rfl) rfl hs he) (me_ne (x := x) (by kernel_rfl) rfl hs he))).trans rfl)
theorem itP16_4 (hs : PySem.SeqAt.shaped x = true) (he : PyData.eqv x x = true) : execs G (Fn G fs (n + 1)) bP [some (.p x), some (exD 16 x), some (exD 16 x), some (nmD 16)] (hp [k1, k2, k3, k4]) = .nx [some (.p x), some (exD 16 x), some (exD 16 x), some (nmD 16)] (hp [k1, k2, k3, k4]) := by exact (mx_iteF0 (by kernel_rfl)).trans ((mx_iteF0 (me_or (me_ne (x := x) (by kernel_rfl) rfl hs he) (me_ne (x := x) (by kernel_rfl) rfl hs he))).trans rfl)
theorem itP17_4 (hs : PySem.SeqAt.shaped x = true) (he : PyData.eqv x x = true) : execs G (Fn G fs (n + 1)) bP [some (.p x), some (exD 17 x), some (exD 17 x), some (nmD 17)] (hp [k1, k2, k3, k4]) = .nx [some (.p x), some (exD 17 x), some (exD 17 x), some (nmD 17)] (hp [k1, k2, k3, k4]) := by exact (mx_iteF0 (by kernel_rfl)).trans ((mx_iteF0 (me_or (me_ne (x := x) (by kernel_rfl) rfl hs he) (me_ne (x := x) (by kernel_rfl) rfl hs he))).trans rfl)
theorem itP18_4 (hs : PySem.SeqAt.shaped x = true) (he : PyData.eqv x x = true) : execs G (Fn G fs (n + 1)) bP [some (.p x), some (exD 18 x), some (exD 18 x), some (nmD 18)] (hp [k1, k2, k3, k4]) = .nx [some (.p x), some (exD 18 x), some (exD 18 x), some (nmD 18)] (hp [k1, k2, k3, k4]) := by exact (mx_iteF0 (by kernel_rfl)).trans ((mx_iteF0 (me_or (me_ne (x := x) (by kernel_rfl) rfl hs he) (me_ne (x := x) (by kernel_rfl) rfl hs he))).trans rfl)
theorem itP19_4 (hs : PySem.SeqAt.shaped x = true) (he : PyData.eqv x x = true) : execs G (Fn G fs (n + 1)) bP [some (.p x), some (exD 19 x), some (exD 19 x), some (nmD 19)] (hp [k1, k2, k3, k4]) = .nx [some (.p x), some (exD 19 x), some (exD 19 x), some (nmD 19)] (hp [k1, k2, k3, k4]) := by exact (mx_iteF0 (by kernel_rfl)).trans ((mx_iteF0 (me_or (me_ne (x := x) (by kernel_rfl) rfl hs he) (me_ne (x := x) (by kernel_rfl) rfl hs he))).trans rfl)
theorem itP20_4 (hs : PySem.SeqAt.shaped x = true) (he : PyData.eqv x x = true) : execs G (Fn G fs (n + 1)) bP [some (.p x), some (exD 20 x), some (exD 20 x), some (nmD 20)] (hp [k1, k2, k3, k4]) = .nx [some (.p x), some (exD 20 x), some (exD 20 x), some (nmD 20)] (hp [k1, k2, k3, k4]) := by exact (mx_iteF0 (by kernel_rfl)).trans ((mx_iteF0 (me_or (me_ne (x := x) (by kernel_rfl) rfl hs he) (me_ne (x := x) (by kernel_rfl) rfl hs he))).trans rfl)
theorem itP21_4 (hs : PySem.SeqAt.shaped x = true) (he : PyData.eqv x x = true) : execs G (Fn G fs (n + 1)) bP [some (.p x), some (exD 21 x), some (exD 21 x), some (nmD 21)] (hp [k1, k2, k3, k4]) = .nx [some (.p x), some (exD 21 x), some (exD 21 x), some (nmD 21)] (hp [k1, k2, k3, k4]) := by exact (mx_iteF0 (by kernel_rfl)).trans ((mx_iteF0 (me_or (me_ne (x := x) (by kernel_rfl) rfl hs he) (me_ne (x := x) (by kernel_rfl) rfl hs he))).trans rfl)
theorem it23_4 {a b : Option D} (hs : PySem.SeqAt.shaped x = true) (he : PyData.eqv x x = true) : execs G (Fn G fs (n + 1)) bN [some (.p x), some (exD 23 x), a, b] (hp [k1, k2, k3, k4]) = .nx [some (.p x), some (exD 23 x), a, b] (hp [k1, k2, k3, k4]) := by exact (mx_iteF0 (me_or (by kernel_rfl) (me_ne (x := x) (by kernel_rfl) rfl hs he))).trans rfl
theorem it22_4 {a b : Option D} (hs : PySem.SeqAt.shaped x = true) (he : PyData.eqv x x = true) : execs G (Fn G fs (n + 1)) bT [some (.p x), some (exD 22 x), a, b] (hp [k1, k2, k3, k4]) = .nx [some (.p x), some (exD 22 x), a, b] (hp [k1, k2, k3, k4]) := by exact (mx_iteF0 (me_or (by kernel_rfl) (me_ne (x := x) (by kernel_rfl) rfl hs he))).trans rfl
theorem lpV_4 (hs : PySem.SeqAt.shaped x = true) (he : PyData.eqv x x = true) {σ : Sg} (i : I4 x σ) : ∃ σ', forGo (.tup [.v 1, .v 2, .v 3]) (execs G (Fn G fs (n + 1)) bV) (valD x) σ (hp [k1, k2, k3, k4]) = .nx σ' (hp [k1, k2, k3, k4]) ∧ I4 x σ' := by
  refine for_inv (I4 x) _ (fun y hy σ i => ?_) σ i
  obtain ⟨a, b, c, rfl⟩ := i
  have hy' : y = .tup [exD 0 x, exD 0 x, nmD 0] ∨ y = .tup [exD 1 x, exD 1 x, nmD 1] ∨ y = .tup [exD 2 x, exD 2 x, nmD 2] := by simpa only [valD, List.map_cons, List.map_nil, List.mem_cons, List.not_mem_nil, or_false] using hy
  rcases hy' with rfl | rfl | rfl
  · exact ⟨_, rfl, _, itV0_4 hs he, _, _, _, rfl⟩
  · exact ⟨_, rfl, _, itV1_4 hs he, _, _, _, rfl⟩
  · exact ⟨_, rfl, _, itV2_4 hs he, _, _, _, rfl⟩
theorem lpP_4 (hs : PySem.SeqAt.shaped x = true) (he : PyData.eqv x x = true) {σ : Sg} (i : I4 x σ) : ∃ σ', forGo (.tup [.v 1, .v 2, .v 3]) (execs G (Fn G fs (n + 1)) bP) (plaD x) σ (hp [k1, k2, k3, k4]) = .nx σ' (hp [k1, k2, k3, k4]) ∧ I4 x σ' := by
  refine for_inv (I4 x) _ (fun y hy σ i => ?_) σ i
  obtain ⟨a, b, c, rfl⟩ := i
  have hy' : y = .tup [exD 3 x, exD 3 x, nmD 3] ∨ y = .tup [exD 4 x, exD 4 x, nmD 4] ∨ y = .tup [exD 5 x, exD 5 x, nmD 5] ∨ y = .tup [exD 6 x, exD 6 x, nmD 6] ∨ y = .tup [exD 7 x, exD 7 x, nmD 7] ∨ y = .tup [exD 8 x, exD 8 x, nmD 8] ∨ y = .tup [exD 9 x, exD 9 x, nmD 9] ∨ y = .tup [exD 10 x, exD 10 x, nmD 10] ∨ y = .tup [exD 11 x, exD 11 x, nmD 11] ∨ y = .tup [exD 12 x, exD 12 x, nmD 12] ∨ y = .tup [exD 13 x, exD 13 x, nmD 13] ∨ y = .tup [exD 14 x, exD 14 x, nmD 14] ∨ y = .tup [exD 15 x, exD 15 x, nmD 15] ∨ y = .tup [exD 16 x, exD 16 x, nmD 16] ∨ y = .tup [exD 17 x, exD 17 x, nmD 17] ∨ y = .tup [exD 18 x, exD 18 x, nmD 18] ∨ y = .tup [exD 19 x, exD 19 x, nmD 19] ∨ y = .tup [exD 20 x, exD 20 x, nmD 20] ∨ y = .tup [exD 21 x, exD 21 x, nmD 21] := by simpa only [plaD, List.map_cons, List.map_nil, List.mem_cons, List.not_mem_nil, or_false] using hy
  rcases hy' with rfl | rfl | rfl | rfl | rfl | rfl | rfl | rfl | rfl | rfl | rfl | rfl | rfl | rfl | rfl | rfl | rfl | rfl | rfl
  · exact ⟨_, rfl, _, itP3_4 hs he, _, _, _, rfl⟩
  · exact ⟨_, rfl, _, itP4_4 hs he, _, _, _, rfl⟩
  · exact ⟨_, rfl, _, itP5_4 hs he, _, _, _, rfl⟩
  · exact ⟨_, rfl, _, itP6_4 hs he, _, _, _, rfl⟩
  · exact ⟨_, rfl, _, itP7_4 hs he, _, _, _, rfl⟩
  · exact ⟨_, rfl, _, itP8_4 hs he, _, _, _, rfl⟩
  · exact ⟨_, rfl, _, itP9_4 hs he, _, _, _, rfl⟩
  · exact ⟨_, rfl, _, itP10_4 hs he, _, _, _, rfl⟩
  · exact ⟨_, rfl, _, itP11_4 hs he, _, _, _, rfl⟩
  · exact ⟨_, rfl, _, itP12_4 hs he, _, _, _, rfl⟩
  · exact ⟨_, rfl, _, itP13_4 hs he, _, _, _, rfl⟩
  · exact ⟨_, rfl, _, itP14_4 hs he, _, _, _, rfl⟩
  · exact ⟨_, rfl, _, itP15_4 hs he, _, _, _, rfl⟩
  · exact ⟨_, rfl, _, itP16_4 hs he, _, _, _, rfl⟩
  · exact ⟨_, rfl, _, itP17_4 hs he, _, _, _, rfl⟩
  · exact ⟨_, rfl, _, itP18_4 hs he, _, _, _, rfl⟩
  · exact ⟨_, rfl, _, itP19_4 hs he, _, _, _, rfl⟩
  · exact ⟨_, rfl, _, itP20_4 hs he, _, _, _, rfl⟩
  · exact ⟨_, rfl, _, itP21_4 hs he, _, _, _, rfl⟩
theorem lp23_4 (hs : PySem.SeqAt.shaped x = true) (he : PyData.eqv x x = true) {σ : Sg} (i : I4 x σ) : ∃ σ', forGo (.v 1) (execs G (Fn G fs (n + 1)) bN) [exD 23 x, exD 23 x] σ (hp [k1, k2, k3, k4]) = .nx σ' (hp [k1, k2, k3, k4]) ∧ I4 x σ' := by
  refine for_inv (I4 x) _ (fun y hy σ i => ?_) σ i
  obtain ⟨a, b, c, rfl⟩ := i
  have hy' : y = exD 23 x := by simpa only [List.mem_cons, List.not_mem_nil, or_false, or_self] using hy
  subst hy'
  exact ⟨_, rfl, _, it23_4 hs he, _, _, _, rfl⟩
theorem lp22_4 (hs : PySem.SeqAt.shaped x = true) (he : PyData.eqv x x = true) {σ : Sg} (i : I4 x σ) : ∃ σ', forGo (.v 1) (execs G (Fn G fs (n + 1)) bT) [exD 22 x, exD 22 x] σ (hp [k1, k2, k3, k4]) = .nx σ' (hp [k1, k2, k3, k4]) ∧ I4 x σ' := by
  refine for_inv (I4 x) _ (fun y hy σ i => ?_) σ i
  obtain ⟨a, b, c, rfl⟩ := i
  have hy' : y = exD 22 x := by simpa only [List.mem_cons, List.not_mem_nil, or_false, or_self] using hy
  subst hy'
  exact ⟨_, rfl, _, it22_4 hs he, _, _, _, rfl⟩
theorem right_4 (hs : PySem.SeqAt.shaped x = true) (he : PyData.eqv x x = true) : Fn G fs (n + 2) 6 [.p x] (hp [k1, k2, k3, k4]) = .ok (.p (.bool true)) (hp [k1, k2, k3, k4]) := by
  obtain ⟨σ1, e1, i1⟩ := lpV_4 (n := n) (k1 := k1) (k2 := k2) (k3 := k3) (k4 := k4) hs he (σ := [some (.p x), none, none, none]) ⟨_, _, _, rfl⟩
  obtain ⟨σ2, e2, i2⟩ := lpP_4 (n := n) (k1 := k1) (k2 := k2) (k3 := k3) (k4 := k4) hs he i1
  obtain ⟨σ3, e3, i3⟩ := lp23_4 (n := n) (k1 := k1) (k2 := k2) (k3 := k3) (k4 := k4) hs he i2
  obtain ⟨σ4, e4, i4⟩ := lp22_4 (n := n) (k1 := k1) (k2 := k2) (k3 := k3) (k4 := k4) hs he i3
  have hb : execs G (Fn G fs (n + 1)) fd_law_right.body [some (.p x), none, none, none] (hp [k1, k2, k3, k4]) = .rt (.p (.bool true)) (hp [k1, k2, k3, k4]) := by
    refine (mx_for [.lst (valD x)] (valD x) (by kernel_rfl) rfl rfl rfl e1).trans ?_
    obtain ⟨a1, b1, c1, rfl⟩ := i1
    refine (mx_for [.lst (plaD x)] (plaD x) (by kernel_rfl) rfl rfl rfl e2).trans ?_
    obtain ⟨a2, b2, c2, rfl⟩ := i2
    refine (mx_for [.tup [exD 23 x, exD 23 x]] [exD 23 x, exD 23 x] (by kernel_rfl) rfl rfl rfl e3).trans ?_
    obtain ⟨a3, b3, c3, rfl⟩ := i3
    refine (mx_for [.tup [exD 22 x, exD 22 x]] [exD 22 x, exD 22 x] (by kernel_rfl) rfl rfl rfl e4).trans ?_
    exact mx_ret rfl
  exact fn_rt rfl rfl hb
end
section
variable {n : Nat} {x : P} {k1 k2 k3 k4 k5 : List (P × P)}
theorem itV0_5 (hs : PySem.SeqAt.shaped x = true) (he : PyData.eqv x x = true) : execs G (Fn G fs (n + 1)) bV [some (.p x), some (exD 0 x), some (exD 0 x), some (nmD 0)] (hp [k1, k2, k3, k4, k5]) = .nx [some (.p x), some (exD 0 x), some (exD 0 x), some (nmD 0)] (hp [k1, k2, k3, k4, k5]) := by exact (mx_iteF0 (by kernel_rfl)).trans ((mx_iteF0 (me_or (me_ne (x := x) (by kernel_rfl) rfl hs he) (me_ne (x := x) (by kernel_rfl) rfl hs he))).trans rfl)
theorem itV1_5 (hs : PySem.SeqAt.shaped x = true) (he : PyData.eqv x x = true) : execs G (Fn G fs (n + 1)) bV [some (.p x), some (exD 1 x), some (exD 1 x), some (nmD 1)] (hp [k1, k2, k3, k4, k5]) = .nx [some (.p x), some (exD 1 x), some (exD 1 x), some (nmD 1)] (hp [k1, k2, k3, k4, k5]) := by exact (mx_iteF0 (by kernel_rfl)).trans ((mx_iteF0 (me_or (me_ne (x := x) (by kernel_rfl) rfl hs he) (me_ne (x := x) (by kernel_rfl) rfl hs he))).trans rfl)
theorem itV2_5 (hs : PySem.SeqAt.shaped x = true) (he : PyData.eqv x x = true) : execs G (Fn G fs (n + 1)) bV [some (.p x), some (exD 2 x), some (exD 2 x), some (nmD 2)] (hp [k1, k2, k3, k4, k5]) = .nx [some (.p x), some (exD 2 x), some (exD 2 x), some (nmD 2)] (hp [k1, k2, k3, k4, k5]) := by exact (mx_iteF0 (by kernel_rfl)).trans ((mx_iteF0 (me_or (me_ne (x := x) (by kernel_rfl) rfl hs he) (me_ne (x := x) (by kernel_rfl) rfl hs he))).trans rfl)
theorem itP3_5 (hs : PySem.SeqAt.shaped x = true) (he : PyData.eqv x x = true) : execs G (Fn G fs (n + 1)) bP [some (.p x), some (exD 3 x), some (exD 3 x), some (nmD 3)] (hp [k1, k2, k3, k4, k5]) = .nx [some (.p x), some (exD 3 x), some (exD 3 x), some (nmD 3)] (hp [k1, k2, k3, k4, k5]) := by exact (mx_iteF0 (by kernel_rfl)).trans ((mx_iteF0 (me_or (me_ne (x := x) (by kernel_rfl) rfl hs he) (me_ne (x := x) (by kernel_rfl) rfl hs he))).trans rfl)
theorem itP4_5 (hs : PySem.SeqAt.shaped x = true) (he : PyData.eqv x x = true) : execs G (Fn G fs (n + 1)) bP [some (.p x), some (exD 4 x), some (exD 4 x), some (nmD 4)] (hp [k1, k2, k3, k4, k5]) = .nx [some (.p x), some (exD 4 x), some (exD 4 x), some (nmD 4)] (hp [k1, k2, k3, k4, k5]) := by exact (mx_iteF0 (by kernel_rfl)).trans ((mx_iteF0 (me_or (me_ne (x := x) (by kernel_rfl) rfl hs he) (me_ne (x := x) (by kernel_rfl) rfl hs he))).trans rfl)
theorem itP5_5 (hs : PySem.SeqAt.shaped x = true) (he : PyData.eqv x x = true) : execs G (Fn G fs (n + 1)) bP [some (.p x), some (exD 5 x), some (exD 5 x), some (nmD 5)] (hp [k1, k2, k3, k4, k5]) = .nx [some (.p x), some (exD 5 x), some (exD 5 x), some (nmD 5)] (hp [k1, k2, k3, k4, k5]) := by exact (mx_iteF0 (by kernel_rfl)).trans ((mx_iteF0 (me_or (me_ne (x := x) (by kernel_rfl) rfl hs he) (me_ne (x := x) (by kernel_rfl) rfl hs he))).trans rfl)
theorem itP6_5 (hs : PySem.SeqAt.shaped x = true) (he : PyData.eqv x x = true) : execs G (Fn G fs (n + 1)) bP [some (.p x), some (exD 6 x), some (exD 6 x), some (nmD 6)] (hp [k1, k2, k3, k4, k5]) = .nx [some (.p x), some (exD 6 x), some (exD 6 x), some (nmD 6)] (hp [k1, k2, k3, k4, k5]) := by exact (mx_iteF0 (by kernel_rfl)).trans ((mx_iteF0 (me_or (me_ne (x := x) (by kernel_rfl) rfl hs he) (me_ne (x := x) (by kernel_rfl) rfl hs he))).trans rfl)
theorem itP7_5 (hs : PySem.SeqAt.shaped x = true) (he : PyData.eqv x x = true) : execs G (Fn G fs (n + 1)) bP [some (.p x), some (exD 7 x), some (exD 7 x), some (nmD 7)] (hp [k1, k2, k3, k4, k5]) = .nx [some (.p x), some (exD 7 x), some (exD 7 x), some (nmD 7)] (hp [k1, k2, k3, k4, k5]) := by exact (mx_iteF0 (by kernel_rfl)).trans ((mx_iteF0 (me_or (me_ne (x := x) (by kernel_rfl) rfl hs he) (me_ne (x := x) (by kernel_rfl) rfl hs he))).trans rfl)
theorem itP8_5 (hs : PySem.SeqAt.shaped x = true) (he : PyData.eqv x x = true) : execs G (Fn G fs (n + 1)) bP [some (.p x), some (exD 8 x), some (exD 8 x), some (nmD 8)] (hp [k1, k2, k3, k4, k5]) = .nx [some (.p x), some (exD 8 x), some (exD 8 x), some (nmD 8)] (hp [k1, k2, k3, k4, k5]) := by exact (mx_iteF0 (by kernel_rfl)).trans ((mx_iteF0 (me_or (me_ne (x := x) (by kernel_rfl) rfl hs he) (me_ne (x := x) (by kernel_rfl) rfl hs he))).trans rfl)
theorem itP9_5 (hs : PySem.SeqAt.shaped x = true) (he : PyData.eqv x x = true) : execs G (Fn G fs (n + 1)) bP [some (.p x), some (exD 9 x), some (exD 9 x), some (nmD 9)] (hp [k1, k2, k3, k4, k5]) = .nx [some (.p x), some (exD 9 x), some (exD 9 x), some (nmD 9)] (hp [k1, k2, k3, k4, k5]) := by exact (mx_iteF0 (by kernel_rfl)).trans ((mx_iteF0 (me_or (me_ne (x := x) (by kernel_rfl) rfl hs he) (me_ne (x := x) (by kernel_rfl) rfl hs he))).trans rfl)
theorem itP10_5 (hs : PySem.SeqAt.shaped x = true) (he : PyData.eqv x x = true) : execs G (Fn G fs (n + 1)) bP [some (.p x), some (exD 10 x), some (exD 10 x), some (nmD 10)] (hp [k1, k2, k3, k4, k5]) = .nx [some (.p x), some (exD 10 x), some (exD 10 x), some (nmD 10)] (hp [k1, k2, k3, k4, k5]) := by exact (mx_iteF0 (by kernel_rfl)).trans ((mx_iteF0 (me_or (me_ne (x := x) (by kernel_rfl) rfl hs he) (me_ne (x := x) (by kernel_rfl) rfl hs he))).trans rfl)
theorem itP11_5 (hs : PySem.SeqAt.shaped x = true) (he : PyData.eqv x x = true) : execs G (Fn G fs (n + 1)) bP [some (.p x), some (exD 11 x), some (exD 11 x), some (nmD 11)] (hp [k1, k2, k3, k4, k5]) = .nx [some (.p x), some (exD 11 x), some (exD 11 x), some (nmD 11)] (hp [k1, k2, k3, k4, k5]) := by exact (mx_iteF0 (by kernel_rfl)).trans ((mx_iteF0 (me_or (me_ne (x := x) (by kernel_rfl) rfl hs he) (me_ne (x := x) (by kernel_rfl) rfl hs he))).trans rfl)
theorem itP12_5 (hs : PySem.SeqAt.shaped x = true) (he : PyData.eqv x x = true) : execs G (Fn G fs (n + 1)) bP [some (.p x), some (exD 12 x), some (exD 12 x), some (nmD 12)] (hp [k1, k2, k3, k4, k5]) = .nx [some (.p x), some (exD 12 x), some (exD 12 x), some (nmD 12)] (hp [k1, k2, k3, k4, k5]) := by exact (mx_iteF0 (by kernel_rfl)).trans ((mx_iteF0 (me_or (me_ne (x := x) (by kernel_rfl) rfl hs he) (me_ne (x := x) (by kernel_rfl) rfl hs he))).trans rfl)
theorem itP13_5 (hs : PySem.SeqAt.shaped x = true) (he : PyData.eqv x x = true) : execs G (Fn G fs (n + 1)) bP [some (.p x), some (exD 13 x), some (exD 13 x), some (nmD 13)] (hp [k1, k2, k3, k4, k5]) = .nx [some (.p x), some (exD 13 x), some (exD 13 x), some (nmD 13)] (hp [k1, k2, k3, k4, k5]) := by exact (mx_iteF0 (by kernel_rfl)).trans ((mx_iteF0 (me_or (me_ne (x := x) (by kernel_rfl) rfl hs he) (me_ne (x := x) (by kernel_rfl) rfl hs he))).trans rfl)
theorem itP14_5 (hs : PySem.SeqAt.shaped x = true) (he : PyData.eqv x x = true) : execs G (Fn G fs (n + 1)) bP [some (.p x), some (exD 14 x), some (exD 14 x), some (nmD 14)] (hp [k1, k2, k3, k4, k5]) = .nx [some (.p x), some (exD 14 x), some (exD 14 x), some (nmD 14)] (hp [k1, k2, k3, k4, k5]) := by exact (mx_iteF0 (by kernel_rfl)).trans ((mx_iteF0 (me_or (me_ne (x := x) (by kernel_rfl) rfl hs he) (me_ne (x := x) (by kernel_rfl) rfl hs he))).trans rfl)
theorem itP15_5 (hs : PySem.SeqAt.shaped x = true) (he : PyData.eqv x x = true) : execs G (Fn G fs (n + 1)) bP [some (.p x), some (exD 15 x), some (exD 15 x), some (nmD 15)] (hp [k1, k2, k3, k4, k5]) = .nx [some (.p x), some (exD 15 x), some (exD 15 x), some (nmD 15)] (hp [k1, k2, k3, k4, k5]) := by exact (mx_iteF0 (by kernel_rfl)).trans ((mx_iteF0 (me_or (me_ne (x := x) (by kernel_rfl) rfl hs he) (me_ne (x := x) (by kernel_rfl) rfl hs he))).trans rfl)
theorem itP16_5 (hs : PySem.SeqAt.shaped x = true) (he : PyData.eqv x x = true) : execs G (Fn G fs (n + 1)) bP [some (.p x), some (exD 16 x), some (exD 16 x), some (nmD 16)] (hp [k1, k2, k3, k4, k5]) = .nx [some (.p x), some (exD 16 x), some (exD 16 x), some (nmD 16)] (hp [k1, k2, k3, k4, k5]) := by exact (mx_iteF0 (by kernel_rfl)).trans ((mx_iteF0 (me_or (me_ne (x := x) (by kernel_rfl) rfl hs he) (me_ne (x := x) (by kernel_rfl) rfl hs he))).trans rfl)
theorem itP17_5 (hs : PySem.SeqAt.shaped x = true) (he : PyData.eqv x x = true) : execs G (Fn G fs (n + 1)) bP [some (.p x), some (exD 17 x), some (exD 17 x), some (nmD 17)] (hp [k1, k2, k3, k4, k5]) = .nx [some (.p x), some (exD 17 x), some (exD 17 x), some (nmD 17)] (hp [k1, k2, k3, k4, k5]) := by exact (mx_iteF0 (by kernel_rfl)).trans ((mx_iteF0 (me_or (me_ne (x := x) (by kernel_rfl) rfl hs he) (me_ne (x := x) (by kernel_rfl) rfl hs he))).trans rfl)
theorem itP18_5 (hs : PySem.SeqAt.shaped x = true) (he : PyData.eqv x x = true) : execs G (Fn G fs (n + 1)) bP [some (.p x), some (exD 18 x), some (exD 18 x), some (nmD 18)] (hp [k1, k2, k3, k4, k5]) = .nx [some (.p x), some (exD 18 x), some (exD 18 x), some (nmD 18)] (hp [k1, k2, k3, k4, k5]) := by exact (mx_iteF0 (by kernel_rfl)).trans ((mx_iteF0 (me_or (me_ne (x := x) (by kernel_rfl) rfl hs he) (me_ne (x := x) (by kernel_rfl) rfl hs he))).trans rfl)
theorem itP19_5 (hs : PySem.SeqAt.shaped x = true) (he : PyData.eqv x x = true) : execs G (Fn G fs (n + 1)) bP [some (.p x), some (exD 19 x), some (exD 19 x), some (nmD 19)] (hp [k1, k2, k3, k4, k5]) = .nx [some (.p x), some (exD 19 x), some (exD 19 x), some (nmD 19)] (hp [k1, k2, k3, k4, k5]) := by exact (mx_iteF0 (by kernel_rfl)).trans ((mx_iteF0 (me_or (me_ne (x := x) (by kernel_rfl) rfl hs he) (me_ne (x := x) (by kernel_rfl) rfl hs he))).trans rfl)
theorem itP20_5 (hs : PySem.SeqAt.shaped x = true) (he : PyData.eqv x x = true) : execs G (Fn G fs (n + 1)) bP [some (.p x), some (exD 20 x), some (exD 20 x), some (nmD 20)] (hp [k1, k2, k3, k4, k5]) = .nx [some (.p x), some (exD 20 x), some (exD 20 x), some (nmD 20)] (hp [k1, k2, k3, k4, k5]) := by exact (mx_iteF0 (by kernel_rfl)).trans ((mx_iteF0 (me_or (me_ne (x := x) (by kernel_rfl) rfl hs he) (me_ne (x := x) (by kernel_rfl) rfl hs he))).trans rfl)
theorem itP21_5 (hs : PySem.SeqAt.shaped x = true) (he : PyData.eqv x x = true) : execs G (Fn G fs (n + 1)) bP [some (.p x), some (exD 21 x), some (exD 21 x), some (nmD 21)] (hp [k1, k2, k3, k4, k5]) = .nx [some (.p x), some (exD 21 x), some (exD 21 x), some (nmD 21)] (hp [k1, k2, k3, k4, k5]) := by exact (mx_iteF0 (by kernel_rfl)).trans ((mx_iteF0 (me_or (me_ne (x := x) (by kernel_rfl) rfl hs he) (me_ne (x := x) (by kernel_rfl) rfl hs he))).trans rfl)
theorem it23_5 {a b : Option D} (hs : PySem.SeqAt.shaped x = true) (he : PyData.eqv x x = true) : execs G (Fn G fs (n + 1)) bN [some (.p x), some (exD 23 x), a, b] (hp [k1, k2, k3, k4, k5]) = .nx [some (.p x), some (exD 23 x), a, b] (hp [k1, k2, k3, k4, k5]) := by exact (mx_iteF0 (me_or (by kernel_rfl) (me_ne (x := x) (by kernel_rfl) rfl hs he))).trans rfl
theorem it22_5 {a b : Option D} (hs : PySem.SeqAt.shaped x = true) (he : PyData.eqv x x = true) : execs G (Fn G fs (n + 1)) bT [some (.p x), some (exD 22 x), a, b] (hp [k1, k2, k3, k4, k5]) = .nx [some (.p x), some (exD 22 x), a, b] (hp [k1, k2, k3, k4, k5]) := by exact (mx_iteF0 (me_or (by kernel_rfl) (me_ne (x := x) (by kernel_rfl) rfl hs he))).trans rfl
theorem lpV_5 (hs : PySem.SeqAt.shaped x = true) (he : PyData.eqv x x = true) {σ : Sg} (i : I4 x σ) : ∃ σ', forGo (.tup [.v 1, .v 2, .v 3]) (execs G (Fn G fs (n + 1)) bV) (valD x) σ (hp [k1, k2, k3, k4, k5]) = .nx σ' (hp [k1, k2, k3, k4, k5]) ∧ I4 x σ' := by
  refine for_inv (I4 x) _ (fun y hy σ i => ?_) σ i
  obtain ⟨a, b, c, rfl⟩ := i
  have hy' : y = .tup [exD 0 x, exD 0 x, nmD 0] ∨ y = .tup [exD 1 x, exD 1 x, nmD 1] ∨ y = .tup [exD 2 x, exD 2 x, nmD 2] := by simpa only [valD, List.map_cons, List.map_nil, List.mem_cons, List.not_mem_nil, or_false] using hy
  rcases hy' with rfl | rfl | rfl
  · exact ⟨_, rfl, _, itV0_5 hs he, _, _, _, rfl⟩
  · exact ⟨_, rfl, _, itV1_5 hs he, _, _, _, rfl⟩
  · exact ⟨_, rfl, _, itV2_5 hs he, _, _, _, rfl⟩
theorem lpP_5 (hs : PySem.SeqAt.shaped x = true) (he : PyData.eqv x x = true) {σ : Sg} (i : I4 x σ) : ∃ σ', forGo (.tup [.v 1, .v 2, .v 3]) (execs G (Fn G fs (n + 1)) bP) (plaD x) σ (hp [k1, k2, k3, k4, k5]) = .nx σ' (hp [k1, k2, k3, k4, k5]) ∧ I4 x σ' := by
  refine for_inv (I4 x) _ (fun y hy σ i => ?_) σ i
  obtain ⟨a, b, c, rfl⟩ := i
  have hy' : y = .tup [exD 3 x, exD 3 x, nmD 3] ∨ y = .tup [exD 4 x, exD 4 x, nmD 4] ∨ y = .tup [exD 5 x, exD 5 x, nmD 5] ∨ y = .tup [exD 6 x, exD 6 x, nmD 6] ∨ y = .tup [exD 7 x, exD 7 x, nmD 7] ∨ y = .tup [exD 8 x, exD 8 x, nmD 8] ∨ y = .tup [exD 9 x, exD 9 x, nmD 9] ∨ y = .tup [exD 10 x, exD 10 x, nmD 10] ∨ y = .tup [exD 11 x, exD 11 x, nmD 11] ∨ y = .tup [exD 12 x, exD 12 x, nmD 12] ∨ y = .tup [exD 13 x, exD 13 x, nmD 13] ∨ y = .tup [exD 14 x, exD 14 x, nmD 14] ∨ y = .tup [exD 15 x, exD 15 x, nmD 15] ∨ y = .tup [exD 16 x, exD 16 x, nmD 16] ∨ y = .tup [exD 17 x, exD 17 x, nmD 17] ∨ y = .tup [exD 18 x, exD 18 x, nmD 18] ∨ y = .tup [exD 19 x, exD 19 x, nmD 19] ∨ y = .tup [exD 20 x, exD 20 x, nmD 20] ∨ y = .tup [exD 21 x, exD 21 x, nmD 21] := by simpa only [plaD, List.map_cons, List.map_nil, List.mem_cons, List.not_mem_nil, or_false] using hy
  rcases hy' with rfl | rfl | rfl | rfl | rfl | rfl | rfl | rfl | rfl | rfl | rfl | rfl | rfl | rfl | rfl | rfl | rfl | rfl | rfl
  · exact ⟨_, rfl, _, itP3_5 hs he, _, _, _, rfl⟩
  · exact ⟨_, rfl, _, itP4_5 hs he, _, _, _, rfl⟩
  · exact ⟨_, rfl, _, itP5_5 hs he, _, _, _, rfl⟩
  · exact ⟨_, rfl, _, itP6_5 hs he, _, _, _, rfl⟩
  · exact ⟨_, rfl, _, itP7_5 hs he, _, _, _, rfl⟩
  · exact ⟨_, rfl, _, itP8_5 hs he, _, _, _, rfl⟩
  · exact ⟨_, rfl, _, itP9_5 hs he, _, _, _, rfl⟩
  · exact ⟨_, rfl, _, itP10_5 hs he, _, _, _, rfl⟩
  · exact ⟨_, rfl, _, itP11_5 hs he, _, _, _, rfl⟩
  · exact ⟨_, rfl, _, itP12_5 hs he, _, _, _, rfl⟩
  · exact ⟨_, rfl, _, itP13_5 hs he, _, _, _, rfl⟩
  · exact ⟨_, rfl, _, itP14_5 hs he, _, _, _, rfl⟩
  · exact ⟨_, rfl, _, itP15_5 hs he, _, _, _, rfl⟩
  · exact ⟨_, rfl, _, itP16_5 hs he, _, _, _, rfl⟩
  · exact ⟨_, rfl, _, itP17_5 hs he, _, _, _, rfl⟩
  · exact ⟨_, rfl, _, itP18_5 hs he, _, _, _, rfl⟩
  · exact ⟨_, rfl, _, itP19_5 hs he, _, _, _, rfl⟩
  · exact ⟨_, rfl, _, itP20_5 hs he, _, _, _, rfl⟩
  · exact ⟨_, rfl, _, itP21_5 hs he, _, _, _, rfl⟩
theorem lp23_5 (hs : PySem.SeqAt.shaped x = true) (he : PyData.eqv x x = true) {σ : Sg} (i : I4 x σ) : ∃ σ', forGo (.v 1) (execs G (Fn G fs (n + 1)) bN) [exD 23 x, exD 23 x] σ (hp [k1, k2, k3, k4, k5]) = .nx σ' (hp [k1, k2, k3, k4, k5]) ∧ I4 x σ' := by
  refine for_inv (I4 x) _ (fun y hy σ i => ?_) σ i
  obtain ⟨a, b, c, rfl⟩ := i
  have hy' : y = exD 23 x := by simpa only [List.mem_cons, List.not_mem_nil, or_false, or_self] using hy
  subst hy'
  exact ⟨_, rfl, _, it23_5 hs he, _, _, _, rfl⟩
theorem lp22_5 (hs : PySem.SeqAt.shaped x = true) (he : PyData.eqv x x = true) {σ : Sg} (i : I4 x σ) : ∃ σ', forGo (.v 1) (execs G (Fn G fs (n + 1)) bT) [exD 22 x, exD 22 x] σ (hp [k1, k2, k3, k4, k5]) = .nx σ' (hp [k1, k2, k3, k4, k5]) ∧ I4 x σ' := by
  refine for_inv (I4 x) _ (fun y hy σ i => ?_) σ i
  obtain ⟨a, b, c, rfl⟩ := i
  have hy' : y = exD 22 x := by simpa only [List.mem_cons, List.not_mem_nil, or_false, or_self] using hy
  subst hy'
  exact ⟨_, rfl, _, it22_5 hs he, _, _, _, rfl⟩
theorem right_5 (hs : PySem.SeqAt.shaped x = true) (he : PyData.eqv x x = true) : Fn G fs (n + 2) 6 [.p x] (hp [k1, k2, k3, k4, k5]) = .ok (.p (.bool true)) (hp [k1, k2, k3, k4, k5]) := by
  obtain ⟨σ1, e1, i1⟩ := lpV_5 (n := n) (k1 := k1) (k2 := k2) (k3 := k3) (k4 := k4) (k5 := k5) hs he (σ := [some (.p x), none, none, none]) ⟨_, _, _, rfl⟩
  obtain ⟨σ2, e2, i2⟩ := lpP_5 (n := n) (k1 := k1) (k2 := k2) (k3 := k3) (k4 := k4) (k5 := k5) hs he i1
  obtain ⟨σ3, e3, i3⟩ := lp23_5 (n := n) (k1 := k1) (k2 := k2) (k3 := k3) (k4 := k4) (k5 := k5) hs he i2
  obtain ⟨σ4, e4, i4⟩ := lp22_5 (n := n) (k1 := k1) (k2 := k2) (k3 := k3) (k4 := k4) (k5 := k5) hs he i3
  have hb : execs G (Fn G fs (n + 1)) fd_law_right.body [some (.p x), none, none, none] (hp [k1, k2, k3, k4, k5]) = .rt (.p (.bool true)) (hp [k1, k2, k3, k4, k5]) := by
    refine (mx_for [.lst (valD x)] (valD x) (by kernel_rfl) rfl rfl rfl e1).trans ?_
    obtain ⟨a1, b1, c1, rfl⟩ := i1
    refine (mx_for [.lst (plaD x)] (plaD x) (by kernel_rfl) rfl rfl rfl e2).trans ?_
    obtain ⟨a2, b2, c2, rfl⟩ := i2
    refine (mx_for [.tup [exD 23 x, exD 23 x]] [exD 23 x, exD 23 x] (by kernel_rfl) rfl rfl rfl e3).trans ?_
    obtain ⟨a3, b3, c3, rfl⟩ := i3
    refine (mx_for [.tup [exD 22 x, exD 22 x]] [exD 22 x, exD 22 x] (by kernel_rfl) rfl rfl rfl e4).trans ?_
    exact mx_ret rfl
  exact fn_rt rfl rfl hb
end
end K99
end
section
namespace Pd
open PySem
section
variable {G : Nat → D} {F : FT}
theorem me_bin {o : BO} {a b : E} {σ : Sg} {h h1 h2 : Cs} {x y z : D} (ha : ev G F a σ h = .ok x h1) (hb : ev G F b σ h1 = .ok y h2) (hz : binop o x y h2 = some z) : ev G F (.bin o a b) σ h = .ok z h2 := by
  unfold ev
  simp only [ha, R.bind, hb, hz, R.ofD]
theorem me_bini {o : BO} {a b : E} {σ : Sg} {h h1 h2 : Cs} {i j : Int} {z : D} (ha : ev G F a σ h = .ok (.p (.int i)) h1) (hb : ev G F b σ h1 = .ok (.p (.int j)) h2) (hz : intBin o i j = some z) : ev G F (.bin o a b) σ h = .ok z h2 :=
  me_bin ha hb hz
theorem me_sub {a b : E} {σ : Sg} {h h1 h2 : Cs} {x y z : D} (ha : ev G F a σ h = .ok x h1) (hb : ev G F b σ h1 = .ok y h2) (hz : subD x y h2 = some z) : ev G F (.sub a b) σ h = .ok z h2 := by
  unfold ev
  simp only [ha, R.bind, hb, hz, R.ofD]
end
theorem mulOk_of {i j : Int} (hi : i.natAbs < 2 ^ 1000) (hj : j.natAbs < 2 ^ 1000) : mulOk i j = true := by
  have l : ∀ n : Nat, n < 2 ^ 1000 → n.log2 < 1000 := fun n h => by
    by_cases z : n = 0
    · subst z; decide
    · exact (Nat.log2_lt z).mpr h
  unfold mulOk
  have := l _ hi
  have := l _ hj
  exact decide_eq_true (by unfold bitsMost; omega)
theorem mul_of {i j : Int} (hi : i.natAbs < 2 ^ 1000) (hj : j.natAbs < 2 ^ 1000) : intBin .mul i j = some (.p (.int (i * j))) := by
  unfold intBin
  simp only [mulOk_of hi hj, if_true]
theorem mod_of {i j : Int} (hj : divOk j = true) : intBin .mod i j = some (.p (.int (i.fmod j))) := by
  unfold intBin
  simp only [hj, if_true]
theorem fdiv_of {i j : Int} (hj : divOk j = true) : intBin .fdiv i j = some (.p (.int (i.fdiv j))) := by
  unfold intBin
  simp only [hj, if_true]
end Pd
namespace K99
open PySem Pd
theorem natAbs_lt {i : Int} {b : Nat} (h0 : 0 ≤ i) (h1 : i < (b : Int)) (hb : b ≤ 2 ^ 1000) : i.natAbs < 2 ^ 1000 := by
  have : i.natAbs < b := by omega
  exact Nat.lt_of_lt_of_le this hb
/-- mixed: some number below 2147483647 -/
theorem mixed {n : Nat} {h : Cs} (c t : Int) (h0 : 0 ≤ t) (h1 : t < 1000000) : ∃ m : Int, 0 ≤ m ∧ m < 2147483647 ∧ Fn G fs (n + 1) 0 [.p (.int c), .p (.int t)] h = .ok (.p (.int m)) h := by
  let σ0 : Sg := [some (.p (.int c)), some (.p (.int t)), none]
  have hsub : ∃ q : Int, 1 ≤ q ∧ q < 2147483648 ∧ divOk q = true ∧ ev G (Fn G fs n) (.sub (.lst false [.k (.int (1000000007)), .k (.int (998244353)), .k (.int (2147483629)), .k (.int (1000000009))]) (.bin .mod (.v 1) (.k (.int (4))))) σ0 h = .ok (.p (.int q)) h := by
    have hm : ev G (Fn G fs n) (.bin .mod (.v 1) (.k (.int (4)))) σ0 h = .ok (.p (.int (t.fmod 4))) h := me_bini rfl rfl (mod_of (by decide +kernel))
    have hl : ev G (Fn G fs n) (.lst false [.k (.int (1000000007)), .k (.int (998244353)), .k (.int (2147483629)), .k (.int (1000000009))]) σ0 h = .ok (.p (.list [.int 1000000007, .int 998244353, .int 2147483629, .int 1000000009])) h := rfl
    have r : t.fmod 4 = 0 ∨ t.fmod 4 = 1 ∨ t.fmod 4 = 2 ∨ t.fmod 4 = 3 := by
      rw [Int.fmod_eq_emod_of_nonneg t (by decide)]
      omega
    rcases r with r | r | r | r <;> rw [r] at hm
    · exact ⟨1000000007, by decide, by decide, by decide +kernel, me_sub hl hm rfl⟩
    · exact ⟨998244353, by decide, by decide, by decide +kernel, me_sub hl hm rfl⟩
    · exact ⟨2147483629, by decide, by decide, by decide +kernel, me_sub hl hm rfl⟩
    · exact ⟨1000000009, by decide, by decide, by decide +kernel, me_sub hl hm rfl⟩
  obtain ⟨q, q0, q1, qd, hq⟩ := hsub
  have f0 : 0 ≤ c.fmod q := Int.fmod_nonneg_of_pos c (by omega)
  have f1 : c.fmod q < q := Int.fmod_lt_of_pos c (by omega)
  let u : Int := c.fmod q + 7919 * t + 13
  have u0 : 0 ≤ u := by show 0 ≤ c.fmod q + 7919 * t + 13; omega
  have u1 : u < 100000000000 := by show c.fmod q + 7919 * t + 13 < _; omega
  have hu : ev G (Fn G fs n) (.bin .add (.bin .add (.bin .mod (.v 0) (.sub (.lst false [.k (.int (1000000007)), .k (.int (998244353)), .k (.int (2147483629)), .k (.int (1000000009))]) (.bin .mod (.v 1) (.k (.int (4)))))) (.bin .mul (.k (.int (7919))) (.v 1))) (.k (.int (13)))) σ0 h = .ok (.p (.int u)) h :=
    me_bini (me_bini (me_bini rfl hq (mod_of qd)) (me_bini rfl rfl (mul_of (by decide +kernel) (natAbs_lt (b := 1000000) h0 h1 (by decide +kernel)))) rfl) rfl rfl
  have hM : divOk 2147483647 = true := by decide +kernel
  let w : Int := (u * u).fmod 2147483647
  have w0 : 0 ≤ w := Int.fmod_nonneg_of_pos _ (by decide)
  have w1 : w < 2147483647 := Int.fmod_lt_of_pos _ (by decide)
  refine ⟨(w * 48271).fmod 2147483647, Int.fmod_nonneg_of_pos _ (by decide), Int.fmod_lt_of_pos _ (by decide), fn_rt (fd := fd_law_mixed) rfl rfl ?_⟩
  refine (mx_asg (.p (.int u)) hu (by show (2 : Nat) < 3; decide)).trans ?_
  have un := natAbs_lt (b := 100000000000) u0 u1 (by decide +kernel)
  exact mx_ret (me_bini (me_bini (me_bini (me_bini rfl rfl (mul_of un un)) rfl (mod_of hM)) rfl (mul_of (natAbs_lt (b := 2147483647) w0 w1 (by decide +kernel)) (by decide +kernel))) rfl (mod_of hM))
end K99
end
section
namespace Pd
open PySem
section
variable {G : Nat → D} {F : FT}
theorem mx_put {o i e : E} {r : List S} {σ : Sg} {h h4 : Cs} {x y d : D} (he : ev G F e σ h = .ok d h) (ho : ev G F o σ h = .ok x h) (hi : ev G F i σ h = .ok y h) (hp : putD x y d h = some h4) : execs G F (.put o i e :: r) σ h = execs G F r σ h4 := by
  have z : exec G F (.put o i e) σ h = .nx σ h4 := by
    unfold exec
    simp only [he, R.st, ho, hi, hp]
  simp only [execs, z]
theorem me_call {f : Nat} {es : List E} {σ : Sg} {h h' : Cs} {ds : List D} {d : D} (he : evs G F es σ h = .ok ds h) (hf : F f ds h = .ok d h') : ev G F (.call f es) σ h = .ok d (trim h.length d h') := by
  unfold ev
  simp only [he, R.bind, hf, trimR]
theorem me_call0 {f : Nat} {es : List E} {σ : Sg} {h : Cs} {ds : List D} {d : D} (he : evs G F es σ h = .ok ds h) (hf : F f ds h = .ok d h) : ev G F (.call f es) σ h = .ok d h := by
  rw [me_call he hf, trim_self]
theorem evs1 {a : E} {σ : Sg} {h : Cs} {x : D} (ha : ev G F a σ h = .ok x h) : evs G F [a] σ h = .ok [x] h := by
  simp only [evs, ha, R.bind]
theorem evs2 {a b : E} {σ : Sg} {h : Cs} {x y : D} (ha : ev G F a σ h = .ok x h) (hb : ev G F b σ h = .ok y h) : evs G F [a, b] σ h = .ok [x, y] h := by
  simp only [evs, ha, hb, R.bind]
theorem mx_ite {c : E} {a b r : List S} {σ : Sg} {h : Cs} {t : Bool} (he : ev G F c σ h = .ok (.p (.bool t)) h) : execs G F (.ite c a b :: r) σ h = (match execs G F (if t = true then a else b) σ h with | .nx σ' h' => execs G F r σ' h' | o => o) := by
  have z : exec G F (.ite c a b) σ h = execs G F (if t = true then a else b) σ h := by
    unfold exec
    rw [he]
    cases t <;> rfl
  simp only [execs, z]
  try rfl
theorem fnG_rt {fs : Nat → Option Fd} {n f : Nat} {fd : Fd} {ds : List D} {h h' : Cs} {d : D} (hf : fs f = some fd) (hn : ds.length = fd.np) (hb : execs G (Fn G fs n) fd.body (ds.map some ++ List.replicate (fd.nn - fd.np) none) h = .rt d h') : Fn G fs (n + 1) f ds h = .ok d h' := by
  unfold Fn
  simp only [hf]
  unfold runFd
  rw [if_pos hn]
  simp only [hb]
end
end Pd
namespace K99
open PySem Pd
def st (l c t : Int) : MO := .dct false [(.str "left", .int l), (.str "cell", .int c), (.str "turns", .int t)]
section
variable {F : FT} {h0 : Cs} {l c t : Int}
theorem get_st (u : MO) : (h0 ++ [u])[h0.length]? = some u := List.getElem?_concat_length ..
theorem sub_st {σ : Sg} {key : Str} {v : Int} (hσ : σ[0]? = some (some (.ref h0.length))) (hk : (key = "left" ∧ v = l) ∨ (key = "cell" ∧ v = c) ∨ (key = "turns" ∧ v = t)) :
    ev G F (.sub (.v 0) (.k (.str key))) σ (h0 ++ [st l c t]) = .ok (.p (.int v)) (h0 ++ [st l c t]) := by
  have e0 : ev G F (.v 0) σ (h0 ++ [st l c t]) = .ok (.ref h0.length) (h0 ++ [st l c t]) := by
    unfold ev
    rw [hσ]
  refine me_sub e0 rfl ?_
  have hd : dictOf (.ref h0.length) (h0 ++ [st l c t]) = some (false, [(.str "left", .int l), (.str "cell", .int c), (.str "turns", .int t)]) := by
    unfold dictOf
    simp only [get_st]
    rfl
  unfold subD
  rw [hd]
  rcases hk with ⟨rfl, rfl⟩ | ⟨rfl, rfl⟩ | ⟨rfl, rfl⟩ <;> rfl
theorem v0_st {σ : Sg} (hσ : σ[0]? = some (some (.ref h0.length))) (u : MO) : ev G F (.v 0) σ (h0 ++ [u]) = .ok (.ref h0.length) (h0 ++ [u]) := by
  unfold ev
  rw [hσ]
theorem put_left {v : Int} : putD (.ref h0.length) (.p (.str "left")) (.p (.int v)) (h0 ++ [st l c t]) = some (h0 ++ [st v c t]) := by
  unfold putD
  simp only [get_st]
  show some (setC (h0 ++ [st l c t]) h0.length (.dct false (dput _ _ _))) = _
  rw [setC_one]
  rfl
theorem put_turns {v : Int} : putD (.ref h0.length) (.p (.str "turns")) (.p (.int v)) (h0 ++ [st l c t]) = some (h0 ++ [st l c v]) := by
  unfold putD
  simp only [get_st]
  show some (setC (h0 ++ [st l c t]) h0.length (.dct false (dput _ _ _))) = _
  rw [setC_one]
  rfl
/-- the loop's body -/
def bD : List S := match fd_law_digit.body[0]? with
  | some (S.ite _ (S.for _ _ _ b :: _) _) => b
  | _ => []
theorem turn {n : Nat} {σ : Sg} (hσ : σ[0]? = some (some (.ref h0.length))) (l0 : 0 ≤ l) (l1 : l.natAbs < 2 ^ 900) (t0 : 0 ≤ t) (t1 : t < 900000) :
    ∃ m : Int, 0 ≤ m ∧ m < 2147483647 ∧ execs G (Fn G fs (n + 1)) bD σ (h0 ++ [st l c t]) = .nx σ (h0 ++ [st (l * 2147483647 + m) c (t + 1)]) := by
  obtain ⟨m, m0, m1, em⟩ := mixed (n := n) (h := h0 ++ [st l c (t + 1)]) c (t + 1) (by omega) (by omega)
  refine ⟨m, m0, m1, ?_⟩
  refine (mx_put (x := .ref h0.length) (y := .p (.str "turns")) (d := .p (.int (t + 1))) (h4 := h0 ++ [st l c (t + 1)]) (me_bini (sub_st hσ (.inr (.inr ⟨rfl, rfl⟩))) rfl rfl) (v0_st hσ _) rfl put_turns).trans ?_
  refine (mx_put (x := .ref h0.length) (y := .p (.str "left")) (d := .p (.int (l * 2147483647 + m))) (h4 := h0 ++ [st (l * 2147483647 + m) c (t + 1)]) ?_ (v0_st hσ _) rfl put_left).trans rfl
  refine me_bini (me_bini (sub_st hσ (.inl ⟨rfl, rfl⟩)) rfl (mul_of (Nat.lt_trans l1 (by decide +kernel)) (by decide +kernel))) (me_call0 (evs2 (sub_st hσ (.inr (.inl ⟨rfl, rfl⟩))) (sub_st hσ (.inr (.inr ⟨rfl, rfl⟩)))) em) rfl
/-- four turns from 0 -/
theorem turns {n : Nat} {a b : Option D} (t0 : 0 ≤ t) (t1 : t < 800000) :
    ∃ l' : Int, 0 ≤ l' ∧ forGo (.v 3) (execs G (Fn G fs (n + 1)) bD) (rangeL 0 4) [some (.ref h0.length), a, b, none] (h0 ++ [st 0 c t]) = .nx [some (.ref h0.length), a, b, some (.p (.int 3))] (h0 ++ [st l' c (t + 4)]) := by
  have hr : rangeL 0 4 = [.p (.int 0), .p (.int 1), .p (.int 2), .p (.int 3)] := rfl
  rw [hr]
  have nl : ∀ (l : Int) (B : Nat), 0 ≤ l → l < B → B ≤ 2 ^ 900 → l.natAbs < 2 ^ 900 := fun l B a b q => by
    have : l.natAbs < B := by omega
    exact Nat.lt_of_lt_of_le this q
  obtain ⟨m1, a1, b1, e1⟩ := turn (n := n) (h0 := h0) (c := c) (σ := [some (.ref h0.length), a, b, some (.p (.int 0))]) (l := 0) (t := t) rfl (by decide) (by decide +kernel) t0 (by omega)
  let l1 : Int := 0 * 2147483647 + m1
  have p1 : 0 ≤ l1 := by show 0 ≤ 0 * 2147483647 + m1; omega
  have q1 : l1 < (2147483647 : Nat) := by show 0 * 2147483647 + m1 < _; omega
  obtain ⟨m2, a2, b2, e2⟩ := turn (n := n) (h0 := h0) (c := c) (σ := [some (.ref h0.length), a, b, some (.p (.int 1))]) (l := l1) (t := t + 1) rfl p1 (nl _ _ p1 q1 (by decide +kernel)) (by omega) (by omega)
  let l2 : Int := l1 * 2147483647 + m2
  have p2 : 0 ≤ l2 := by show 0 ≤ l1 * 2147483647 + m2; omega
  have q2 : l2 < (2147483647 * 2147483648 : Nat) := by show l1 * 2147483647 + m2 < _; omega
  obtain ⟨m3, a3, b3, e3⟩ := turn (n := n) (h0 := h0) (c := c) (σ := [some (.ref h0.length), a, b, some (.p (.int 2))]) (l := l2) (t := t + 1 + 1) rfl p2 (nl _ _ p2 q2 (by decide +kernel)) (by omega) (by omega)
  let l3 : Int := l2 * 2147483647 + m3
  have p3 : 0 ≤ l3 := by show 0 ≤ l2 * 2147483647 + m3; omega
  have q3 : l3 < (2147483647 * 2147483648 * 2147483648 : Nat) := by show l2 * 2147483647 + m3 < _; omega
  obtain ⟨m4, a4, b4, e4⟩ := turn (n := n) (h0 := h0) (c := c) (σ := [some (.ref h0.length), a, b, some (.p (.int 3))]) (l := l3) (t := t + 1 + 1 + 1) rfl p3 (nl _ _ p3 q3 (by decide +kernel)) (by omega) (by omega)
  refine ⟨l3 * 2147483647 + m4, by omega, ?_⟩
  rw [show t + 4 = t + 1 + 1 + 1 + 1 by omega]
  have s0 : ∀ (x : D) (σ : Option D) (h : Cs), asgT (.v 3) x [some (.ref h0.length), a, b, σ] h = some [some (.ref h0.length), a, b, some x] := fun _ _ _ => rfl
  simp only [forGo, s0, e1, e2, e3, e4, l1, l2, l3] at *
/-- a digit -/
theorem digit {n : Nat} {b : Int} (t0 : 0 ≤ t) (t1 : t < 800000) (b0 : 0 < b) (bd : divOk b = true) :
    ∃ v l' t' : Int, 0 ≤ v ∧ v < b ∧ 0 ≤ t' ∧ t' ≤ t + 4 ∧ Fn G fs (n + 2) 2 [.ref h0.length, .p (.int b)] (h0 ++ [st l c t]) = .ok (.p (.int v)) (h0 ++ [st l' c t']) := by
  have tail : ∀ (l t : Int) (j : Option D), execs G (Fn G fs (n + 1)) (fd_law_digit.body.drop 1) [some (.ref h0.length), some (.p (.int b)), none, j] (h0 ++ [st l c t]) = .rt (.p (.int (l.fmod b))) (h0 ++ [st (l.fdiv b) c t]) := fun l t j => by
    refine (mx_asg (.p (.int (l.fmod b))) (me_bini (sub_st rfl (.inl ⟨rfl, rfl⟩)) rfl (mod_of bd)) (by show (2 : Nat) < 4; decide)).trans ?_
    refine (mx_put (x := .ref h0.length) (y := .p (.str "left")) (d := .p (.int (l.fdiv b))) (h4 := h0 ++ [st (l.fdiv b) c t]) (me_bini (sub_st rfl (.inl ⟨rfl, rfl⟩)) rfl (fdiv_of bd)) (v0_st rfl _) rfl put_left).trans ?_
    exact mx_ret rfl
  have f0 : ∀ l : Int, 0 ≤ l.fmod b ∧ l.fmod b < b := fun l => ⟨Int.fmod_nonneg_of_pos _ b0, Int.fmod_lt_of_pos _ b0⟩
  have hc : ev G (Fn G fs (n + 1)) (.cmp .eq (.sub (.v 0) (.k (.str "left"))) (.k (.int 0))) [some (.ref h0.length), some (.p (.int b)), none, none] (h0 ++ [st l c t]) = .ok (.p (.bool (PyData.eqv (.int l) (.int 0)))) (h0 ++ [st l c t]) := by
    unfold ev
    rw [sub_st rfl (.inl ⟨rfl, rfl⟩)]
    rfl
  cases z : PyData.eqv (.int l) (.int 0) with
  | false =>
    refine ⟨l.fmod b, l.fdiv b, t, (f0 l).1, (f0 l).2, t0, by omega, fnG_rt (fd := fd_law_digit) rfl rfl ?_⟩
    rw [z] at hc
    exact (mx_ite hc).trans (tail l t none)
  | true =>
    have l0 : l = 0 := by
      simpa [PyData.eqv] using z
    subst l0
    obtain ⟨l', _, e⟩ := turns (n := n) (h0 := h0) (c := c) (a := some (.p (.int b))) (b := none) t0 t1
    refine ⟨l'.fmod b, l'.fdiv b, t + 4, (f0 l').1, (f0 l').2, by omega, by omega, fnG_rt (fd := fd_law_digit) rfl rfl ?_⟩
    rw [z] at hc
    refine (mx_ite hc).trans ?_
    have ef : execs G (Fn G fs (n + 1)) [.for (.v 3) .range [.k (.int (4))] bD] [some (.ref h0.length), some (.p (.int b)), none, none] (h0 ++ [st 0 c t]) = .nx [some (.ref h0.length), some (.p (.int b)), none, some (.p (.int 3))] (h0 ++ [st l' c (t + 4)]) := by
      have z : exec G (Fn G fs (n + 1)) (.for (.v 3) .range [.k (.int (4))] bD) [some (.ref h0.length), some (.p (.int b)), none, none] (h0 ++ [st 0 c t]) = .nx [some (.ref h0.length), some (.p (.int b)), none, some (.p (.int 3))] (h0 ++ [st l' c (t + 4)]) := by
        unfold Pd.exec
        show O.unhold [.p (.int 4)] (h0 ++ [st 0 c t]) (forGo (.v 3) (execs G (Fn G fs (n + 1)) bD) (rangeL 0 4) [some (.ref h0.length), some (.p (.int b)), none, none] (h0 ++ [st 0 c t])) = _
        rw [e] <;> rfl
      simp only [Pd.execs, z]
    show (match Pd.execs G (Fn G fs (n + 1)) [.for (.v 3) .range [.k (.int (4))] bD] [some (.ref h0.length), some (.p (.int b)), none, none] (h0 ++ [st 0 c t]) with | .nx σ' h' => execs G (Fn G fs (n + 1)) (fd_law_digit.body.drop 1) σ' h' | o => o) = _
    rw [ef]
    exact tail l' (t + 4) _
end
end K99
end
section
namespace Pd
open PySem
theorem trim_new {h h' : Cs} : trim h.length (.ref h.length) h' = h' := by
  unfold trim
  have : D.low h.length (.ref h.length) = false := decide_eq_false (Nat.lt_irrefl _)
  rw [this] <;> rfl
theorem trim_len {d : D} {h h' : Cs} (e : h'.length = h.length) : trim h.length d h' = h' := by
  rw [← e, trim_self]
section
variable {G : Nat → D} {F : FT}
theorem mx_asg2 {e : E} {i : Nat} {r : List S} {σ : Sg} {h h1 h2 : Cs} (d : D) (he : ev G F e σ h = .ok d h1) (ht : trim h.length d h1 = h2) (hi : i < σ.length) : execs G F (.asg (.v i) e :: r) σ h = execs G F r (σ.set i (some d)) h2 := by
  have z : exec G F (.asg (.v i) e) σ h = .nx (σ.set i (some d)) h2 := by
    unfold exec
    simp only [he, R.st, ht, asgT, if_pos hi]
  simp only [execs, z]
theorem evs_cons {a : E} {r : List E} {σ : Sg} {h h1 h2 : Cs} {x : D} {xs : List D} (ha : ev G F a σ h = .ok x h1) (hb : evs G F r σ h1 = .ok xs h2) : evs G F (a :: r) σ h = .ok (x :: xs) h2 := by
  simp only [evs, ha, hb, R.bind]
theorem me_lst {es : List E} {σ : Sg} {h h1 : Cs} {ds : List D} (he : evs G F es σ h = .ok ds h1) : ev G F (.lst false es) σ h = .ok (mkLst ds) h1 := by
  unfold ev
  simp only [he, R.bind, listD, R.ofC]
theorem me_notT {a : E} {σ : Sg} {h h1 : Cs} (he : ev G F a σ h = .ok (.p (.bool true)) h1) : ev G F (.not a) σ h = .ok (.p (.bool false)) h1 := by
  unfold ev
  simp only [he, R.bind, truth, Bool.not_true]
theorem me_or2 {a b : E} {σ : Sg} {h h1 h2 : Cs} (ha : ev G F a σ h = .ok (.p (.bool false)) h1) (hb : ev G F b σ h1 = .ok (.p (.bool false)) h2) : ev G F (.or a b) σ h = .ok (.p (.bool false)) h2 := by
  unfold ev
  simp only [ha, R.bind, truth, hb]
theorem mx_iteF2 {c : E} {a r : List S} {σ : Sg} {h h1 : Cs} (he : ev G F c σ h = .ok (.p (.bool false)) h1) : execs G F (.ite c a [] :: r) σ h = execs G F r σ h1 := by
  have z : exec G F (.ite c a []) σ h = .nx σ h1 := by
    unfold exec
    simp only [he, R.st, truth]
    rfl
  simp only [execs, z]
theorem me_call2 {f : Nat} {es : List E} {σ : Sg} {h h1 h2 h3 : Cs} {ds : List D} {d : D} (he : evs G F es σ h = .ok ds h1) (hf : F f ds h1 = .ok d h2) (ht : trim h1.length d h2 = h3) : ev G F (.call f es) σ h = .ok d h3 := by
  unfold ev
  simp only [he, R.bind, hf, trimR, ht]
end
end Pd
namespace K99
open PySem Pd
def stK (l c t : Int) : List (P × P) := [(.str "left", .int l), (.str "cell", .int c), (.str "turns", .int t)]
theorem draw {n : Nat} {h0 : Cs} (c k : Int) (k0 : 0 ≤ k) (k1 : k < 1000) : ∃ l : Int, Fn G fs (n + 1) 1 [.p (.int c), .p (.int k)] h0 = .ok (.ref h0.length) (h0 ++ [st l c (1000 * k)]) := by
  let σ : Sg := [some (.p (.int c)), some (.p (.int k))]
  let h := h0 ++ [MO.held]
  have hl : ∃ l : Int, ev G (Fn G fs n) (.ite (.cmp .ge (.v 0) (.bin .pow (.k (.int (10))) (.k (.int (18))))) (.v 0) (.k (.int (0)))) σ h = .ok (.p (.int l)) h := by
    have hp : ev G (Fn G fs n) (.cmp .ge (.v 0) (.bin .pow (.k (.int (10))) (.k (.int (18))))) σ h = .ok (.p (.bool (decide ((1000000000000000000 : Int) ≤ c)))) h := by
      kernel_rfl
    cases z : decide ((1000000000000000000 : Int) ≤ c) with
    | true =>
      refine ⟨c, ?_⟩
      rw [z] at hp
      unfold ev
      rw [hp]
      rfl
    | false =>
      refine ⟨0, ?_⟩
      rw [z] at hp
      unfold ev
      rw [hp]
      rfl
  obtain ⟨l, hl⟩ := hl
  refine ⟨l, fnG_rt (fd := fd_law_draw) rfl rfl ?_⟩
  refine mx_ret ?_
  have hm : ev G (Fn G fs n) (.bin .mul (.k (.int (1000))) (.v 1)) σ h = .ok (.p (.int (1000 * k))) h := me_bini rfl rfl (mul_of (by decide +kernel) (natAbs_lt (b := 1000) k0 k1 (by decide +kernel)))
  have he : evs G (Fn G fs n) [.k (.str "left"), .ite (.cmp .ge (.v 0) (.bin .pow (.k (.int (10))) (.k (.int (18))))) (.v 0) (.k (.int (0))), .k (.str "cell"), .v 0, .k (.str "turns"), .bin .mul (.k (.int (1000))) (.v 1)] σ h = .ok [.p (.str "left"), .p (.int l), .p (.str "cell"), .p (.int c), .p (.str "turns"), .p (.int (1000 * k))] h :=
    evs_cons rfl (evs_cons hl (evs_cons rfl (evs_cons rfl (evs_cons rfl (evs_cons hm rfl)))))
  have hd : ev G (Fn G fs n) (.dd true false [.k (.str "left"), .ite (.cmp .ge (.v 0) (.bin .pow (.k (.int (10))) (.k (.int (18))))) (.v 0) (.k (.int (0))), .k (.str "cell"), .v 0, .k (.str "turns"), .bin .mul (.k (.int (1000))) (.v 1)]) σ h0 = .ok (.ref h0.length) (h0 ++ [st l c (1000 * k)]) := by
    unfold ev
    rw [he]
    show R.ok (D.ref h0.length) (setC (h0 ++ [.held]) h0.length _) = _
    rw [setC_one]
    rfl
  exact hd
/-- the things -/
def things (v : Int) (m : Nat) : List P := [.int v, .int (0 - v), .str ⟨(List.replicate m (Str.ofString "ab").cps).foldl (· ++ ·) #[]⟩, .tuple [.str "atom", .tuple [.int 0, .int v]], .none, .tuple [.int (10 ^ 30), .tuple []], .tuple [.int v, .int v, .int v, .int v, .int v, .int v, .int v, .int v, .int v]]
def thE : E := .lst false [.v 8, .bin .sub (.k (.int (0))) (.v 8), .bin .mul (.k (.str ⟨#[97, 98]⟩)) (.bin .mod (.v 8) (.k (.int (50)))), .tup [.k (.str ⟨#[97, 116, 111, 109]⟩), .tup [.k (.int (0)), .v 8]], .k (.none), .tup [.bin .pow (.k (.int (10))) (.k (.int (30))), .tup []], .bin .mul (.tup [.v 8]) (.k (.int (9)))]
theorem ab50 : ∀ m : Fin 50, PySem.SeqAt.shaped (.str ⟨(List.replicate m.1 (Str.ofString "ab").cps).foldl (· ++ ·) #[]⟩) = true ∧ repOk (Str.ofString "ab").length (m.1 : Int) = true := by decide +kernel
theorem th_ev {F : FT} {σ : Sg} {h : Cs} {v : Int} (hσ : σ[8]? = some (some (.p (.int v)))) : ∃ m, m < 50 ∧ ev G F thE σ h = .ok (.p (.list (things v m))) h := by
  have v8 : ev G F (.v 8) σ h = .ok (.p (.int v)) h := by
    unfold ev
    rw [hσ]
  have hm : ev G F (.bin .mod (.v 8) (.k (.int (50)))) σ h = .ok (.p (.int (v.fmod 50))) h := me_bini v8 rfl (mod_of (by decide +kernel))
  have m0 : 0 ≤ v.fmod 50 := Int.fmod_nonneg_of_pos _ (by decide)
  have m1 : v.fmod 50 < 50 := Int.fmod_lt_of_pos _ (by decide)
  obtain ⟨m, em⟩ : ∃ m : Nat, v.fmod 50 = (m : Int) := ⟨(v.fmod 50).toNat, by omega⟩
  rw [em] at hm m1
  have mm : m < 50 := by omega
  have hr := (ab50 ⟨m, mm⟩).2
  have hs : ev G F (.bin .mul (.k (.str ⟨#[97, 98]⟩)) (.bin .mod (.v 8) (.k (.int (50))))) σ h = .ok (.p (.str ⟨(List.replicate m (Str.ofString "ab").cps).foldl (· ++ ·) #[]⟩)) h := by
    refine me_bin rfl hm ?_
    show (if repOk (Str.ofString "ab").length (m : Int) = true then some (D.p (.str ⟨(List.replicate (m : Int).toNat (Str.ofString "ab").cps).foldl (· ++ ·) #[]⟩)) else none) = _
    rw [if_pos hr]
    rfl
  have ht : ∀ a : E, ∀ x : P, ev G F a σ h = .ok (.p x) h → ev G F (.tup [.k (.int (0)), a]) σ h = .ok (.p (.tuple [.int 0, x])) h := fun a x ha => by
    unfold ev
    rw [evs_cons rfl (evs_cons ha rfl)]
    rfl
  have h4 : ev G F (.tup [.k (.str ⟨#[97, 116, 111, 109]⟩), .tup [.k (.int (0)), .v 8]]) σ h = .ok (.p (.tuple [.str "atom", .tuple [.int 0, .int v]])) h := by
    unfold ev
    rw [evs_cons rfl (evs_cons (ht _ _ v8) rfl)]
    rfl
  have h7 : ev G F (.bin .mul (.tup [.v 8]) (.k (.int (9)))) σ h = .ok (.p (.tuple [.int v, .int v, .int v, .int v, .int v, .int v, .int v, .int v, .int v])) h := by
    have h1 : ev G F (.tup [.v 8]) σ h = .ok (.p (.tuple [.int v])) h := by
      unfold ev
      rw [evs_cons v8 rfl]
      rfl
    exact me_bin h1 rfl (by kernel_rfl)
  have h2 : ev G F (.bin .sub (.k (.int (0))) (.v 8)) σ h = .ok (.p (.int (0 - v))) h := me_bini rfl v8 rfl
  refine ⟨m, mm, ?_⟩
  unfold thE
  exact me_lst (evs_cons v8 (evs_cons h2 (evs_cons hs (evs_cons h4 (evs_cons (show ev G F (.k .none) σ h = .ok (.p .none) h from rfl) (evs_cons (show ev G F (.tup [.bin .pow (.k (.int (10))) (.k (.int (30))), .tup []]) σ h = .ok (.p (.tuple [.int (10 ^ 30), .tuple []])) h by kernel_rfl) (evs_cons h7 (show evs G F [] σ h = .ok [] h from rfl))))))))
theorem th_ok {v : Int} {m : Nat} (hm : m < 50) : ∀ x ∈ things v m, PySem.SeqAt.shaped x = true := by
  intro x hx
  simp only [things, List.mem_cons, List.not_mem_nil, or_false] at hx
  rcases hx with rfl | rfl | rfl | rfl | rfl | rfl | rfl
  · rfl
  · rfl
  · exact (ab50 ⟨m, hm⟩).1
  · kernel_rfl
  · rfl
  · rfl
  · rfl
def bL : List S := match fd_law.body[0]? with
  | some (S.for _ _ _ b) => b
  | _ => []
def rest : List S := fd_law.body.drop 1
def I14 (σ : Sg) : Prop := ∃ a0 a1 a2 a3 a4 a5 a6 a7 a8 a9 a10 a11 a12 a13, σ = [a0, a1, a2, a3, a4, a5, a6, a7, a8, a9, a10, a11, a12, a13]
def hOf : O → Cs
  | .rt _ h => h
  | _ => []
theorem pw : ∀ {F : FT} {σ : Sg} {h : Cs}, ev G F (.bin .pow (.bin .pow (.bin .pow (.k (.int (10))) (.k (.int (50)))) (.k (.int (50)))) (.k (.int (2)))) σ h = .ok (.p (.int (((10 ^ 50) ^ 50) ^ 2))) h := by
  intro F σ h
  kernel_rfl
theorem iter_0 {n : Nat}  {σ : Sg} (i : I14 σ) (c : Int) : ∃ σ1, asgT (.tup [.v 5, .v 6]) (mkTup [.p (.int (0 : Nat)), .p (.int c)]) σ (hp []) = some σ1 ∧ ∃ kv σ2, execs G (Fn G fs (n + 3)) bL σ1 (hp []) = .nx σ2 (hp [kv]) ∧ I14 σ2 := by
  obtain ⟨a0, a1, a2, a3, a4, a5, a6, a7, a8, a9, a10, a11, a12, a13, rfl⟩ := i
  refine ⟨_, rfl, ?_⟩
  obtain ⟨l0, e0⟩ := draw (n := n + 2) (h0 := (hp [])) c 0 (by decide) (by decide)
  obtain ⟨v, l1, t1, v0, v1, t10, t11, e1⟩ := digit (n := n + 1) (h0 := (hp [])) (l := l0) (c := c) (t := 1000 * 0) (b := 100000) (by decide) (by decide) (by decide) (by decide +kernel)
  obtain ⟨w, l2, t2, w0, w1, t20, t21, e2⟩ := digit (n := n + 1) (h0 := (hp [])) (l := l1) (c := c) (t := t1) (b := 7) t10 (by omega) (by decide) (by decide +kernel)
  let σ2 : Sg := [a0, a1, a2, a3, a4, some (.p (.int 0)), some (.p (.int c)), some (.ref 0), some (.p (.int v)), a9, a10, a11, a12, a13]
  obtain ⟨m, hm, e3⟩ := th_ev (F := Fn G fs (n + 3)) (σ := σ2) (h := hp [stK l1 c t1]) rfl
  let σ3 : Sg := [a0, some (.p (.list (things v m))), a2, a3, a4, some (.p (.int 0)), some (.p (.int c)), some (.ref 0), some (.p (.int v)), a9, a10, a11, a12, a13]
  obtain ⟨x, hx, ex⟩ : ∃ x, x ∈ things v m ∧ subD (.p (.list (things v m))) (.p (.int w)) (hp [stK l2 c t2]) = some (.p x) := by
    have : w = 0 ∨ w = 1 ∨ w = 2 ∨ w = 3 ∨ w = 4 ∨ w = 5 ∨ w = 6 := by omega
    rcases this with rfl | rfl | rfl | rfl | rfl | rfl | rfl <;> exact ⟨_, by simp only [things, List.mem_cons, true_or, or_true], rfl⟩
  have sx := th_ok hm x hx
  refine ⟨stK l2 c t2, σ3, ?_, _, _, _, _, _, _, _, _, _, _, _, _, _, _, rfl⟩
  refine (mx_asg2 (h2 := hp [stK l0 c (1000 * 0)]) (.ref 0) (me_call2 (ds := [.p (.int c), .p (.int 0)]) (h1 := (hp [])) rfl e0 rfl) rfl (by show (7 : Nat) < 14; decide)).trans ?_
  refine (mx_asg2 (h2 := hp [stK l1 c t1]) (.p (.int v)) (me_call2 (ds := [.ref 0, .p (.int 100000)]) (h1 := hp [stK l0 c (1000 * 0)]) rfl e1 rfl) rfl (by show (8 : Nat) < 14; decide)).trans ?_
  refine (mx_asg2 (h2 := hp [stK l1 c t1]) (.p (.list (things v m))) e3 rfl (by show (1 : Nat) < 14; decide)).trans ?_
  have ed : ev G (Fn G fs (n + 3)) (.call 2 [.v 7, .k (.int (7))]) σ3 (hp [stK l1 c t1]) = .ok (.p (.int w)) (hp [stK l2 c t2]) := me_call2 (ds := [.ref 0, .p (.int 7)]) (h1 := hp [stK l1 c t1]) rfl e2 rfl
  have es : ev G (Fn G fs (n + 3)) (.sub (.v 1) (.call 2 [.v 7, .k (.int (7))])) σ3 (hp [stK l1 c t1]) = .ok (.p x) (hp [stK l2 c t2]) := me_sub (x := .p (.list (things v m))) rfl ed ex
  have r1 := right_1 (n := n + 1) (x := x)  (k1 := stK l2 c t2) sx (PySem.SeqAt.eqv_refl _ (PySem.SeqAt.canLay_of_shaped sx))
  have r2 := right_1 (n := n + 1) (x := .int (((10 ^ 50) ^ 50) ^ 2))  (k1 := stK l2 c t2) rfl (PySem.SeqAt.eqv_refl _ rfl)
  refine (mx_iteF2 (h1 := hp [stK l2 c t2]) (me_or2 (me_notT (me_call2 (evs_cons es rfl) r1 rfl)) (me_notT (me_call2 (evs_cons pw rfl) r2 rfl)))).trans ?_
  rfl
theorem iter_1 {n : Nat} {k1 : List (P × P)} {σ : Sg} (i : I14 σ) (c : Int) : ∃ σ1, asgT (.tup [.v 5, .v 6]) (mkTup [.p (.int (1 : Nat)), .p (.int c)]) σ (hp [k1]) = some σ1 ∧ ∃ kv σ2, execs G (Fn G fs (n + 3)) bL σ1 (hp [k1]) = .nx σ2 (hp [k1, kv]) ∧ I14 σ2 := by
  obtain ⟨a0, a1, a2, a3, a4, a5, a6, a7, a8, a9, a10, a11, a12, a13, rfl⟩ := i
  refine ⟨_, rfl, ?_⟩
  obtain ⟨l0, e0⟩ := draw (n := n + 2) (h0 := (hp [k1])) c 1 (by decide) (by decide)
  obtain ⟨v, l1, t1, v0, v1, t10, t11, e1⟩ := digit (n := n + 1) (h0 := (hp [k1])) (l := l0) (c := c) (t := 1000 * 1) (b := 100000) (by decide) (by decide) (by decide) (by decide +kernel)
  obtain ⟨w, l2, t2, w0, w1, t20, t21, e2⟩ := digit (n := n + 1) (h0 := (hp [k1])) (l := l1) (c := c) (t := t1) (b := 7) t10 (by omega) (by decide) (by decide +kernel)
  let σ2 : Sg := [a0, a1, a2, a3, a4, some (.p (.int 1)), some (.p (.int c)), some (.ref 1), some (.p (.int v)), a9, a10, a11, a12, a13]
  obtain ⟨m, hm, e3⟩ := th_ev (F := Fn G fs (n + 3)) (σ := σ2) (h := hp [k1, stK l1 c t1]) rfl
  let σ3 : Sg := [a0, some (.p (.list (things v m))), a2, a3, a4, some (.p (.int 1)), some (.p (.int c)), some (.ref 1), some (.p (.int v)), a9, a10, a11, a12, a13]
  obtain ⟨x, hx, ex⟩ : ∃ x, x ∈ things v m ∧ subD (.p (.list (things v m))) (.p (.int w)) (hp [k1, stK l2 c t2]) = some (.p x) := by
    have : w = 0 ∨ w = 1 ∨ w = 2 ∨ w = 3 ∨ w = 4 ∨ w = 5 ∨ w = 6 := by omega
    rcases this with rfl | rfl | rfl | rfl | rfl | rfl | rfl <;> exact ⟨_, by simp only [things, List.mem_cons, true_or, or_true], rfl⟩
  have sx := th_ok hm x hx
  refine ⟨stK l2 c t2, σ3, ?_, _, _, _, _, _, _, _, _, _, _, _, _, _, _, rfl⟩
  refine (mx_asg2 (h2 := hp [k1, stK l0 c (1000 * 1)]) (.ref 1) (me_call2 (ds := [.p (.int c), .p (.int 1)]) (h1 := (hp [k1])) rfl e0 rfl) rfl (by show (7 : Nat) < 14; decide)).trans ?_
  refine (mx_asg2 (h2 := hp [k1, stK l1 c t1]) (.p (.int v)) (me_call2 (ds := [.ref 1, .p (.int 100000)]) (h1 := hp [k1, stK l0 c (1000 * 1)]) rfl e1 rfl) rfl (by show (8 : Nat) < 14; decide)).trans ?_
  refine (mx_asg2 (h2 := hp [k1, stK l1 c t1]) (.p (.list (things v m))) e3 rfl (by show (1 : Nat) < 14; decide)).trans ?_
  have ed : ev G (Fn G fs (n + 3)) (.call 2 [.v 7, .k (.int (7))]) σ3 (hp [k1, stK l1 c t1]) = .ok (.p (.int w)) (hp [k1, stK l2 c t2]) := me_call2 (ds := [.ref 1, .p (.int 7)]) (h1 := hp [k1, stK l1 c t1]) rfl e2 rfl
  have es : ev G (Fn G fs (n + 3)) (.sub (.v 1) (.call 2 [.v 7, .k (.int (7))])) σ3 (hp [k1, stK l1 c t1]) = .ok (.p x) (hp [k1, stK l2 c t2]) := me_sub (x := .p (.list (things v m))) rfl ed ex
  have r1 := right_2 (n := n + 1) (x := x) (k1 := k1) (k2 := stK l2 c t2) sx (PySem.SeqAt.eqv_refl _ (PySem.SeqAt.canLay_of_shaped sx))
  have r2 := right_2 (n := n + 1) (x := .int (((10 ^ 50) ^ 50) ^ 2)) (k1 := k1) (k2 := stK l2 c t2) rfl (PySem.SeqAt.eqv_refl _ rfl)
  refine (mx_iteF2 (h1 := hp [k1, stK l2 c t2]) (me_or2 (me_notT (me_call2 (evs_cons es rfl) r1 rfl)) (me_notT (me_call2 (evs_cons pw rfl) r2 rfl)))).trans ?_
  rfl
theorem iter_2 {n : Nat} {k1 k2 : List (P × P)} {σ : Sg} (i : I14 σ) (c : Int) : ∃ σ1, asgT (.tup [.v 5, .v 6]) (mkTup [.p (.int (2 : Nat)), .p (.int c)]) σ (hp [k1, k2]) = some σ1 ∧ ∃ kv σ2, execs G (Fn G fs (n + 3)) bL σ1 (hp [k1, k2]) = .nx σ2 (hp [k1, k2, kv]) ∧ I14 σ2 := by
  obtain ⟨a0, a1, a2, a3, a4, a5, a6, a7, a8, a9, a10, a11, a12, a13, rfl⟩ := i
  refine ⟨_, rfl, ?_⟩
  obtain ⟨l0, e0⟩ := draw (n := n + 2) (h0 := (hp [k1, k2])) c 2 (by decide) (by decide)
  obtain ⟨v, l1, t1, v0, v1, t10, t11, e1⟩ := digit (n := n + 1) (h0 := (hp [k1, k2])) (l := l0) (c := c) (t := 1000 * 2) (b := 100000) (by decide) (by decide) (by decide) (by decide +kernel)
  obtain ⟨w, l2, t2, w0, w1, t20, t21, e2⟩ := digit (n := n + 1) (h0 := (hp [k1, k2])) (l := l1) (c := c) (t := t1) (b := 7) t10 (by omega) (by decide) (by decide +kernel)
  let σ2 : Sg := [a0, a1, a2, a3, a4, some (.p (.int 2)), some (.p (.int c)), some (.ref 2), some (.p (.int v)), a9, a10, a11, a12, a13]
  obtain ⟨m, hm, e3⟩ := th_ev (F := Fn G fs (n + 3)) (σ := σ2) (h := hp [k1, k2, stK l1 c t1]) rfl
  let σ3 : Sg := [a0, some (.p (.list (things v m))), a2, a3, a4, some (.p (.int 2)), some (.p (.int c)), some (.ref 2), some (.p (.int v)), a9, a10, a11, a12, a13]
  obtain ⟨x, hx, ex⟩ : ∃ x, x ∈ things v m ∧ subD (.p (.list (things v m))) (.p (.int w)) (hp [k1, k2, stK l2 c t2]) = some (.p x) := by
    have : w = 0 ∨ w = 1 ∨ w = 2 ∨ w = 3 ∨ w = 4 ∨ w = 5 ∨ w = 6 := by omega
    rcases this with rfl | rfl | rfl | rfl | rfl | rfl | rfl <;> exact ⟨_, by simp only [things, List.mem_cons, true_or, or_true], rfl⟩
  have sx := th_ok hm x hx
  refine ⟨stK l2 c t2, σ3, ?_, _, _, _, _, _, _, _, _, _, _, _, _, _, _, rfl⟩
  refine (mx_asg2 (h2 := hp [k1, k2, stK l0 c (1000 * 2)]) (.ref 2) (me_call2 (ds := [.p (.int c), .p (.int 2)]) (h1 := (hp [k1, k2])) rfl e0 rfl) rfl (by show (7 : Nat) < 14; decide)).trans ?_
  refine (mx_asg2 (h2 := hp [k1, k2, stK l1 c t1]) (.p (.int v)) (me_call2 (ds := [.ref 2, .p (.int 100000)]) (h1 := hp [k1, k2, stK l0 c (1000 * 2)]) rfl e1 rfl) rfl (by show (8 : Nat) < 14; decide)).trans ?_
  refine (mx_asg2 (h2 := hp [k1, k2, stK l1 c t1]) (.p (.list (things v m))) e3 rfl (by show (1 : Nat) < 14; decide)).trans ?_
  have ed : ev G (Fn G fs (n + 3)) (.call 2 [.v 7, .k (.int (7))]) σ3 (hp [k1, k2, stK l1 c t1]) = .ok (.p (.int w)) (hp [k1, k2, stK l2 c t2]) := me_call2 (ds := [.ref 2, .p (.int 7)]) (h1 := hp [k1, k2, stK l1 c t1]) rfl e2 rfl
  have es : ev G (Fn G fs (n + 3)) (.sub (.v 1) (.call 2 [.v 7, .k (.int (7))])) σ3 (hp [k1, k2, stK l1 c t1]) = .ok (.p x) (hp [k1, k2, stK l2 c t2]) := me_sub (x := .p (.list (things v m))) rfl ed ex
  have r1 := right_3 (n := n + 1) (x := x) (k1 := k1) (k2 := k2) (k3 := stK l2 c t2) sx (PySem.SeqAt.eqv_refl _ (PySem.SeqAt.canLay_of_shaped sx))
  have r2 := right_3 (n := n + 1) (x := .int (((10 ^ 50) ^ 50) ^ 2)) (k1 := k1) (k2 := k2) (k3 := stK l2 c t2) rfl (PySem.SeqAt.eqv_refl _ rfl)
  refine (mx_iteF2 (h1 := hp [k1, k2, stK l2 c t2]) (me_or2 (me_notT (me_call2 (evs_cons es rfl) r1 rfl)) (me_notT (me_call2 (evs_cons pw rfl) r2 rfl)))).trans ?_
  rfl
theorem iter_3 {n : Nat} {k1 k2 k3 : List (P × P)} {σ : Sg} (i : I14 σ) (c : Int) : ∃ σ1, asgT (.tup [.v 5, .v 6]) (mkTup [.p (.int (3 : Nat)), .p (.int c)]) σ (hp [k1, k2, k3]) = some σ1 ∧ ∃ kv σ2, execs G (Fn G fs (n + 3)) bL σ1 (hp [k1, k2, k3]) = .nx σ2 (hp [k1, k2, k3, kv]) ∧ I14 σ2 := by
  obtain ⟨a0, a1, a2, a3, a4, a5, a6, a7, a8, a9, a10, a11, a12, a13, rfl⟩ := i
  refine ⟨_, rfl, ?_⟩
  obtain ⟨l0, e0⟩ := draw (n := n + 2) (h0 := (hp [k1, k2, k3])) c 3 (by decide) (by decide)
  obtain ⟨v, l1, t1, v0, v1, t10, t11, e1⟩ := digit (n := n + 1) (h0 := (hp [k1, k2, k3])) (l := l0) (c := c) (t := 1000 * 3) (b := 100000) (by decide) (by decide) (by decide) (by decide +kernel)
  obtain ⟨w, l2, t2, w0, w1, t20, t21, e2⟩ := digit (n := n + 1) (h0 := (hp [k1, k2, k3])) (l := l1) (c := c) (t := t1) (b := 7) t10 (by omega) (by decide) (by decide +kernel)
  let σ2 : Sg := [a0, a1, a2, a3, a4, some (.p (.int 3)), some (.p (.int c)), some (.ref 3), some (.p (.int v)), a9, a10, a11, a12, a13]
  obtain ⟨m, hm, e3⟩ := th_ev (F := Fn G fs (n + 3)) (σ := σ2) (h := hp [k1, k2, k3, stK l1 c t1]) rfl
  let σ3 : Sg := [a0, some (.p (.list (things v m))), a2, a3, a4, some (.p (.int 3)), some (.p (.int c)), some (.ref 3), some (.p (.int v)), a9, a10, a11, a12, a13]
  obtain ⟨x, hx, ex⟩ : ∃ x, x ∈ things v m ∧ subD (.p (.list (things v m))) (.p (.int w)) (hp [k1, k2, k3, stK l2 c t2]) = some (.p x) := by
    have : w = 0 ∨ w = 1 ∨ w = 2 ∨ w = 3 ∨ w = 4 ∨ w = 5 ∨ w = 6 := by omega
    rcases this with rfl | rfl | rfl | rfl | rfl | rfl | rfl <;> exact ⟨_, by simp only [things, List.mem_cons, true_or, or_true], rfl⟩
  have sx := th_ok hm x hx
  refine ⟨stK l2 c t2, σ3, ?_, _, _, _, _, _, _, _, _, _, _, _, _, _, _, rfl⟩
  refine (mx_asg2 (h2 := hp [k1, k2, k3, stK l0 c (1000 * 3)]) (.ref 3) (me_call2 (ds := [.p (.int c), .p (.int 3)]) (h1 := (hp [k1, k2, k3])) rfl e0 rfl) rfl (by show (7 : Nat) < 14; decide)).trans ?_
  refine (mx_asg2 (h2 := hp [k1, k2, k3, stK l1 c t1]) (.p (.int v)) (me_call2 (ds := [.ref 3, .p (.int 100000)]) (h1 := hp [k1, k2, k3, stK l0 c (1000 * 3)]) rfl e1 rfl) rfl (by show (8 : Nat) < 14; decide)).trans ?_
  refine (mx_asg2 (h2 := hp [k1, k2, k3, stK l1 c t1]) (.p (.list (things v m))) e3 rfl (by show (1 : Nat) < 14; decide)).trans ?_
  have ed : ev G (Fn G fs (n + 3)) (.call 2 [.v 7, .k (.int (7))]) σ3 (hp [k1, k2, k3, stK l1 c t1]) = .ok (.p (.int w)) (hp [k1, k2, k3, stK l2 c t2]) := me_call2 (ds := [.ref 3, .p (.int 7)]) (h1 := hp [k1, k2, k3, stK l1 c t1]) rfl e2 rfl
  have es : ev G (Fn G fs (n + 3)) (.sub (.v 1) (.call 2 [.v 7, .k (.int (7))])) σ3 (hp [k1, k2, k3, stK l1 c t1]) = .ok (.p x) (hp [k1, k2, k3, stK l2 c t2]) := me_sub (x := .p (.list (things v m))) rfl ed ex
  have r1 := right_4 (n := n + 1) (x := x) (k1 := k1) (k2 := k2) (k3 := k3) (k4 := stK l2 c t2) sx (PySem.SeqAt.eqv_refl _ (PySem.SeqAt.canLay_of_shaped sx))
  have r2 := right_4 (n := n + 1) (x := .int (((10 ^ 50) ^ 50) ^ 2)) (k1 := k1) (k2 := k2) (k3 := k3) (k4 := stK l2 c t2) rfl (PySem.SeqAt.eqv_refl _ rfl)
  refine (mx_iteF2 (h1 := hp [k1, k2, k3, stK l2 c t2]) (me_or2 (me_notT (me_call2 (evs_cons es rfl) r1 rfl)) (me_notT (me_call2 (evs_cons pw rfl) r2 rfl)))).trans ?_
  rfl
theorem iter_4 {n : Nat} {k1 k2 k3 k4 : List (P × P)} {σ : Sg} (i : I14 σ) (c : Int) : ∃ σ1, asgT (.tup [.v 5, .v 6]) (mkTup [.p (.int (4 : Nat)), .p (.int c)]) σ (hp [k1, k2, k3, k4]) = some σ1 ∧ ∃ kv σ2, execs G (Fn G fs (n + 3)) bL σ1 (hp [k1, k2, k3, k4]) = .nx σ2 (hp [k1, k2, k3, k4, kv]) ∧ I14 σ2 := by
  obtain ⟨a0, a1, a2, a3, a4, a5, a6, a7, a8, a9, a10, a11, a12, a13, rfl⟩ := i
  refine ⟨_, rfl, ?_⟩
  obtain ⟨l0, e0⟩ := draw (n := n + 2) (h0 := (hp [k1, k2, k3, k4])) c 4 (by decide) (by decide)
  obtain ⟨v, l1, t1, v0, v1, t10, t11, e1⟩ := digit (n := n + 1) (h0 := (hp [k1, k2, k3, k4])) (l := l0) (c := c) (t := 1000 * 4) (b := 100000) (by decide) (by decide) (by decide) (by decide +kernel)
  obtain ⟨w, l2, t2, w0, w1, t20, t21, e2⟩ := digit (n := n + 1) (h0 := (hp [k1, k2, k3, k4])) (l := l1) (c := c) (t := t1) (b := 7) t10 (by omega) (by decide) (by decide +kernel)
  let σ2 : Sg := [a0, a1, a2, a3, a4, some (.p (.int 4)), some (.p (.int c)), some (.ref 4), some (.p (.int v)), a9, a10, a11, a12, a13]
  obtain ⟨m, hm, e3⟩ := th_ev (F := Fn G fs (n + 3)) (σ := σ2) (h := hp [k1, k2, k3, k4, stK l1 c t1]) rfl
  let σ3 : Sg := [a0, some (.p (.list (things v m))), a2, a3, a4, some (.p (.int 4)), some (.p (.int c)), some (.ref 4), some (.p (.int v)), a9, a10, a11, a12, a13]
  obtain ⟨x, hx, ex⟩ : ∃ x, x ∈ things v m ∧ subD (.p (.list (things v m))) (.p (.int w)) (hp [k1, k2, k3, k4, stK l2 c t2]) = some (.p x) := by
    have : w = 0 ∨ w = 1 ∨ w = 2 ∨ w = 3 ∨ w = 4 ∨ w = 5 ∨ w = 6 := by omega
    rcases this with rfl | rfl | rfl | rfl | rfl | rfl | rfl <;> exact ⟨_, by simp only [things, List.mem_cons, true_or, or_true], rfl⟩
  have sx := th_ok hm x hx
  refine ⟨stK l2 c t2, σ3, ?_, _, _, _, _, _, _, _, _, _, _, _, _, _, _, rfl⟩
  refine (mx_asg2 (h2 := hp [k1, k2, k3, k4, stK l0 c (1000 * 4)]) (.ref 4) (me_call2 (ds := [.p (.int c), .p (.int 4)]) (h1 := (hp [k1, k2, k3, k4])) rfl e0 rfl) rfl (by show (7 : Nat) < 14; decide)).trans ?_
  refine (mx_asg2 (h2 := hp [k1, k2, k3, k4, stK l1 c t1]) (.p (.int v)) (me_call2 (ds := [.ref 4, .p (.int 100000)]) (h1 := hp [k1, k2, k3, k4, stK l0 c (1000 * 4)]) rfl e1 rfl) rfl (by show (8 : Nat) < 14; decide)).trans ?_
  refine (mx_asg2 (h2 := hp [k1, k2, k3, k4, stK l1 c t1]) (.p (.list (things v m))) e3 rfl (by show (1 : Nat) < 14; decide)).trans ?_
  have ed : ev G (Fn G fs (n + 3)) (.call 2 [.v 7, .k (.int (7))]) σ3 (hp [k1, k2, k3, k4, stK l1 c t1]) = .ok (.p (.int w)) (hp [k1, k2, k3, k4, stK l2 c t2]) := me_call2 (ds := [.ref 4, .p (.int 7)]) (h1 := hp [k1, k2, k3, k4, stK l1 c t1]) rfl e2 rfl
  have es : ev G (Fn G fs (n + 3)) (.sub (.v 1) (.call 2 [.v 7, .k (.int (7))])) σ3 (hp [k1, k2, k3, k4, stK l1 c t1]) = .ok (.p x) (hp [k1, k2, k3, k4, stK l2 c t2]) := me_sub (x := .p (.list (things v m))) rfl ed ex
  have r1 := right_5 (n := n + 1) (x := x) (k1 := k1) (k2 := k2) (k3 := k3) (k4 := k4) (k5 := stK l2 c t2) sx (PySem.SeqAt.eqv_refl _ (PySem.SeqAt.canLay_of_shaped sx))
  have r2 := right_5 (n := n + 1) (x := .int (((10 ^ 50) ^ 50) ^ 2)) (k1 := k1) (k2 := k2) (k3 := k3) (k4 := k4) (k5 := stK l2 c t2) rfl (PySem.SeqAt.eqv_refl _ rfl)
  refine (mx_iteF2 (h1 := hp [k1, k2, k3, k4, stK l2 c t2]) (me_or2 (me_notT (me_call2 (evs_cons es rfl) r1 rfl)) (me_notT (me_call2 (evs_cons pw rfl) r2 rfl)))).trans ?_
  rfl
theorem rest_1 {n : Nat} {k1 : List (P × P)} {σ : Sg} (i : I14 σ) : ∃ h', execs G (Fn G fs (n + 3)) rest σ (hp [k1]) = .rt (.p (.bool true)) h' := by
  obtain ⟨a0, a1, a2, a3, a4, a5, a6, a7, a8, a9, a10, a11, a12, a13, rfl⟩ := i
  exact ⟨hOf (execs G (Fn G fs (n + 3)) rest [a0, a1, a2, a3, a4, a5, a6, a7, a8, a9, a10, a11, a12, a13] (hp [k1])), by kernel_rfl⟩
theorem rest_2 {n : Nat} {k1 k2 : List (P × P)} {σ : Sg} (i : I14 σ) : ∃ h', execs G (Fn G fs (n + 3)) rest σ (hp [k1, k2]) = .rt (.p (.bool true)) h' := by
  obtain ⟨a0, a1, a2, a3, a4, a5, a6, a7, a8, a9, a10, a11, a12, a13, rfl⟩ := i
  exact ⟨hOf (execs G (Fn G fs (n + 3)) rest [a0, a1, a2, a3, a4, a5, a6, a7, a8, a9, a10, a11, a12, a13] (hp [k1, k2])), by kernel_rfl⟩
theorem rest_3 {n : Nat} {k1 k2 k3 : List (P × P)} {σ : Sg} (i : I14 σ) : ∃ h', execs G (Fn G fs (n + 3)) rest σ (hp [k1, k2, k3]) = .rt (.p (.bool true)) h' := by
  obtain ⟨a0, a1, a2, a3, a4, a5, a6, a7, a8, a9, a10, a11, a12, a13, rfl⟩ := i
  exact ⟨hOf (execs G (Fn G fs (n + 3)) rest [a0, a1, a2, a3, a4, a5, a6, a7, a8, a9, a10, a11, a12, a13] (hp [k1, k2, k3])), by kernel_rfl⟩
theorem rest_4 {n : Nat} {k1 k2 k3 k4 : List (P × P)} {σ : Sg} (i : I14 σ) : ∃ h', execs G (Fn G fs (n + 3)) rest σ (hp [k1, k2, k3, k4]) = .rt (.p (.bool true)) h' := by
  obtain ⟨a0, a1, a2, a3, a4, a5, a6, a7, a8, a9, a10, a11, a12, a13, rfl⟩ := i
  exact ⟨hOf (execs G (Fn G fs (n + 3)) rest [a0, a1, a2, a3, a4, a5, a6, a7, a8, a9, a10, a11, a12, a13] (hp [k1, k2, k3, k4])), by kernel_rfl⟩
theorem rest_5 {n : Nat} {k1 k2 k3 k4 k5 : List (P × P)} {σ : Sg} (i : I14 σ) : ∃ h', execs G (Fn G fs (n + 3)) rest σ (hp [k1, k2, k3, k4, k5]) = .rt (.p (.bool true)) h' := by
  obtain ⟨a0, a1, a2, a3, a4, a5, a6, a7, a8, a9, a10, a11, a12, a13, rfl⟩ := i
  exact ⟨hOf (execs G (Fn G fs (n + 3)) rest [a0, a1, a2, a3, a4, a5, a6, a7, a8, a9, a10, a11, a12, a13] (hp [k1, k2, k3, k4, k5])), by kernel_rfl⟩
end K99
end
section
namespace K99
open PySem Pd
abbrev dI (i : Int) : D := .p (.int i)
theorem sumI_ints : ∀ (ns : List Int) (a : Int), sumI ((ns.map PyData.int).map D.p) a = some (ns.foldl (· + ·) a)
  | [], _ => rfl
  | i :: r, a => sumI_ints r (a + i)
theorem for_one {t : T} {b : Sg → Cs → O} {x : D} {r : List D} {σ σ1 σ2 : Sg} {h h2 : Cs} (e1 : asgT t x σ h = some σ1) (e2 : b σ1 h = .nx σ2 h2) : forGo t b (x :: r) σ h = forGo t b r σ2 h2 := by
  simp only [forGo, e1, e2]
def itE : E := .bin .add (.slc (.v 0) (.ab) (.k (.int (4)))) (.lst false [.bi .sum false false [.v 0]])
theorem body_eq : fd_law.body = .for (.tup [.v 5, .v 6]) .enum [itE] bL :: rest := rfl
theorem it_ev {F : FT} {ns L : List Int} {r : Sg} (hs : slcD (.p (.list (ns.map PyData.int))) none (some 4) [] = some (.p (.list (L.map PyData.int)))) (hl : L.length ≤ 4) :
    ev G F itE (some (.p (.list (ns.map PyData.int))) :: r) [] = .ok (.p (.list ((L ++ [ns.foldl (· + ·) 0]).map PyData.int))) [] := by
  have h1 : ev G F (.slc (.v 0) (.ab) (.k (.int (4)))) (some (.p (.list (ns.map PyData.int))) :: r) [] = .ok (.p (.list (L.map PyData.int))) [] := by
    unfold ev
    show R.ofD (slcD (.p (.list (ns.map PyData.int))) none (some 4) []) [] "slice" = _
    rw [hs]
    rfl
  have h2 : ev G F (.lst false [.bi .sum false false [.v 0]]) (some (.p (.list (ns.map PyData.int))) :: r) [] = .ok (.p (.list [.int (ns.foldl (· + ·) 0)])) [] := by
    have : ev G F (.bi .sum false false [.v 0]) (some (.p (.list (ns.map PyData.int))) :: r) [] = .ok (.p (.int (ns.foldl (· + ·) 0))) [] := by
      unfold ev
      show R.ofC (match sumI ((ns.map PyData.int).map D.p) 0 with | some i => some (D.p (.int i), ([] : Cs)) | none => none) "builtin" = _
      rw [sumI_ints]
      rfl
    exact me_lst (evs_cons this (show evs G F [] _ [] = .ok [] [] from rfl))
  refine me_bin h1 h2 ?_
  match L, hl with
  | [], _ => rfl
  | [a], _ => rfl
  | [a, b], _ => rfl
  | [a, b, c], _ => rfl
  | [a, b, c, d], _ => rfl
  | _ :: _ :: _ :: _ :: _ :: _, h => exact absurd h (by simp only [List.length_cons]; omega)
def σ0 (x : D) : Sg := [some x, none, none, none, none, none, none, none, none, none, none, none, none, none]
theorem i0 (x : D) : I14 (σ0 x) := ⟨_, _, _, _, _, _, _, _, _, _, _, _, _, _, rfl⟩
theorem law_of {n : Nat} {ns L : List Int} {σ' : Sg} {h1 : Cs} (hs : slcD (.p (.list (ns.map PyData.int))) none (some 4) [] = some (.p (.list (L.map PyData.int)))) (hl : L.length ≤ 4)
    (hf : forGo (.tup [.v 5, .v 6]) (execs G (Fn G fs (n + 3)) bL) (enumD 0 (((L ++ [ns.foldl (· + ·) 0]).map PyData.int).map D.p)) (σ0 (.p (.list (ns.map PyData.int)))) [] = .nx σ' h1) (hr : ∃ h', execs G (Fn G fs (n + 3)) rest σ' h1 = .rt (.p (.bool true)) h') :
    ∃ h', Fn G fs (n + 4) 7 [.p (.list (ns.map PyData.int))] [] = .ok (.p (.bool true)) h' := by
  obtain ⟨h', hr⟩ := hr
  refine ⟨h', fnG_rt (fd := fd_law) rfl rfl ?_⟩
  rw [body_eq]
  have z : Pd.exec G (Fn G fs (n + 3)) (.for (.tup [.v 5, .v 6]) .enum [itE] bL) (σ0 (.p (.list (ns.map PyData.int)))) [] = .nx σ' h1 := by
    unfold Pd.exec
    rw [show evs G (Fn G fs (n + 3)) [itE] (σ0 (.p (.list (ns.map PyData.int)))) [] = _ from evs1 (it_ev (r := [none, none, none, none, none, none, none, none, none, none, none, none, none]) hs hl)]
    show O.unhold [.p (.list _)] [] (forGo (.tup [.v 5, .v 6]) (execs G (Fn G fs (n + 3)) bL) (enumD 0 (((L ++ [ns.foldl (· + ·) 0]).map PyData.int).map D.p)) (σ0 (.p (.list (ns.map PyData.int)))) []) = _
    rw [hf]
    rfl
  show Pd.execs G (Fn G fs (n + 3)) (.for (.tup [.v 5, .v 6]) .enum [itE] bL :: rest) (σ0 (.p (.list (ns.map PyData.int)))) [] = _
  simp only [Pd.execs, z]
  exact hr
theorem loop_1 {n : Nat} (x : D) (c0 : Int) : ∃ σ' h1, forGo (.tup [.v 5, .v 6]) (execs G (Fn G fs (n + 3)) bL) (enumD 0 ([PyData.int c0].map D.p)) (σ0 x) [] = .nx σ' h1 ∧ ∃ h', execs G (Fn G fs (n + 3)) rest σ' h1 = .rt (.p (.bool true)) h' := by
  obtain ⟨a0, e0, kv0, s0, f0, i0⟩ := iter_0 (n := n)  (i0 x) c0
  refine ⟨s0, _, ?_, rest_1 (n := n) (k1 := kv0) i0⟩
  refine (for_one e0 f0).trans ?_
  rfl
theorem loop_2 {n : Nat} (x : D) (c0 c1 : Int) : ∃ σ' h1, forGo (.tup [.v 5, .v 6]) (execs G (Fn G fs (n + 3)) bL) (enumD 0 ([PyData.int c0, PyData.int c1].map D.p)) (σ0 x) [] = .nx σ' h1 ∧ ∃ h', execs G (Fn G fs (n + 3)) rest σ' h1 = .rt (.p (.bool true)) h' := by
  obtain ⟨a0, e0, kv0, s0, f0, i0⟩ := iter_0 (n := n)  (i0 x) c0
  obtain ⟨a1, e1, kv1, s1, f1, i1⟩ := iter_1 (n := n) (k1 := kv0) i0 c1
  refine ⟨s1, _, ?_, rest_2 (n := n) (k1 := kv0) (k2 := kv1) i1⟩
  refine (for_one e0 f0).trans ?_
  refine (for_one e1 f1).trans ?_
  rfl
theorem loop_3 {n : Nat} (x : D) (c0 c1 c2 : Int) : ∃ σ' h1, forGo (.tup [.v 5, .v 6]) (execs G (Fn G fs (n + 3)) bL) (enumD 0 ([PyData.int c0, PyData.int c1, PyData.int c2].map D.p)) (σ0 x) [] = .nx σ' h1 ∧ ∃ h', execs G (Fn G fs (n + 3)) rest σ' h1 = .rt (.p (.bool true)) h' := by
  obtain ⟨a0, e0, kv0, s0, f0, i0⟩ := iter_0 (n := n)  (i0 x) c0
  obtain ⟨a1, e1, kv1, s1, f1, i1⟩ := iter_1 (n := n) (k1 := kv0) i0 c1
  obtain ⟨a2, e2, kv2, s2, f2, i2⟩ := iter_2 (n := n) (k1 := kv0) (k2 := kv1) i1 c2
  refine ⟨s2, _, ?_, rest_3 (n := n) (k1 := kv0) (k2 := kv1) (k3 := kv2) i2⟩
  refine (for_one e0 f0).trans ?_
  refine (for_one e1 f1).trans ?_
  refine (for_one e2 f2).trans ?_
  rfl
theorem loop_4 {n : Nat} (x : D) (c0 c1 c2 c3 : Int) : ∃ σ' h1, forGo (.tup [.v 5, .v 6]) (execs G (Fn G fs (n + 3)) bL) (enumD 0 ([PyData.int c0, PyData.int c1, PyData.int c2, PyData.int c3].map D.p)) (σ0 x) [] = .nx σ' h1 ∧ ∃ h', execs G (Fn G fs (n + 3)) rest σ' h1 = .rt (.p (.bool true)) h' := by
  obtain ⟨a0, e0, kv0, s0, f0, i0⟩ := iter_0 (n := n)  (i0 x) c0
  obtain ⟨a1, e1, kv1, s1, f1, i1⟩ := iter_1 (n := n) (k1 := kv0) i0 c1
  obtain ⟨a2, e2, kv2, s2, f2, i2⟩ := iter_2 (n := n) (k1 := kv0) (k2 := kv1) i1 c2
  obtain ⟨a3, e3, kv3, s3, f3, i3⟩ := iter_3 (n := n) (k1 := kv0) (k2 := kv1) (k3 := kv2) i2 c3
  refine ⟨s3, _, ?_, rest_4 (n := n) (k1 := kv0) (k2 := kv1) (k3 := kv2) (k4 := kv3) i3⟩
  refine (for_one e0 f0).trans ?_
  refine (for_one e1 f1).trans ?_
  refine (for_one e2 f2).trans ?_
  refine (for_one e3 f3).trans ?_
  rfl
theorem loop_5 {n : Nat} (x : D) (c0 c1 c2 c3 c4 : Int) : ∃ σ' h1, forGo (.tup [.v 5, .v 6]) (execs G (Fn G fs (n + 3)) bL) (enumD 0 ([PyData.int c0, PyData.int c1, PyData.int c2, PyData.int c3, PyData.int c4].map D.p)) (σ0 x) [] = .nx σ' h1 ∧ ∃ h', execs G (Fn G fs (n + 3)) rest σ' h1 = .rt (.p (.bool true)) h' := by
  obtain ⟨a0, e0, kv0, s0, f0, i0⟩ := iter_0 (n := n)  (i0 x) c0
  obtain ⟨a1, e1, kv1, s1, f1, i1⟩ := iter_1 (n := n) (k1 := kv0) i0 c1
  obtain ⟨a2, e2, kv2, s2, f2, i2⟩ := iter_2 (n := n) (k1 := kv0) (k2 := kv1) i1 c2
  obtain ⟨a3, e3, kv3, s3, f3, i3⟩ := iter_3 (n := n) (k1 := kv0) (k2 := kv1) (k3 := kv2) i2 c3
  obtain ⟨a4, e4, kv4, s4, f4, i4⟩ := iter_4 (n := n) (k1 := kv0) (k2 := kv1) (k3 := kv2) (k4 := kv3) i3 c4
  refine ⟨s4, _, ?_, rest_5 (n := n) (k1 := kv0) (k2 := kv1) (k3 := kv2) (k4 := kv3) (k5 := kv4) i4⟩
  refine (for_one e0 f0).trans ?_
  refine (for_one e1 f1).trans ?_
  refine (for_one e2 f2).trans ?_
  refine (for_one e3 f3).trans ?_
  refine (for_one e4 f4).trans ?_
  rfl
theorem law_true (n : Nat) (ns : List Int) : ∃ h', Fn G fs (n + 4) 7 [.p (.list (ns.map PyData.int))] [] = .ok (.p (.bool true)) h' := by
  match ns with
  | [] =>
    obtain ⟨σ', h1, e, r⟩ := loop_1 (n := n) (.p (.list (([] : List Int).map PyData.int))) 0
    exact law_of (L := []) rfl (by decide) e r
  | [a] =>
    obtain ⟨σ', h1, e, r⟩ := loop_2 (n := n) (.p (.list ([a].map PyData.int))) a ([a].foldl (· + ·) 0)
    exact law_of (L := [a]) rfl (by simp) e r
  | [a, b] =>
    obtain ⟨σ', h1, e, r⟩ := loop_3 (n := n) (.p (.list ([a, b].map PyData.int))) a b ([a, b].foldl (· + ·) 0)
    exact law_of (L := [a, b]) rfl (by simp) e r
  | [a, b, c] =>
    obtain ⟨σ', h1, e, r⟩ := loop_4 (n := n) (.p (.list ([a, b, c].map PyData.int))) a b c ([a, b, c].foldl (· + ·) 0)
    exact law_of (L := [a, b, c]) rfl (by simp) e r
  | a :: b :: c :: d :: q =>
    obtain ⟨σ', h1, e, r⟩ := loop_5 (n := n) (.p (.list ((a :: b :: c :: d :: q).map PyData.int))) a b c d ((a :: b :: c :: d :: q).foldl (· + ·) 0)
    refine law_of (L := [a, b, c, d]) ?_ (by simp) e r
    have m : sIx ((((a :: b :: c :: d :: q).map PyData.int).map D.p).length) ((((a :: b :: c :: d :: q).map PyData.int).map D.p).length) (some 4) = 4 := by
      unfold sIx
      simp only [List.length_map, List.length_cons]
      rw [if_neg (by decide)]
      have : (4 : Int).toNat = 4 := rfl
      omega
    show some (mkLst (cut (((a :: b :: c :: d :: q).map PyData.int).map D.p) none (some 4))) = _
    unfold cut
    rw [m]
    rfl
end K99
end
section
namespace K99
open PySem PySem.Spec PyProof.Rows L2 Pd
abbrev eAt (i : Nat) : ClE := es.getD i ⟨"", "", "", "", false, false, .ve⟩
abbrev dAt (i : Nat) : He.DefD := dIni (eAt i) (clsTop.getD i 0)
abbrev InT (i : Nat) : Prop := InitT (eAt i) (dAt i).name (dAt i).qual (dAt i).params (dAt i).body (dAt i).scope
theorem in0 : InT 0 := by exact { bd := ⟨_, _, _, _, _, _, _, _, _, _, _, rfl, fun env => ⟨_, rfl⟩⟩, sc := ⟨rfl, rfl, rfl, by decide +kernel, rfl, by decide +kernel, by decide +kernel⟩, hs := rfl, hf := rfl, hg := rfl, hd := by decide +kernel, b1 := fun _ _ _ _ _ _ _ _ _ _ => ⟨_, rfl, rfl⟩, b5 := (fun z => Bool.noConfusion z), b2 := fun _ _ _ _ _ _ _ _ _ _ => ⟨_, rfl, rfl⟩, b4 := (fun z => Bool.noConfusion z), b3 := fun _ _ _ _ _ _ _ _ _ => ⟨_, rfl, rfl⟩ }
theorem in1 : InT 1 := by exact { bd := ⟨_, _, _, _, _, _, _, _, _, _, _, rfl, fun env => ⟨_, rfl⟩⟩, sc := ⟨rfl, rfl, rfl, by decide +kernel, rfl, by decide +kernel, by decide +kernel⟩, hs := rfl, hf := rfl, hg := rfl, hd := by decide +kernel, b1 := fun _ _ _ _ _ _ _ _ _ _ => ⟨_, rfl, rfl⟩, b5 := (fun z => Bool.noConfusion z), b2 := fun _ _ _ _ _ _ _ _ _ _ => ⟨_, rfl, rfl⟩, b4 := (fun z => Bool.noConfusion z), b3 := fun _ _ _ _ _ _ _ _ _ => ⟨_, rfl, rfl⟩ }
theorem in2 : InT 2 := by exact { bd := ⟨_, _, _, _, _, _, _, _, _, _, _, rfl, fun env => ⟨_, rfl⟩⟩, sc := ⟨rfl, rfl, rfl, by decide +kernel, rfl, by decide +kernel, by decide +kernel⟩, hs := rfl, hf := rfl, hg := rfl, hd := by decide +kernel, b1 := fun _ _ _ _ _ _ _ _ _ _ => ⟨_, rfl, rfl⟩, b5 := (fun z => Bool.noConfusion z), b2 := fun _ _ _ _ _ _ _ _ _ _ => ⟨_, rfl, rfl⟩, b4 := (fun z => Bool.noConfusion z), b3 := fun _ _ _ _ _ _ _ _ _ => ⟨_, rfl, rfl⟩ }
theorem in3 : InT 3 := by exact { bd := ⟨_, _, _, _, _, _, _, _, _, _, _, rfl, fun env => ⟨_, rfl⟩⟩, sc := ⟨rfl, rfl, rfl, by decide +kernel, rfl, by decide +kernel, by decide +kernel⟩, hs := rfl, hf := rfl, hg := rfl, hd := by decide +kernel, b1 := fun _ _ _ _ _ _ _ _ _ _ => ⟨_, rfl, rfl⟩, b5 := (fun z => Bool.noConfusion z), b2 := fun _ _ _ _ _ _ _ _ _ _ => ⟨_, rfl, rfl⟩, b4 := (fun z => Bool.noConfusion z), b3 := fun _ _ _ _ _ _ _ _ _ => ⟨_, rfl, rfl⟩ }
theorem in4 : InT 4 := by exact { bd := ⟨_, _, _, _, _, _, _, _, _, _, _, rfl, fun env => ⟨_, rfl⟩⟩, sc := ⟨rfl, rfl, rfl, by decide +kernel, rfl, by decide +kernel, by decide +kernel⟩, hs := rfl, hf := rfl, hg := rfl, hd := by decide +kernel, b1 := fun _ _ _ _ _ _ _ _ _ _ => ⟨_, rfl, rfl⟩, b5 := (fun z => Bool.noConfusion z), b2 := fun _ _ _ _ _ _ _ _ _ _ => ⟨_, rfl, rfl⟩, b4 := (fun z => Bool.noConfusion z), b3 := fun _ _ _ _ _ _ _ _ _ => ⟨_, rfl, rfl⟩ }
theorem in5 : InT 5 := by exact { bd := ⟨_, _, _, _, _, _, _, _, _, _, _, rfl, fun env => ⟨_, rfl⟩⟩, sc := ⟨rfl, rfl, rfl, by decide +kernel, rfl, by decide +kernel, by decide +kernel⟩, hs := rfl, hf := rfl, hg := rfl, hd := by decide +kernel, b1 := fun _ _ _ _ _ _ _ _ _ _ => ⟨_, rfl, rfl⟩, b5 := (fun z => Bool.noConfusion z), b2 := fun _ _ _ _ _ _ _ _ _ _ => ⟨_, rfl, rfl⟩, b4 := (fun z => Bool.noConfusion z), b3 := fun _ _ _ _ _ _ _ _ _ => ⟨_, rfl, rfl⟩ }
theorem in6 : InT 6 := by exact { bd := ⟨_, _, _, _, _, _, _, _, _, _, _, rfl, fun env => ⟨_, rfl⟩⟩, sc := ⟨rfl, rfl, rfl, by decide +kernel, rfl, by decide +kernel, by decide +kernel⟩, hs := rfl, hf := rfl, hg := rfl, hd := by decide +kernel, b1 := fun _ _ _ _ _ _ _ _ _ _ => ⟨_, rfl, rfl⟩, b5 := (fun z => Bool.noConfusion z), b2 := fun _ _ _ _ _ _ _ _ _ _ => ⟨_, rfl, rfl⟩, b4 := (fun z => Bool.noConfusion z), b3 := fun _ _ _ _ _ _ _ _ _ => ⟨_, rfl, rfl⟩ }
theorem in7 : InT 7 := by exact { bd := ⟨_, _, _, _, _, _, _, _, _, _, _, rfl, fun env => ⟨_, rfl⟩⟩, sc := ⟨rfl, rfl, rfl, by decide +kernel, rfl, by decide +kernel, by decide +kernel⟩, hs := rfl, hf := rfl, hg := rfl, hd := by decide +kernel, b1 := fun _ _ _ _ _ _ _ _ _ _ => ⟨_, rfl, rfl⟩, b5 := (fun z => Bool.noConfusion z), b2 := fun _ _ _ _ _ _ _ _ _ _ => ⟨_, rfl, rfl⟩, b4 := (fun z => Bool.noConfusion z), b3 := fun _ _ _ _ _ _ _ _ _ => ⟨_, rfl, rfl⟩ }
theorem in8 : InT 8 := by exact { bd := ⟨_, _, _, _, _, _, _, _, _, _, _, rfl, fun env => ⟨_, rfl⟩⟩, sc := ⟨rfl, rfl, rfl, by decide +kernel, rfl, by decide +kernel, by decide +kernel⟩, hs := rfl, hf := rfl, hg := rfl, hd := by decide +kernel, b1 := fun _ _ _ _ _ _ _ _ _ _ => ⟨_, rfl, rfl⟩, b5 := (fun z => Bool.noConfusion z), b2 := fun _ _ _ _ _ _ _ _ _ _ => ⟨_, rfl, rfl⟩, b4 := (fun z => Bool.noConfusion z), b3 := fun _ _ _ _ _ _ _ _ _ => ⟨_, rfl, rfl⟩ }
theorem in9 : InT 9 := by exact { bd := ⟨_, _, _, _, _, _, _, _, _, _, _, rfl, fun env => ⟨_, rfl⟩⟩, sc := ⟨rfl, rfl, rfl, by decide +kernel, rfl, by decide +kernel, by decide +kernel⟩, hs := rfl, hf := rfl, hg := rfl, hd := by decide +kernel, b1 := fun _ _ _ _ _ _ _ _ _ _ => ⟨_, rfl, rfl⟩, b5 := (fun z => Bool.noConfusion z), b2 := fun _ _ _ _ _ _ _ _ _ _ => ⟨_, rfl, rfl⟩, b4 := (fun z => Bool.noConfusion z), b3 := fun _ _ _ _ _ _ _ _ _ => ⟨_, rfl, rfl⟩ }
theorem in10 : InT 10 := by exact { bd := ⟨_, _, _, _, _, _, _, _, _, _, _, rfl, fun env => ⟨_, rfl⟩⟩, sc := ⟨rfl, rfl, rfl, by decide +kernel, rfl, by decide +kernel, by decide +kernel⟩, hs := rfl, hf := rfl, hg := rfl, hd := by decide +kernel, b1 := fun _ _ _ _ _ _ _ _ _ _ => ⟨_, rfl, rfl⟩, b5 := (fun z => Bool.noConfusion z), b2 := fun _ _ _ _ _ _ _ _ _ _ => ⟨_, rfl, rfl⟩, b4 := (fun z => Bool.noConfusion z), b3 := fun _ _ _ _ _ _ _ _ _ => ⟨_, rfl, rfl⟩ }
theorem in11 : InT 11 := by exact { bd := ⟨_, _, _, _, _, _, _, _, _, _, _, rfl, fun env => ⟨_, rfl⟩⟩, sc := ⟨rfl, rfl, rfl, by decide +kernel, rfl, by decide +kernel, by decide +kernel⟩, hs := rfl, hf := rfl, hg := rfl, hd := by decide +kernel, b1 := fun _ _ _ _ _ _ _ _ _ _ => ⟨_, rfl, rfl⟩, b5 := (fun z => Bool.noConfusion z), b2 := fun _ _ _ _ _ _ _ _ _ _ => ⟨_, rfl, rfl⟩, b4 := (fun z => Bool.noConfusion z), b3 := fun _ _ _ _ _ _ _ _ _ => ⟨_, rfl, rfl⟩ }
theorem in12 : InT 12 := by exact { bd := ⟨_, _, _, _, _, _, _, _, _, _, _, rfl, fun env => ⟨_, rfl⟩⟩, sc := ⟨rfl, rfl, rfl, by decide +kernel, rfl, by decide +kernel, by decide +kernel⟩, hs := rfl, hf := rfl, hg := rfl, hd := by decide +kernel, b1 := fun _ _ _ _ _ _ _ _ _ _ => ⟨_, rfl, rfl⟩, b5 := (fun z => Bool.noConfusion z), b2 := fun _ _ _ _ _ _ _ _ _ _ => ⟨_, rfl, rfl⟩, b4 := (fun z => Bool.noConfusion z), b3 := fun _ _ _ _ _ _ _ _ _ => ⟨_, rfl, rfl⟩ }
theorem in13 : InT 13 := by exact { bd := ⟨_, _, _, _, _, _, _, _, _, _, _, rfl, fun env => ⟨_, rfl⟩⟩, sc := ⟨rfl, rfl, rfl, by decide +kernel, rfl, by decide +kernel, by decide +kernel⟩, hs := rfl, hf := rfl, hg := rfl, hd := by decide +kernel, b1 := fun _ _ _ _ _ _ _ _ _ _ => ⟨_, rfl, rfl⟩, b5 := (fun z => Bool.noConfusion z), b2 := fun _ _ _ _ _ _ _ _ _ _ => ⟨_, rfl, rfl⟩, b4 := (fun z => Bool.noConfusion z), b3 := fun _ _ _ _ _ _ _ _ _ => ⟨_, rfl, rfl⟩ }
theorem in14 : InT 14 := by exact { bd := ⟨_, _, _, _, _, _, _, _, _, _, _, rfl, fun env => ⟨_, rfl⟩⟩, sc := ⟨rfl, rfl, rfl, by decide +kernel, rfl, by decide +kernel, by decide +kernel⟩, hs := rfl, hf := rfl, hg := rfl, hd := by decide +kernel, b1 := fun _ _ _ _ _ _ _ _ _ _ => ⟨_, rfl, rfl⟩, b5 := (fun z => Bool.noConfusion z), b2 := fun _ _ _ _ _ _ _ _ _ _ => ⟨_, rfl, rfl⟩, b4 := (fun z => Bool.noConfusion z), b3 := fun _ _ _ _ _ _ _ _ _ => ⟨_, rfl, rfl⟩ }
theorem in15 : InT 15 := by exact { bd := ⟨_, _, _, _, _, _, _, _, _, _, _, rfl, fun env => ⟨_, rfl⟩⟩, sc := ⟨rfl, rfl, rfl, by decide +kernel, rfl, by decide +kernel, by decide +kernel⟩, hs := rfl, hf := rfl, hg := rfl, hd := by decide +kernel, b1 := fun _ _ _ _ _ _ _ _ _ _ => ⟨_, rfl, rfl⟩, b5 := (fun z => Bool.noConfusion z), b2 := fun _ _ _ _ _ _ _ _ _ _ => ⟨_, rfl, rfl⟩, b4 := (fun z => Bool.noConfusion z), b3 := fun _ _ _ _ _ _ _ _ _ => ⟨_, rfl, rfl⟩ }
theorem in16 : InT 16 := by exact { bd := ⟨_, _, _, _, _, _, _, _, _, _, _, rfl, fun env => ⟨_, rfl⟩⟩, sc := ⟨rfl, rfl, rfl, by decide +kernel, rfl, by decide +kernel, by decide +kernel⟩, hs := rfl, hf := rfl, hg := rfl, hd := by decide +kernel, b1 := fun _ _ _ _ _ _ _ _ _ _ => ⟨_, rfl, rfl⟩, b5 := (fun z => Bool.noConfusion z), b2 := fun _ _ _ _ _ _ _ _ _ _ => ⟨_, rfl, rfl⟩, b4 := (fun z => Bool.noConfusion z), b3 := fun _ _ _ _ _ _ _ _ _ => ⟨_, rfl, rfl⟩ }
theorem in17 : InT 17 := by exact { bd := ⟨_, _, _, _, _, _, _, _, _, _, _, rfl, fun env => ⟨_, rfl⟩⟩, sc := ⟨rfl, rfl, rfl, by decide +kernel, rfl, by decide +kernel, by decide +kernel⟩, hs := rfl, hf := rfl, hg := rfl, hd := by decide +kernel, b1 := fun _ _ _ _ _ _ _ _ _ _ => ⟨_, rfl, rfl⟩, b5 := (fun z => Bool.noConfusion z), b2 := fun _ _ _ _ _ _ _ _ _ _ => ⟨_, rfl, rfl⟩, b4 := (fun z => Bool.noConfusion z), b3 := fun _ _ _ _ _ _ _ _ _ => ⟨_, rfl, rfl⟩ }
theorem in18 : InT 18 := by exact { bd := ⟨_, _, _, _, _, _, _, _, _, _, _, rfl, fun env => ⟨_, rfl⟩⟩, sc := ⟨rfl, rfl, rfl, by decide +kernel, rfl, by decide +kernel, by decide +kernel⟩, hs := rfl, hf := rfl, hg := rfl, hd := by decide +kernel, b1 := fun _ _ _ _ _ _ _ _ _ _ => ⟨_, rfl, rfl⟩, b5 := (fun z => Bool.noConfusion z), b2 := fun _ _ _ _ _ _ _ _ _ _ => ⟨_, rfl, rfl⟩, b4 := (fun z => Bool.noConfusion z), b3 := fun _ _ _ _ _ _ _ _ _ => ⟨_, rfl, rfl⟩ }
theorem in19 : InT 19 := by exact { bd := ⟨_, _, _, _, _, _, _, _, _, _, _, rfl, fun env => ⟨_, rfl⟩⟩, sc := ⟨rfl, rfl, rfl, by decide +kernel, rfl, by decide +kernel, by decide +kernel⟩, hs := rfl, hf := rfl, hg := rfl, hd := by decide +kernel, b1 := fun _ _ _ _ _ _ _ _ _ _ => ⟨_, rfl, rfl⟩, b5 := (fun z => Bool.noConfusion z), b2 := fun _ _ _ _ _ _ _ _ _ _ => ⟨_, rfl, rfl⟩, b4 := (fun z => Bool.noConfusion z), b3 := fun _ _ _ _ _ _ _ _ _ => ⟨_, rfl, rfl⟩ }
theorem in20 : InT 20 := by exact { bd := ⟨_, _, _, _, _, _, _, _, _, _, _, rfl, fun env => ⟨_, rfl⟩⟩, sc := ⟨rfl, rfl, rfl, by decide +kernel, rfl, by decide +kernel, by decide +kernel⟩, hs := rfl, hf := rfl, hg := rfl, hd := by decide +kernel, b1 := fun _ _ _ _ _ _ _ _ _ _ => ⟨_, rfl, rfl⟩, b5 := (fun z => Bool.noConfusion z), b2 := fun _ _ _ _ _ _ _ _ _ _ => ⟨_, rfl, rfl⟩, b4 := (fun z => Bool.noConfusion z), b3 := fun _ _ _ _ _ _ _ _ _ => ⟨_, rfl, rfl⟩ }
theorem in21 : InT 21 := by exact { bd := ⟨_, _, _, _, _, _, _, _, _, _, _, rfl, fun env => ⟨_, rfl⟩⟩, sc := ⟨rfl, rfl, rfl, by decide +kernel, rfl, by decide +kernel, by decide +kernel⟩, hs := rfl, hf := rfl, hg := rfl, hd := by decide +kernel, b1 := fun _ _ _ _ _ _ _ _ _ _ => ⟨_, rfl, rfl⟩, b5 := (fun z => Bool.noConfusion z), b2 := fun _ _ _ _ _ _ _ _ _ _ => ⟨_, rfl, rfl⟩, b4 := (fun z => Bool.noConfusion z), b3 := fun _ _ _ _ _ _ _ _ _ => ⟨_, rfl, rfl⟩ }
theorem in22 : InT 22 := by exact { bd := ⟨_, _, _, _, _, _, _, _, _, _, _, rfl, fun env => ⟨_, rfl⟩⟩, sc := ⟨rfl, rfl, rfl, by decide +kernel, rfl, by decide +kernel, by decide +kernel⟩, hs := rfl, hf := rfl, hg := rfl, hd := by decide +kernel, b1 := (fun z => Bool.noConfusion z), b5 := fun _ _ _ _ _ _ _ _ _ => rfl, b2 := (fun z => Bool.noConfusion z), b4 := fun _ _ _ _ _ _ _ _ _ => rfl, b3 := (fun z => Bool.noConfusion z) }
theorem in23 : InT 23 := by exact { bd := ⟨_, _, _, _, _, _, _, _, _, _, _, rfl, fun env => ⟨_, rfl⟩⟩, sc := ⟨rfl, rfl, rfl, by decide +kernel, rfl, by decide +kernel, by decide +kernel⟩, hs := rfl, hf := rfl, hg := rfl, hd := by decide +kernel, b1 := fun _ _ _ _ _ _ _ _ _ _ => ⟨_, rfl, rfl⟩, b5 := (fun z => Bool.noConfusion z), b2 := fun _ _ _ _ _ _ _ _ _ _ => ⟨_, rfl, rfl⟩, b4 := (fun z => Bool.noConfusion z), b3 := fun _ _ _ _ _ _ _ _ _ => ⟨_, rfl, rfl⟩ }
theorem inAll : ∀ i, i < 24 → InT i
  | 0, _ => in0
  | 1, _ => in1
  | 2, _ => in2
  | 3, _ => in3
  | 4, _ => in4
  | 5, _ => in5
  | 6, _ => in6
  | 7, _ => in7
  | 8, _ => in8
  | 9, _ => in9
  | 10, _ => in10
  | 11, _ => in11
  | 12, _ => in12
  | 13, _ => in13
  | 14, _ => in14
  | 15, _ => in15
  | 16, _ => in16
  | 17, _ => in17
  | 18, _ => in18
  | 19, _ => in19
  | 20, _ => in20
  | 21, _ => in21
  | 22, _ => in22
  | 23, _ => in23
  | n + 24, h => absurd h (by omega)
section
variable {P : Program} {w : World} {mg : Str → Option Value} {h : Heap} {K : PySem.W.Frag}
abbrev okB : PySem.W.Frag → Bool := hdB gt es
theorem fnIni : ∀ i, i < 24 → fn[8 + i]? = some (dAt i)
  | 0, _ => rfl
  | 1, _ => rfl
  | 2, _ => rfl
  | 3, _ => rfl
  | 4, _ => rfl
  | 5, _ => rfl
  | 6, _ => rfl
  | 7, _ => rfl
  | 8, _ => rfl
  | 9, _ => rfl
  | 10, _ => rfl
  | 11, _ => rfl
  | 12, _ => rfl
  | 13, _ => rfl
  | 14, _ => rfl
  | 15, _ => rfl
  | 16, _ => rfl
  | 17, _ => rfl
  | 18, _ => rfl
  | 19, _ => rfl
  | 20, _ => rfl
  | 21, _ => rfl
  | 22, _ => rfl
  | 23, _ => rfl
  | n + 24, h => absurd h (by omega)
theorem esAt : ∀ i, i < 24 → es[i]? = some (eAt i)
  | 0, _ => rfl
  | 1, _ => rfl
  | 2, _ => rfl
  | 3, _ => rfl
  | 4, _ => rfl
  | 5, _ => rfl
  | 6, _ => rfl
  | 7, _ => rfl
  | 8, _ => rfl
  | 9, _ => rfl
  | 10, _ => rfl
  | 11, _ => rfl
  | 12, _ => rfl
  | 13, _ => rfl
  | 14, _ => rfl
  | 15, _ => rfl
  | 16, _ => rfl
  | 17, _ => rfl
  | 18, _ => rfl
  | 19, _ => rfl
  | 20, _ => rfl
  | 21, _ => rfl
  | 22, _ => rfl
  | 23, _ => rfl
  | n + 24, h => absurd h (by omega)
theorem dfAt : ∀ i, i < 24 → (dAt i).dfl = (if (eAt i).dv = true then [He.Dv.non] else [])
  | 0, _ => rfl
  | 1, _ => rfl
  | 2, _ => rfl
  | 3, _ => rfl
  | 4, _ => rfl
  | 5, _ => rfl
  | 6, _ => rfl
  | 7, _ => rfl
  | 8, _ => rfl
  | 9, _ => rfl
  | 10, _ => rfl
  | 11, _ => rfl
  | 12, _ => rfl
  | 13, _ => rfl
  | 14, _ => rfl
  | 15, _ => rfl
  | 16, _ => rfl
  | 17, _ => rfl
  | 18, _ => rfl
  | 19, _ => rfl
  | 20, _ => rfl
  | 21, _ => rfl
  | 22, _ => rfl
  | 23, _ => rfl
  | n + 24, h => absurd h (by omega)
theorem esLen : es.length = 24 := rfl
theorem hcl (X : K.In h) (G : h.Ns mainGlobals mg) (c : SaysP okB fn K) (i : Nat) (e : ClE) (he : es[i]? = some e) (base : Heap) : ClM P w K mg base (He.ga K e.x) e.x e.f e.m e.dv := by
  have hi : i < 24 := by
    have := (List.getElem?_eq_some_iff.mp he).1
    rw [esLen] at this
    exact this
  have ee : e = eAt i := Option.some.inj (he.symm.trans (esAt i hi))
  subst ee
  have ok := c.ok
  simp only [okB, hdB, Bool.and_eq_true] at ok
  obtain ⟨⟨⟨h1, h2⟩, h3⟩, h4⟩ := ok
  have O := clB_ok (List.all_eq_true.mp h3 _ (List.mem_of_getElem? he))
  obtain ⟨fd, Fd⟩ := c.def_ (8 + i) (fnIni i hi)
  have e1 : (dAt i).dvs K = (if (eAt i).dv = true then [V.non] else []) := by
    unfold He.DefD.dvs
    rw [dfAt i hi]
    split <;> rfl
  rw [e1] at Fd
  exact clM_ok O X G Fd (inAll i hi) base
def psOf (i : Nat) : List Str := (tblL.getD i (0, [], [])).2.1
def nsOf (i : Nat) : List Str := (tblL.getD i (0, [], [])).2.2
def tpOf (i : Nat) : Nat := (tblL.getD i (0, [], [])).1
abbrev dD (i : Nat) : He.DefD := dDef (defsL.getD i ("", 0)) (tblL.getD i (0, [], []))
theorem hdefs (X : K.In h) (G : h.Ns mainGlobals mg) (c : SaysP okB fn K) : ∀ f x np, gt.defs[f]? = some (x, np) → ∃ ps N body scope fd, DefAt P K mg (He.ga K x) x ps body scope ∧ ps.length = np ∧ fs f = some fd ∧ chkD gt ps N body scope fd = true := by
  have ok := c.ok
  simp only [okB, hdB, Bool.and_eq_true] at ok
  obtain ⟨⟨⟨h1, h2⟩, h3⟩, h4⟩ := ok
  intro f x np e
  have gl := He.eqO_ok (List.all_eq_true.mp h1 _ (List.mem_of_getElem? e))
  match f, e with
  | 0, e =>
    cases e
    exact ⟨psOf 0, nsOf 0, (dD 0).body, (dD 0).scope, _, defAt_of (d := dD 0) X G (c.def_ 0 rfl) gl (fun _ _ _ _ _ _ us hl => match us, hl with | [_, _], _ => rfl), rfl, rfl, chk0⟩
  | 1, e =>
    cases e
    exact ⟨psOf 1, nsOf 1, (dD 1).body, (dD 1).scope, _, defAt_of (d := dD 1) X G (c.def_ 1 rfl) gl (fun _ _ _ _ _ _ us hl => match us, hl with | [_, _], _ => rfl), rfl, rfl, chk1⟩
  | 2, e =>
    cases e
    exact ⟨psOf 2, nsOf 2, (dD 2).body, (dD 2).scope, _, defAt_of (d := dD 2) X G (c.def_ 2 rfl) gl (fun _ _ _ _ _ _ us hl => match us, hl with | [_, _], _ => rfl), rfl, rfl, chk2⟩
  | 3, e =>
    cases e
    exact ⟨psOf 3, nsOf 3, (dD 3).body, (dD 3).scope, _, defAt_of (d := dD 3) X G (c.def_ 3 rfl) gl (fun _ _ _ _ _ _ us hl => match us, hl with | [_], _ => rfl), rfl, rfl, chk3⟩
  | 4, e =>
    cases e
    exact ⟨psOf 4, nsOf 4, (dD 4).body, (dD 4).scope, _, defAt_of (d := dD 4) X G (c.def_ 4 rfl) gl (fun _ _ _ _ _ _ us hl => match us, hl with | [_], _ => rfl), rfl, rfl, chk4⟩
  | 5, e =>
    cases e
    exact ⟨psOf 5, nsOf 5, (dD 5).body, (dD 5).scope, _, defAt_of (d := dD 5) X G (c.def_ 5 rfl) gl (fun _ _ _ _ _ _ us hl => match us, hl with | [_], _ => rfl), rfl, rfl, chk5⟩
  | 6, e =>
    cases e
    exact ⟨psOf 6, nsOf 6, (dD 6).body, (dD 6).scope, _, defAt_of (d := dD 6) X G (c.def_ 6 rfl) gl (fun _ _ _ _ _ _ us hl => match us, hl with | [_], _ => rfl), rfl, rfl, chk6⟩
  | 7, e =>
    cases e
    exact ⟨psOf 7, nsOf 7, (dD 7).body, (dD 7).scope, _, defAt_of (d := dD 7) X G (c.def_ 7 rfl) gl (fun _ _ _ _ _ _ us hl => match us, hl with | [_], _ => rfl), rfl, rfl, chk7⟩
  | n + 8, e => cases e
theorem facts (X : K.In h) (G : h.Ns mainGlobals mg) (c : SaysP okB fn K) : ModOk gt (nmOf gt K) K99.G fs P w K mg :=
  modOk_of X G (by rfl) rfl c.ok (hdefs X G c) (fun i e he base => hcl X G c i e he base)
theorem rps : ∀ (L : Addr → Prop) (H : Hp) (ns : List Int), RPs K L H (ns.map PyData.int) (ns.map V.int)
  | _, _, [] => by simp only [List.map_nil, RPs]
  | L, H, i :: r => by
    simp only [List.map_cons, RPs]
    exact ⟨_, _, rfl, by simp only [RP], rps L H r⟩
theorem spLaw {n : Nm} (H : Hp) (a : Addr) (ns : List Int) (hS : SqL K H a (ns.map V.int)) : spF { prog := P, w := w, K := K, fa := n.fa, ca := n.ca, fld := n.fld } (Fn K99.G fs 6) 7 1 [.ref a] H (fun v _ => v = .bl true) fun _ _ _ => False := by
  refine ⟨rfl, [], [], [.p (.list (ns.map PyData.int))], ⟨rfl, fun k o a e => by simp at e, fun j k a o u e => by simp at e⟩, ?_, ?_⟩
  · simp only [RDs]
    refine ⟨_, _, rfl, ?_, rfl⟩
    simp only [RD, RP]
    refine ⟨a, ns.map V.int, rfl, ?_, rps _ _ _⟩
    rcases hS with q | q
    · exact .inl ⟨q, fun ⟨k, o, e, _⟩ => by simp at e⟩
    · exact .inr q
  · obtain ⟨h', e⟩ := law_true 2 ns
    rw [e]
    intro b H' ρ' g R r
    simpa only [RD, RP] using r
end
end K99
end
open PySem PySem.W PySem.Calls PyProof.Rows
theorem PySem.Challenge.cw_everyreal_k99_errors_by_hand_holds : PySem.Challenge.rw_everyreal_k99_errors_by_hand.Holds := by
  w_on; o_law
  refine HandSHeadRun.head_any (r := OpenLaw.row PySem.Challenge.rw_everyreal_k99_errors_by_hand) (q := view (OpenLaw.row PySem.Challenge.rw_everyreal_k99_errors_by_hand).prog [34]) (H := K99.hk) (ob := K99.ob) (M := 30000) (loose := K99.names) (d := HandSHeadRun.topDef (OpenLaw.row PySem.Challenge.rw_everyreal_k99_errors_by_hand).prog 34) (kwd := []) (fun s => Pd.obsPG_eq (HandSHeadRun.getT_eq s))
    (by kernel_rfl) (fun s => by kernel_rfl) K99.run (by kernel_rfl) (by kernel_rfl) (by kernel_rfl) (by rfl) (by first | assumption | decide +kernel) (by decide +kernel) ⟨rfl, rfl, rfl, rfl, rfl, by decide +kernel⟩ ?hw ?hc
  case hw => w_witness2
  case hc =>
    refine LamX.walk_ofTsE (l := PySem.Challenge.rw_everyreal_k99_errors_by_hand) (n := 63) (k := 8) (x := "script") (CX := fun w => L2.CX (PySem.Challenge.rw_everyreal_k99_errors_by_hand).prog w) rfl (by decide) (by kernel_rfl) ⟨rfl, by decide, by decide⟩ ?F (fun w H s e s' z => by
      obtain ⟨_, _, _, _, _, _, _, _, _, _, _, _, z⟩ := z
      exact z)
    intro w mg fa h Y G hmg0
    obtain ⟨K, KX, c⟩ := Y
    have hmg : mg ("law" : PySem.Str) = some (.ref fa) := by
      have e : (HandSHeadRun.topDef (OpenLaw.row PySem.Challenge.rw_everyreal_k99_errors_by_hand).prog 34).name = ("law" : PySem.Str) := by kernel_rfl
      rw [← e]
      exact hmg0
    have M := K99.facts (P := (PySem.Challenge.rw_everyreal_k99_errors_by_hand).prog) (w := w) KX G c
    obtain ⟨fd0, F0⟩ := c.def_ 7 (d := K99.dD 7) rfl
    have ef : He.fAd K (K99.dD 7).at_ = fa := by
      have z := M.defs 7 "law" 1 rfl
      obtain ⟨_, _, _, _, _, A, _⟩ := z
      exact congrArg (fun v => match v with | some (Value.ref a) => a | _ => 0) (A.mg.symm.trans hmg)
    have b := F0.bindsA (ps := ["script"]) fun _ _ _ _ _ _ us hl => match us, hl with | [_], _ => rfl
    refine ⟨K, KX, fd0, [], _, fun p hp => absurd hp (by simp), fun p hp => absurd hp (by simp), fun p hp => absurd hp (by simp), fun s u => b s [u] rfl, fun H a ns hl _ _ hS => K99.spLaw (P := (PySem.Challenge.rw_everyreal_k99_errors_by_hand).prog) (n := Pd.nmOf K99.gt K) (w := w) H a ns hS, fun base _ _ _ => ?_⟩
    rw [← ef]
    exact Pd.def_okD (base := base) M 5 7 F0 rfl rfl K99.chk7
