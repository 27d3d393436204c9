import PyProof.Rows.All
import Wide.All
import OpenK.AllK
import Wide.FinOn
import HandS.ForMost
import HandS.Flow
import HandS.Deep
import HandS.TupAny
import HandS.TupMul
import KE.SortData
import KE.KDictKeyed
import KE.DataCmp
import HandS.TupLe
import HandS.SetKeys
import HandS.Steps
import HandS.Style
import HandS.IsInst
import HandS.TupLen
import HandS.Conv
import KE.KDictCopyH
import KE.KDictOf
import HandS.More
import HandS.TupSets
import HandS.SetFor
import KE.KeyNested
import HandS.Strs
import KE.KDictSum
import KE.DataMinMax
import HandS.Flt
import HandS.Codes
import PySem.Challenge.RW_grantwarrant_k37_hours_of_roles
set_option Elab.async false
set_option maxHeartbeats 0
/-! LP: a small language of values with ownership, its runs. No library here. -/
set_option autoImplicit false
namespace LP

/-- values; o: owned (mutable, held by one place alone) -/
inductive D where
  | non | bl (b : Bool) | int (i : Int) | str (s : List Nat)
  | tup (ds : List D) | lst (o : Bool) (ds : List D) | dct (o : Bool) (ks : List (D × D)) | ins (o : Bool) (c : Nat) (fs : List (Nat × D))
  /-- the script -/
  | scr (ns : List Int)
  deriving Inhabited, Repr

mutual
def pers : D → Bool
  | .non => true | .bl _ => true | .int _ => true | .str _ => true | .scr _ => true
  | .tup ds => persL ds
  | .lst o ds => !o && persL ds
  | .dct o ks => !o && persK ks
  | .ins o _ fs => !o && persF fs
def persL : List D → Bool
  | [] => true
  | d :: ds => pers d && persL ds
def persK : List (D × D) → Bool
  | [] => true
  | (k, d) :: ds => pers k && pers d && persK ds
def persF : List (Nat × D) → Bool
  | [] => true
  | (_, d) :: ds => pers d && persF ds
end
mutual
def frz : D → D
  | .tup ds => .tup (frzL ds)
  | .lst _ ds => .lst false (frzL ds)
  | .dct _ ks => .dct false (frzK ks)
  | .ins _ c fs => .ins false c (frzF fs)
  | .non => .non | .bl b => .bl b | .int i => .int i | .str s => .str s | .scr ns => .scr ns
def frzL : List D → List D
  | [] => []
  | d :: ds => frz d :: frzL ds
def frzK : List (D × D) → List (D × D)
  | [] => []
  | (k, d) :: ds => (k, frz d) :: frzK ds
def frzF : List (Nat × D) → List (Nat × D)
  | [] => []
  | (k, d) :: ds => (k, frz d) :: frzF ds
end

mutual
/-- no dict within that may be exchanged -/
def noD : D → Bool
  | .tup ds => noDL ds
  | .lst _ ds => noDL ds
  | .dct o ks => !o && noDK ks
  | .ins _ _ fs => noDF fs
  | .non => true | .bl _ => true | .int _ => true | .str _ => true | .scr _ => true
def noDL : List D → Bool
  | [] => true
  | d :: ds => noD d && noDL ds
def noDK : List (D × D) → Bool
  | [] => true
  | (_, d) :: ds => noD d && noDK ds
def noDF : List (Nat × D) → Bool
  | [] => true
  | (_, d) :: ds => noD d && noDF ds
end

/-! ### equality, order -/
def b2i (b : Bool) : Int := if b then 1 else 0
mutual
/-- == of data -/
def eqv : D → D → Bool
  | .non, .non => true
  | .bl a, .bl b => a == b
  | .bl a, .int j => b2i a == j
  | .int i, .bl b => i == b2i b
  | .int i, .int j => i == j
  | .str a, .str b => a == b
  | .tup a, .tup b => eqvL a b
  | .lst _ a, .lst _ b => eqvL a b
  | _, _ => false
def eqvL : List D → List D → Bool
  | [], [] => true
  | a :: x, b :: y => eqv a b && eqvL x y
  | _, _ => false
end
mutual
/-- no dict, no instance within, n levels deep at most -/
def flatN : D → Nat → Bool
  | .str x, _ => x.all fun c => decide (c < 1114112)
  | .tup ds, n => match n with
    | 0 => false
    | n + 1 => flatNL ds n
  | .lst _ ds, n => match n with
    | 0 => false
    | n + 1 => flatNL ds n
  | .dct _ _, _ => false
  | .ins _ _ _, _ => false
  | .scr _, _ => false
  | .non, _ => true
  | .bl _, _ => true
  | .int _, _ => true
def flatNL : List D → Nat → Bool
  | [], _ => true
  | d :: ds, n => flatN d n && flatNL ds n
end
def flat (d : D) : Bool := flatN d 64
def flatL (ds : List D) : Bool := flatNL ds 63
def ltN : List Nat → List Nat → Bool
  | _, [] => false
  | [], _ :: _ => true
  | a :: x, b :: y => if a = b then ltN x y else decide (a < b)
mutual
/-- the two can be compared, place by place -/
def alk : D → D → Bool
  | .non, .non => true
  | .bl _, .bl _ => true
  | .int _, .int _ => true
  | .str _, .str _ => true
  | .tup a, .tup b => alkL a b
  | .lst _ a, .lst _ b => alkL a b
  | _, _ => false
def alkL : List D → List D → Bool
  | a :: x, b :: y => alk a b && alkL x y
  | [], _ => true
  | _ :: _, [] => true
end
mutual
/-- < of data that compare -/
def ltB : D → D → Bool
  | .bl a, .bl b => decide (b2i a < b2i b)
  | .int i, .int j => decide (i < j)
  | .str a, .str b => ltN a b
  | .tup a, .tup b => ltBL a b
  | .lst _ a, .lst _ b => ltBL a b
  | _, _ => false
def ltBL : List D → List D → Bool
  | _, [] => false
  | [], _ :: _ => true
  | a :: x, b :: y => if eqv a b then ltBL x y else ltB a b
end
def isNon : D → Bool
  | .non => true
  | _ => false
def cmpOk (a b : D) : Bool := flat a && flat b && alk a b && !isNon a
def isTupC : D → Bool
  | .tup (_ :: _) => true
  | _ => false
def isTupN : D → Bool
  | .tup _ => true
  | .non => true
  | _ => false
def allAlk (ds : List D) : Bool := ds.all fun a => ds.all fun b => alk a b
/-- what can be sorted -/
def sortOk (ds : List D) : Bool := flatL ds && allAlk ds && (ds.all isTupC || ds.all fun d => !isTupN d)
mutual
/-- what may be a key: ints, texts, None, tuples of such -/
def keyOk : D → Bool
  | .non => true | .int _ => true | .str _ => true
  | .tup ds => keyOkL ds
  | _ => false
def keyOkL : List D → Bool
  | [] => true
  | d :: ds => keyOk d && keyOkL ds
end
def isK : D → Bool
  | .int _ => true
  | .str _ => true
  | _ => false
def isTK : D → Bool
  | .tup ds => ds.all isK
  | _ => false
/-- the key is of the kind of the dict's keys -/
def kFit (ks : List (D × D)) (k : D) : Bool := (isK k && ks.all fun p => isK p.1) || (isTK k && ks.all fun p => isTK p.1)
def look : List (D × D) → D → Option D
  | [], _ => none
  | (k, v) :: r, x => if eqv k x then some v else look r x
def put : List (D × D) → D → D → List (D × D)
  | [], x, d => [(x, d)]
  | (k, v) :: r, x, d => if eqv k x then (k, d) :: r else (k, v) :: put r x d
def delK : List (D × D) → D → List (D × D)
  | [], _ => []
  | (k, v) :: r, x => if eqv k x then r else (k, v) :: delK r x
def lookF : List (Nat × D) → Nat → Option D
  | [], _ => none
  | (k, v) :: r, x => if k = x then some v else lookF r x
def setF : List (Nat × D) → Nat → D → List (Nat × D)
  | [], x, d => [(x, d)]
  | (k, v) :: r, x, d => if k = x then (k, d) :: r else (k, v) :: setF r x d

/-- the longest list, text -/
def lim : Nat := 16777216
/-! ### places -/
inductive Stp where
  | ix (n : Nat) | at (f : Nat) | ky (k : D)
  deriving Inhabited, Repr
def getS : D → Stp → Option D
  | .lst _ ds, .ix n => ds[n]?
  | .tup ds, .ix n => ds[n]?
  | .dct _ ks, .ky k => if kFit ks k then look ks k else none
  | .ins _ _ fs, .at f => lookF fs f
  | _, _ => none
def setS : D → Stp → D → Option D
  | .lst true ds, .ix n, d => if n < ds.length then some (.lst true (ds.set n d)) else none
  | .dct true ks, .ky k, d => if kFit ks k && decide (ks.length < lim) then some (.dct true (put ks k d)) else none
  | .ins true c fs, .at f, d => some (.ins true c (setF fs f d))
  | _, _, _ => none
def getP : D → List Stp → Option D
  | d, [] => some d
  | d, s :: p => match getS d s with
    | some e => getP e p
    | none => none
/-- what stands at a place is exchanged -/
def modP : D → List Stp → (D → Option D) → Option D
  | d, [], f => f d
  | d, s :: p, f => match getS d s with
    | some e => match modP e p f with
      | some e' => setS d s e'
      | none => none
    | none => none

/-- a slot: nothing (or moved away), a value, a value that may only be read now -/
inductive Sl where
  | no | ow (d : D) | ro (d : D)
  deriving Inhabited, Repr
abbrev Env := List Sl
/-- what an expression gives: a value of its own, or what stands at a place and stays there -/
inductive Kd where
  | val | vw (i : Nat) (p : List Stp)
  deriving Inhabited, Repr
structure Out where
  d : D
  k : Kd
  ρ : Env
  deriving Inhabited, Repr

def slotD (ρ : Env) (i : Nat) : Option D := match ρ[i]? with
  | some (.ow d) => some d
  | some (.ro d) => some d
  | _ => none
/-- read a slot -/
def rd (ρ : Env) (i : Nat) : Option Out := match slotD ρ i with
  | some d => some ⟨d, if pers d then .val else .vw i [], ρ⟩
  | none => none
/-- take what was read as a value of its own: what stands at a place is frozen there -/
def own (o : Out) : Option (D × Env) := match o.k with
  | .val => some (o.d, o.ρ)
  | .vw i p => match o.ρ[i]? with
    | some (.ow d) => if noD o.d then match modP d p (fun e => some (frz e)) with
        | some d' => some (frz o.d, o.ρ.set i (.ow d'))
        | none => none
      else none
    | _ => none
/-- a dict that is walked is frozen, its values being so -/
def ownD (k : Kd) (ks : List (D × D)) (ρ : Env) : Option Env := match k with
  | .val => some ρ
  | .vw i p => match ρ[i]? with
    | some (.ow d) => match modP d p (fun _ => some (.dct false ks)) with
      | some d' => some (ρ.set i (.ow d'))
      | none => none
    | _ => none
/-- the slot behind a view is read-only -/
def lock (k : Kd) (ρ : Env) : Env := match k with
  | .val => ρ
  | .vw i _ => match ρ[i]? with
    | some (.ow d) => ρ.set i (.ro d)
    | _ => ρ
/-- .. and as it was -/
def unlock (k : Kd) (ρ0 ρ : Env) : Env := match k with
  | .val => ρ
  | .vw i _ => match ρ0[i]? with
    | some (.ow d) => ρ.set i (.ow d)
    | _ => ρ

/-! ### operations -/
inductive Bop where
  | add | sub | mul | mod | div | pow | shl | shr
  deriving DecidableEq, Repr, Inhabited
inductive Cop where
  | eq | ne | lt | le | gt | ge | is | isn | in_ | nin
  deriving DecidableEq, Repr, Inhabited
def mkL (ds : List D) : Option D := if ds.length < lim then some (.lst true ds) else none
def mkT (ds : List D) : Option D := if ds.length < lim then some (.tup ds) else none
def mkS (s : List Nat) : Option D := if s.length < lim then some (.str s) else none
def asI : D → Option Int
  | .int i => some i
  | .bl b => some (b2i b)
  | _ => none
def repD (ds : List D) (n : Nat) : List D := (List.replicate n ds).flatten
def w64 : Int := 18446744073709551616
def bop : Bop → D → D → Option D
  | .add, .int i, .int j => some (.int (i + j))
  | .add, .str a, .str b => mkS (a ++ b)
  | .add, .tup a, .tup b => mkT (a ++ b)
  | .add, .lst _ a, .lst _ b => if persL a && persL b then mkL (a ++ b) else none
  | .sub, .int i, .int j => some (.int (i - j))
  | .mul, .int i, .int j => if (-w64 < i ∧ i < w64) ∨ (-w64 < j ∧ j < w64) then some (.int (i * j)) else none
  | .mul, .lst _ a, .int j => if persL a ∧ j < 9223372036854775808 ∧ -9223372036854775808 ≤ j then mkL (repD a j.toNat) else none
  | .mul, .tup a, .int j => if 2 ≤ j ∧ j ≤ 1000 ∧ a.length ≤ 1000 ∧ !a.isEmpty then mkT (repD a j.toNat) else none
  | .mod, .int i, .int j => if 0 < j then some (.int (i % j)) else none
  | .div, .int i, .int j => if 0 < j ∧ j < 1073741824 then some (.int (i / j)) else none
  | .pow, .int i, .int j => if 0 ≤ j ∧ j ≤ 1000 ∧ (-w64 < i ∧ i < w64) then some (.int (i ^ j.toNat)) else none
  | .shl, .int i, .int j => if 0 ≤ j ∧ j ≤ 1000 ∧ (-w64 < i ∧ i < w64) then some (.int (i * 2 ^ j.toNat)) else none
  | .shr, .int i, .int j => if 0 ≤ j then some (.int (i / 2 ^ j.toNat)) else none
  | _, _, _ => none
def truth : D → Option Bool
  | .non => some false
  | .bl b => some b
  | .int i => some (!(i == 0))
  | .str s => if s.length < lim then some (!s.isEmpty) else none
  | .tup ds => some (!ds.isEmpty)
  | .lst _ ds => some (!ds.isEmpty)
  | .dct _ _ => none
  | .ins _ _ _ => none
  | .scr _ => none
def memV (x : D) : List D → Bool
  | [] => false
  | d :: ds => eqv d x || memV x ds
def isPre : List Nat → List Nat → Bool
  | [], _ => true
  | _ :: _, [] => false
  | a :: x, b :: y => a == b && isPre x y
def isSub (x : List Nat) : List Nat → Bool
  | [] => x.isEmpty
  | b :: y => isPre x (b :: y) || isSub x y
def isD : D → D → Option Bool
  | a, .non => some (isNon a)
  | .bl a, .bl b => some (a == b)
  | _, _ => none
def cop : Cop → D → D → Option Bool
  | .eq, a, b => if flat a && flat b then some (eqv a b) else none
  | .ne, a, b => if flat a && flat b then some (!eqv a b) else none
  | .lt, a, b => if cmpOk a b then some (ltB a b) else none
  | .gt, a, b => if cmpOk a b then some (ltB b a) else none
  | .le, a, b => if cmpOk a b then some (!ltB b a) else none
  | .ge, a, b => if cmpOk a b then some (!ltB a b) else none
  | .is, a, b => isD a b
  | .isn, a, b => match isD a b with
    | some r => some (!r)
    | none => none
  | .in_, a, .tup ds => if flat a && flatL ds then some (memV a ds) else none
  | .in_, a, .lst _ ds => if flat a && flatL ds then some (memV a ds) else none
  | .in_, a, .dct _ ks => if kFit ks a then some (look ks a).isSome else none
  | .nin, a, .tup ds => if flat a && flatL ds then some (!memV a ds) else none
  | .nin, a, .lst _ ds => if flat a && flatL ds then some (!memV a ds) else none
  | .nin, a, .dct _ ks => if kFit ks a then some (!(look ks a).isSome) else none
  | _, _, _ => none
/-- an index -/
def ixOf (n : Nat) (i : Int) : Option Nat :=
  if 0 ≤ i then (if i < n then some i.toNat else none) else if -(n : Int) ≤ i then some (i + n).toNat else none
def stepOf (d k : D) : Option Stp := match d, k with
  | .lst _ ds, .int i => (ixOf ds.length i).map .ix
  | .tup ds, .int i => (ixOf ds.length i).map .ix
  | .dct _ ks, k => if kFit ks k then some (.ky k) else none
  | _, _ => none
/-- a slice's bounds -/
def cutLo (n : Nat) : Option Int → Nat
  | none => 0
  | some i => if i < 0 then (i + n).toNat else min i.toNat n
def cutHi (n : Nat) : Option Int → Nat
  | none => n
  | some i => if i < 0 then (i + n).toNat else min i.toNat n
def cut {α : Type} (xs : List α) (lo hi : Option Int) : List α := (xs.drop (cutLo xs.length lo)).take (cutHi xs.length hi - cutLo xs.length lo)
def slc (d : D) (lo hi : Option Int) : Option D := match d with
  | .str s => if s.length < lim then some (.str (cut s lo hi)) else none
  | .tup ds => some (.tup (cut ds lo hi))
  | .lst _ ds => if persL ds then some (.lst true (cut ds lo hi)) else none
  | _ => none
def insSet (x : D) : List D → List D
  | [] => [x]
  | d :: ds => if eqv x d then d :: ds else if ltB x d then x :: d :: ds else d :: insSet x ds
/-- sorted, each once -/
def setD : List D → List D
  | [] => []
  | d :: ds => insSet d (setD ds)
def insSort (x : D) : List D → List D
  | [] => [x]
  | d :: ds => if ltB d x then d :: insSort x ds else x :: d :: ds
def sortD : List D → List D
  | [] => []
  | d :: ds => insSort d (sortD ds)
def dedup : List D → List D
  | [] => []
  | d :: ds => if memV d ds then dedup ds else d :: dedup ds
def maxD (d : D) : List D → D
  | [] => d
  | e :: es => if ltB d e then maxD e es else maxD d es
def minD (d : D) : List D → D
  | [] => d
  | e :: es => if ltB e d then minD e es else minD d es
def sumD (a : Int) : List D → Option D
  | [] => some (.int a)
  | .int i :: r => sumD (a + i) r
  | .bl b :: r => sumD (a + b2i b) r
  | _ => none
/-- the items that are walked -/
def itemsOf : D → Option (List D)
  | .tup ds => some ds
  | .lst _ ds => some ds
  | .dct _ ks => some (ks.map (·.1))
  | .str s => some (s.map fun c => .str [c])
  | _ => none
/-- a list's, a tuple's items, if nothing in them can be exchanged -/
def seqOf : D → Option (List D)
  | .tup ds => if persL ds then some ds else none
  | .lst _ ds => if persL ds then some ds else none
  | _ => none
def allT : List D → Option Bool
  | [] => some true
  | d :: ds => match truth d with
    | some true => allT ds
    | some false => some false
    | none => none
def anyT : List D → Option Bool
  | [] => some false
  | d :: ds => match truth d with
    | some true => some true
    | some false => anyT ds
    | none => none
inductive Ty where
  | int | bool | str | tuple | list | dict
  deriving DecidableEq, Repr, Inhabited
def isa : D → Ty → Bool
  | .int _, .int => true
  | .bl _, .int => true
  | .bl _, .bool => true
  | .str _, .str => true
  | .tup _, .tuple => true
  | .lst _ _, .list => true
  | .dct _ _, .dict => true
  | _, _ => false
def okIsa : D → Bool
  | .scr _ => false
  | .ins _ _ _ => false
  | .dct o _ => o
  | _ => true
inductive Blt where
  | len | abs | int | tuple | list | sorted | sortedSet | lenSet | all | any | sum | max | min | dict | range | zip | enumerate | reversed | isa (t : Ty) | bool | listRg | tupRg
  deriving DecidableEq, Repr, Inhabited
def blsOf : List D → Option (List Bool)
  | [] => some []
  | .bl b :: ds => match blsOf ds with
    | some bs => some (b :: bs)
    | none => none
  | _ => none
def intsOf : List D → Option (List Int)
  | [] => some []
  | .int b :: ds => match intsOf ds with
    | some bs => some (b :: bs)
    | none => none
  | _ => none
def rangeD (a b : Int) : List D := (List.range (b - a).toNat).map fun k => .int (a + (k : Nat))
def rangeS (a b c : Int) : List D :=
  if 0 < c then (List.range ((b - a + c - 1) / c).toNat).map fun k => .int (a + (k : Nat) * c)
  else (List.range ((a - b + (-c) - 1) / (-c)).toNat).map fun k => .int (a + (k : Nat) * c)
def zipD : List D → List D → List D
  | a :: x, b :: y => .tup [a, b] :: zipD x y
  | _, _ => []
def enumD (n : Nat) : List D → List D
  | [] => []
  | a :: x => .tup [.int n, a] :: enumD (n + 1) x
def pairsD : List D → List (D × D) → Option (List (D × D))
  | [], acc => some acc
  | .tup [k, v] :: r, acc => if kFit acc k then pairsD r (put acc k v) else none
  | _, _ => none
/-- the hash of a number -/
def hI (i : Int) : Int := if i.sign * ((i.natAbs % 2305843009213693951 : Nat) : Int) = -1 then -2 else i.sign * ((i.natAbs % 2305843009213693951 : Nat) : Int)
def hashI (is : List Int) : Int := PySem.reduceHash (PySem.Builtin.Tuple.tupleHashOf (is.map hI))
def keyHs : List (D × D) → Option (List (List Int))
  | [] => some []
  | (.tup ds, _) :: r => match intsOf ds, keyHs r with
    | some is, some rs => some (is :: rs)
    | _, _ => none
  | _ => none
/-- a dict that can be copied: no two keys that are tuples hash alike -/
def dkOk (ks : List (D × D)) : Bool := ks.all (fun p => isK p.1) || (match keyHs ks with
  | some hs => decide (hs.map hashI).Nodup
  | none => false)
def rOk (i : Int) : Bool := decide (-4611686018427387904 ≤ i ∧ i < 4611686018427387904)
/-- what may be members of a set: tuples -/
def setOk (ds : List D) : Bool := keyOkL ds && flatNL ds 8 && sortOk ds && ds.all isTupN && (ds.all fun d => !isNon d) && decide ((dedup ds).length < 64)
def isI : D → Bool
  | .int _ => true
  | _ => false
/-- .. or numbers -/
def setOkI (ds : List D) : Bool := ds.all isI && decide (ds.length < 4000) && decide ((dedup ds).length < 64)
def blt : Blt → List D → Option D
  | .len, [.str s] => if s.length < lim then some (.int s.length) else none
  | .len, [.tup ds] => some (.int ds.length)
  | .len, [.lst _ ds] => some (.int ds.length)
  | .len, [.dct _ ks] => some (.int ks.length)
  | .len, [.scr ns] => some (.int ns.length)
  | .abs, [.int i] => some (.int i.natAbs)
  | .int, [.int i] => some (.int i)
  | .int, [.bl b] => some (.int (b2i b))
  | .tuple, [.tup ds] => some (.tup ds)
  | .tuple, [.lst _ ds] => if persL ds then some (.tup ds) else none
  | .list, [.tup ds] => some (.lst true ds)
  | .list, [.lst _ ds] => if persL ds then some (.lst true ds) else none
  | .list, [.dct _ ks] => some (.lst true (ks.map (·.1)))
  | .sorted, [.dct _ ks] => if sortOk (ks.map (·.1)) then some (.lst true (sortD (ks.map (·.1)))) else none
  | .sorted, [d] => match seqOf d with
    | some ds => if sortOk ds then some (.lst true (sortD ds)) else none
    | none => none
  | .sortedSet, [d] => match seqOf d with
    | some ds => if setOk ds || setOkI ds then some (.lst true (setD ds)) else none
    | none => none
  | .lenSet, [d] => match seqOf d with
    | some ds => if setOk ds || setOkI ds then some (.int (dedup ds).length) else none
    | none => none
  | .all, [.lst _ ds] => (blsOf ds).map fun bs => .bl (bs.all id)
  | .any, [.lst _ ds] => (blsOf ds).map fun bs => .bl (bs.any id)
  | .sum, [.lst _ ds] => (intsOf ds).map fun ns => .int ns.sum
  | .max, [d] => match seqOf d with
    | some (x :: ds) => if sortOk (x :: ds) then some (maxD x ds) else none
    | _ => none
  | .min, [d] => match seqOf d with
    | some (x :: ds) => if sortOk (x :: ds) then some (minD x ds) else none
    | _ => none
  | .max, [.int a, .int b] => some (.int (if b > a then b else a))
  | .min, [.int a, .int b] => some (.int (if b < a then b else a))
  | .dict, [.dct _ ks] => if persK ks && dkOk ks then some (.dct true ks) else none
  | .dict, [.lst _ ds] => if persL ds then (pairsD ds []).map (.dct true) else none
  | .range, [.int n] => if rOk n then some (.lst true (rangeD 0 n)) else none
  | .range, [.int a, .int b] => if rOk a && rOk b then some (.lst true (rangeD a b)) else none
  | .range, [.int a, .int b, .int c] => if rOk a && rOk b && (c != 0) && decide (-1073741824 < c ∧ c < 1073741824) then some (.lst true (rangeS a b c)) else none
  | .zip, [a, b] => match itemsOf a, itemsOf b with
    | some x, some y => if persL x && persL y then some (.lst true (zipD x y)) else none
    | _, _ => none
  | .enumerate, [a] => match itemsOf a with
    | some x => if persL x then some (.lst true (enumD 0 x)) else none
    | none => none
  | .reversed, [a] => match itemsOf a with
    | some x => if persL x then some (.lst true x.reverse) else none
    | none => none
  | .isa t, [d] => if okIsa d then some (.bl (isa d t)) else none
  | .bool, [d] => (truth d).map .bl
  | .listRg, [.int n] => if rOk n && decide (n < 65536) then some (.lst true (rangeD 0 n)) else none
  | .listRg, [.int a, .int b] => if rOk a && rOk b && decide (b - a < 65536) then some (.lst true (rangeD a b)) else none
  | .tupRg, [.int n] => if rOk n && decide (n < 65536) then some (.tup (rangeD 0 n)) else none
  | .tupRg, [.int a, .int b] => if rOk a && rOk b && decide (b - a < 65536) then some (.tup (rangeD a b)) else none
  | _, _ => none
/-- methods of built-in types that change nothing -/
inductive Bm where
  | get | index | count | join | split | startswith | find | items | rev
  deriving DecidableEq, Repr, Inhabited
def idxOf (x : D) : List D → Nat → Option Nat
  | [], _ => none
  | d :: ds, n => if eqv d x then some n else idxOf x ds (n + 1)
def cntOf (x : D) : List D → Nat
  | [] => 0
  | d :: ds => (if eqv d x then 1 else 0) + cntOf x ds
def bmo : Bm → D → List D → Option D
  | .index, .tup ds, [x] => if flatL ds && flat x then (idxOf x ds 0).map fun n => .int n else none
  | .index, .lst _ ds, [x] => if flatL ds && flat x then (idxOf x ds 0).map fun n => .int n else none
  | .count, .tup ds, [x] => if flatL ds && flat x then some (.int (cntOf x ds)) else none
  | .count, .lst _ ds, [x] => if flatL ds && flat x then some (.int (cntOf x ds)) else none
  | .items, .dct _ ks, [] => if persK ks then some (.lst true (ks.map fun p => .tup [p.1, p.2])) else none
  | .rev, .tup ds, [] => some (.tup ds.reverse)
  | .rev, .lst _ ds, [] => if persL ds then some (.lst true ds.reverse) else none
  | .rev, .str s, [] => some (.str s.reverse)
  | _, _, _ => none
/-- methods that change what stands at a place: the answer and what stands there then -/
inductive Mm where
  | append | extend | pop | popAt | remove | update
  deriving DecidableEq, Repr, Inhabited
def remV (x : D) : List D → Option (List D)
  | [] => none
  | d :: ds => if eqv d x then some ds else match remV x ds with
    | some r => some (d :: r)
    | none => none
def mmo : Mm → D → List D → Option (D × D)
  | .append, .lst true ds, [x] => if ds.length + 1 < lim then some (.non, .lst true (ds ++ [x])) else none
  | .extend, .lst true ds, [y] => match seqOf y with
    | some es => if ds.length + es.length < lim then some (.non, .lst true (ds ++ es)) else none
    | none => none
  | .pop, .lst true ds, [] => match ds.getLast? with
    | some x => some (x, .lst true ds.dropLast)
    | none => none
  | .popAt, .lst true ds, [.int i] => if rOk i then match ixOf ds.length i with
    | some n => match ds[n]? with
      | some x => some (x, .lst true (ds.eraseIdx n))
      | none => none
    | none => none else none
  | .popAt, .dct true ks, [k] => if kFit ks k then match look ks k with
      | some x => some (x, .dct true (delK ks k))
      | none => none else none
  | .remove, .lst true ds, [x] => if flatL ds && flat x then match remV x ds with
      | some r => some (.non, .lst true r)
      | none => none else none
  | .update, .dct true ks, [.dct _ js] => if persK js then some (.non, .dct true (js.foldl (fun a p => put a p.1 p.2) ks)) else none
  | _, _, _ => none

/-! ### terms -/
inductive Tg where
  | nm (i : Nat) | tp (ts : List Tg)
  deriving Inhabited, Repr
mutual
inductive E where
  | cst (d : D)
  | var (i : Nat)
  | mv (i : Nat)
  | bin (op : Bop) (a b : E)
  | neg (a : E)
  | and_ (a b : E)
  | or_ (a b : E)
  | not_ (a : E)
  | cmp (op : Cop) (a b : E)
  | cmp2 (op1 op2 : Cop) (a b c : E)
  | ite (c a b : E)
  | tup (es : Es)
  | lst (es : Es)
  | dct (ks : Ks)
  | idx (a k : E)
  | slc (a : E) (lo hi : Oe)
  | attr (a : E) (f : Nat)
  | call (f : Nat) (as : As)
  | make (c f : Nat) (as : As)
  | meth (c m f i : Nat) (as : As)
  | blt (b : Blt) (as : Es)
  | bm (m : Bm) (r : E) (as : Es)
  | mm (m : Mm) (r : E) (as : Es)
  | get (r : E) (as : Es)
  | sdef (r : E) (as : Es)
  | lc (e : E) (own : List Nat) (gs : Gs)
  | lc1 (e : E) (own : List Nat) (t : Tg) (it : E) (c : Oe)
inductive Es where
  | nil
  | cons (e : E) (es : Es)
inductive Gs where
  | nil
  | cons (t : Tg) (it : E) (ifs : Es) (gs : Gs)
inductive Ks where
  | nil
  | cons (k v : E) (ks : Ks)
inductive Oe where
  | no
  | so (e : E)
inductive As where
  | nil
  | ref (i : Nat) (as : As)
  | cons (e : E) (as : As)
end
mutual
inductive S where
  | expr (e : E)
  | asg (t : Tg) (e : E)
  | par (ts : List Tg) (es : Es)
  | sto (r k : E) (e : E)
  | sta (r : E) (f : Nat) (e : E)
  | aug (i : Nat) (op : Bop) (e : E)
  | augS (r k : E) (op : Bop) (e : E)
  | augA (r : E) (f : Nat) (op : Bop) (e : E)
  | ifs (c : E) (a b : Ss)
  | for_ (t : Tg) (it : E) (b : Ss)
  | while_ (c : E) (b : Ss)
  | ret (e : E)
  | retN
  | brk | cont | pass
inductive Ss where
  | nil
  | cons (s : S) (ss : Ss)
end
instance : Inhabited E := ⟨.var 0⟩

/-! ### runs -/
/-- .. if nothing in it can be exchanged -/
def perO : Option D → Option D
  | some d => if pers d then some d else none
  | none => none
/-- a call: the function's number, its arguments, whether each may be exchanged; the answer and the parameters' slots behind it -/
abbrev Cll := Nat → List D → Option (D × List Sl)

mutual
def asgT : Tg → D → Env → Option Env
  | .nm i, d, ρ => match ρ[i]? with
    | some (.ro _) => none
    | some _ => some (ρ.set i (.ow d))
    | none => none
  | .tp ts, .tup ds, ρ => asgTs ts ds ρ
  | _, _, _ => none
def asgTs : List Tg → List D → Env → Option Env
  | [], [], ρ => some ρ
  | t :: ts, d :: ds, ρ => match asgT t d ρ with
    | some ρ' => asgTs ts ds ρ'
    | none => none
  | _, _, _ => none
end
/-- an argument: a value, or what stands at a place at the call -/
inductive Ar where
  | val (d : D) | pl (i : Nat) (p : List Stp)
  deriving Inhabited, Repr
/-- the arguments' values -/
def arD (ρ : Env) : Ar → Option D
  | .val d => some d
  | .pl i p => match slotD ρ i with
    | some d => getP d p
    | none => none
def arsD (ρ : Env) : List Ar → Option (List D)
  | [] => some []
  | a :: as => match arD ρ a, arsD ρ as with
    | some d, some ds => some (d :: ds)
    | _, _ => none
/-- the slots whose value (not persistent) is handed over must be different, and not read-only -/
def arOk (ρ : Env) : List Ar → List D → List Nat → Bool
  | [], [], _ => true
  | .val _ :: as, _ :: ds, is => arOk ρ as ds is
  | .pl i _ :: as, d :: ds, is => (pers d || (!is.contains i && (match ρ[i]? with | some (.ow _) => true | _ => false))) && arOk ρ as ds (if pers d then is else i :: is)
  | _, _, _ => false
/-- behind the call -/
def arBack (ρ : Env) : List Ar → List D → List Sl → Option Env
  | [], [], _ => some ρ
  | .val _ :: as, _ :: ds, _ :: ss => arBack ρ as ds ss
  | .pl i p :: as, d :: ds, s :: ss => if pers d then arBack ρ as ds ss else
      match s, ρ[i]? with
      | .ow e, some (.ow r) => match modP r p (fun _ => some e) with
        | some r' => arBack (ρ.set i (.ow r')) as ds ss
        | none => none
      | .no, some (.ow _) => match p with
        | [] => arBack (ρ.set i .no) as ds ss
        | _ => none
      | _, _ => none
  | _, _, _ => none
def runCall (call : Cll) (f : Nat) (ars : List Ar) (ρ : Env) : Option Out :=
  match arsD ρ ars with
  | none => none
  | some ds => if arOk ρ ars ds [] then
      match call f ds with
      | some (d, ss) => match arBack ρ ars ds ss with
        | some ρ' => some ⟨d, .val, ρ'⟩
        | none => none
      | none => none
    else none
def viewAt (i : Nat) (p : List Stp) (d : D) (ρ : Env) : Out := ⟨d, if pers d then .val else .vw i p, ρ⟩
def subOut (o : Out) (s : Stp) : Option Out := match getS o.d s with
  | none => none
  | some e => match o.k with
    | .val => some ⟨e, .val, o.ρ⟩
    | .vw i p => some (viewAt i (p ++ [s]) e o.ρ)
def optI : Option D → Option (Option Int)
  | none => some none
  | some (.int i) => some (some i)
  | _ => none
/-- exchange what stands at a view -/
def atView (o : Out) (f : D → Option (D × D)) : Option Out := match o.k with
  | .val => none
  | .vw i p => match o.ρ[i]? with
    | some (.ow r) => match getP r p with
      | some e => match f e with
        | some (x, e') => match modP r p (fun _ => some e') with
          | some r' => some ⟨x, .val, o.ρ.set i (.ow r')⟩
          | none => none
        | none => none
      | none => none
    | _ => none
/-- d.get(k), d.get(k, x): the key that is there, or the answer -/
def getD : D → List D → Option (D ⊕ D)
  | .dct _ ks, [k] => if kFit ks k then some (if (look ks k).isSome then .inl k else .inr .non) else none
  | .dct _ ks, [k, d] => if kFit ks k && pers d then some (if (look ks k).isSome then .inl k else .inr d) else none
  | _, _ => none
/-- d.setdefault(k, x) -/
def setdef (o : Out) (k d : D) : Option Out := match o.k with
  | .val => none
  | .vw i p => match o.ρ[i]? with
    | some (.ow r) => match getP r p with
      | some (.dct true ks) => if kFit ks k && decide (ks.length < lim) then match look ks k with
          | some e => some (viewAt i (p ++ [.ky k]) e o.ρ)
          | none => match modP r p (fun _ => some (.dct true (put ks k d))) with
            | some r' => some (viewAt i (p ++ [.ky k]) d (o.ρ.set i (.ow r')))
            | none => none
        else none
      | _ => none
    | _ => none
def samK : D → D → Bool
  | .lst _ _, .lst _ _ => true
  | .dct _ _, .dct _ _ => true
  | _, _ => false
def isDct : D → Bool
  | .dct _ _ => true
  | _ => false
/-- of one class, with few attributes -/
def samC : D → D → Bool
  | .ins _ c _, .ins _ c' fs => c == c' && decide (fs.length < 1000)
  | _, _ => false
/-- x op= y -/
def augOp : Bop → D → D → Option D
  | .add, .int i, .int j => some (.int (i + j))
  | .sub, .int i, .int j => some (.int (i - j))
  | .add, .str a, .str b => if a.length + b.length < lim then some (.str (a ++ b)) else none
  | _, _, _ => none
def Kd.deep : Kd → Bool
  | .val => false
  | .vw _ [] => false
  | .vw _ (_ :: _) => true
def lockD (k : Kd) (ρ : Env) : Env := if k.deep then lock k ρ else ρ
def unlockD (k : Kd) (ρ0 ρ : Env) : Env := if k.deep then unlock k ρ0 ρ else ρ

def unsetAll : List Nat → Env → Env
  | [], ρ => ρ
  | i :: is, ρ => (unsetAll is ρ).set i .no
def resetAll : List Nat → Env → Env → Env
  | [], _, ρ => ρ
  | i :: is, ρ0, ρ => match ρ0[i]? with
    | some s => (resetAll is ρ0 ρ).set i s
    | none => resetAll is ρ0 ρ

/-- what is walked: its items; the slot behind it is read-only for the walk -/
def walk : Option Out → Option (List D × Kd × Env)
  | none => none
  | some o => match o.d with
    | .tup ds => some (ds, .val, o.ρ)
    | .lst _ ds => if persL ds then (match o.k with
        | .val => some (ds, .val, o.ρ)
        | .vw i [] => some (ds, .vw i [], o.ρ)
        | .vw _ _ => match own o with
          | some (_, ρ') => some (frzL ds, .val, ρ')
          | none => none)
        else match o.k with
          | .val => if noDL ds then some (frzL ds, .val, o.ρ) else none
          | .vw _ _ => match own o with
            | some (_, ρ') => some (frzL ds, .val, ρ')
            | none => none
    | .dct _ ks => if persK ks then match ownD o.k ks o.ρ with
        | some ρ' => some (ks.map (·.1), .val, ρ')
        | none => none
      else none
    | _ => none
/-- a fold that may stop -/
def foldO {α β : Type} (f : α → β → Option β) : List α → β → Option β
  | [], b => some b
  | a :: as, b => match f a b with
    | some b' => foldO f as b'
    | none => none

variable (call : Cll)
mutual
def ev : E → Env → Option Out
  | .cst d, ρ => some ⟨d, .val, ρ⟩
  | .var i, ρ => rd ρ i
  | .mv i, ρ => match ρ[i]? with
    | some (.ow d) => some ⟨d, .val, ρ.set i .no⟩
    | some (.ro d) => if pers d then some ⟨d, .val, ρ⟩ else none
    | _ => none
  | .bin op a b, ρ => match ev a ρ with
    | some o => match ev b (lock o.k o.ρ) with
      | some o' => match bop op o.d o'.d with
        | some d => some ⟨d, .val, unlock o.k o.ρ o'.ρ⟩
        | none => none
      | none => none
    | none => none
  | .neg a, ρ => match ev a ρ with
    | some ⟨.int i, _, ρ'⟩ => some ⟨.int (-i), .val, ρ'⟩
    | _ => none
  | .and_ a b, ρ => match ev a ρ with
    | some o => match truth o.d with
      | some true => ev b o.ρ
      | some false => some o
      | none => none
    | none => none
  | .or_ a b, ρ => match ev a ρ with
    | some o => match truth o.d with
      | some true => some o
      | some false => ev b o.ρ
      | none => none
    | none => none
  | .not_ a, ρ => match ev a ρ with
    | some o => match truth o.d with
      | some t => some ⟨.bl (!t), .val, o.ρ⟩
      | none => none
    | none => none
  | .cmp op a b, ρ => match ev a ρ with
    | some o => match ev b (lock o.k o.ρ) with
      | some o' => match cop op o.d o'.d with
        | some d => some ⟨.bl d, .val, unlock o.k o.ρ o'.ρ⟩
        | none => none
      | none => none
    | none => none
  | .cmp2 op1 op2 a b c, ρ => match ev a ρ with
    | some o => match ev b (lock o.k o.ρ) with
      | some o' => match cop op1 o.d o'.d with
        | some false => some ⟨.bl false, .val, unlock o.k o.ρ o'.ρ⟩
        | some true => match o'.k with
          | .val => match ev c (unlock o.k o.ρ o'.ρ) with
            | some o'' => match cop op2 o'.d o''.d with
              | some d => some ⟨.bl d, .val, o''.ρ⟩
              | none => none
            | none => none
          | _ => none
        | none => none
      | none => none
    | none => none
  | .ite c a b, ρ => match ev c ρ with
    | some o => match truth o.d with
      | some true => ev a o.ρ
      | some false => ev b o.ρ
      | none => none
    | none => none
  | .tup es, ρ => match evs es ρ with
    | some (ds, ρ') => if noDL ds then match mkT (frzL ds) with
        | some d => some ⟨d, .val, ρ'⟩
        | none => none
      else none
    | none => none
  | .lst es, ρ => match evs es ρ with
    | some (ds, ρ') => match mkL ds with
      | some d => some ⟨d, .val, ρ'⟩
      | none => none
    | none => none
  | .dct ks, ρ => match evKs ks ρ [] with
    | some (kv, ρ') => some ⟨.dct true kv, .val, ρ'⟩
    | none => none
  | .idx a k, ρ => match ev a ρ with
    | some o => match ev k (lock o.k o.ρ) with
      | some o' => match o.d, o'.d with
        | .scr ns, .int i => match ixOf ns.length i with
          | some n => match ns[n]? with
            | some c => some ⟨.int c, .val, unlock o.k o.ρ o'.ρ⟩
            | none => none
          | none => none
        | .str s, .int i => if s.length < lim then match ixOf s.length i with
          | some n => match s[n]? with
            | some c => some ⟨.str [c], .val, unlock o.k o.ρ o'.ρ⟩
            | none => none
          | none => none else none
        | d, k => match stepOf d k with
          | some st => subOut ⟨d, o.k, unlock o.k o.ρ o'.ρ⟩ st
          | none => none
      | none => none
    | none => none
  | .slc a lo hi, ρ => match ev a ρ with
    | some o => match evO lo (lock o.k o.ρ) with
      | some (l, ρ1) => match evO hi ρ1 with
        | some (h, ρ2) => match optI l, optI h with
          | some l', some h' => match slc o.d l' h' with
            | some d => some ⟨d, .val, unlock o.k o.ρ ρ2⟩
            | none => none
          | _, _ => none
        | none => none
      | none => none
    | none => none
  | .attr a f, ρ => match ev a ρ with
    | some o => subOut o (.at f)
    | none => none
  | .call f as, ρ => match evAr as ρ with
    | some (ars, ρ') => runCall call f ars ρ'
    | none => none
  | .make c f as, ρ => match evAr as ρ with
    | some (ars, ρ') => match runCall (fun f ds => match call f (.ins true c [] :: ds) with
        | some (.non, .ow x :: ss) => some (x, ss)
        | _ => none) f ars ρ' with
      | some o => some o
      | none => none
    | none => none
  | .meth c m f i as, ρ => match slotD ρ i with
    | some (.ins _ c' fs) => if c' = c && (lookF fs m).isNone then match evAr as ρ with
        | some (ars, ρ') => runCall call f (.pl i [] :: ars) ρ'
        | none => none else none
    | _ => none
  | .blt b as, ρ => match evV as ρ with
    | some (ds, ρ') => match blt b ds with
      | some d => some ⟨d, .val, ρ'⟩
      | none => none
    | none => none
  | .bm m r as, ρ => match ev r ρ with
    | some o => match evV as (lock o.k o.ρ) with
      | some (ds, ρ') => match bmo m o.d ds with
        | some d => some ⟨d, .val, unlock o.k o.ρ ρ'⟩
        | none => none
      | none => none
    | none => none
  | .mm m r as, ρ => match ev r ρ with
    | some o => match evs as (lockD o.k o.ρ) with
      | some (ds, ρ') => atView ⟨o.d, o.k, unlockD o.k o.ρ ρ'⟩ fun e => if samK o.d e then mmo m e ds else none
      | none => none
    | none => none
  | .get r as, ρ => match ev r ρ with
    | some o => match evV as (lock o.k o.ρ) with
      | some (ds, ρ') => match getD o.d ds with
        | some (.inl k) => subOut ⟨o.d, o.k, unlock o.k o.ρ ρ'⟩ (.ky k)
        | some (.inr d) => some ⟨d, .val, unlock o.k o.ρ ρ'⟩
        | none => none
      | none => none
    | none => none
  | .sdef r as, ρ => match ev r ρ with
    | some o => match evs as (lockD o.k o.ρ) with
      | some ([k, d], ρ') => if samK o.d (.dct true []) then setdef ⟨o.d, o.k, unlockD o.k o.ρ ρ'⟩ k d else none
      | _ => none
    | none => none
  | .lc e own gs, ρ => match evG gs (fun ρ => ev e ρ) (unsetAll own ρ) [] with
    | some (ds, ρ') => match mkL ds with
      | some d => some ⟨d, .val, resetAll own ρ ρ'⟩
      | none => none
    | none => none
  | .lc1 e own_ t it c, ρ => match walk (ev it ρ) with
    | some (ds, k, ρ1) => match foldO (fun d (b : List D × Env) => match asgT t d (unsetAll own_ b.2) with
        | some ρ2 => match evC c ρ2 with
          | some (true, ρ3) => match ev e ρ3 with
            | some o => match own o with
              | some (x, ρ4) => if b.1.length + 1 < lim then some (b.1 ++ [x], ρ4) else none
              | none => none
            | none => none
          | some (false, ρ3) => some (b.1, ρ3)
          | none => none
        | none => none) ds ([], unsetAll own_ (lock k ρ1)) with
      | some (r, ρ4) => some ⟨.lst true r, .val, unlock k ρ1 (resetAll own_ (lock k ρ1) ρ4)⟩
      | none => none
    | none => none
/-- values of their own, from the left -/
def evs : Es → Env → Option (List D × Env)
  | .nil, ρ => some ([], ρ)
  | .cons e es, ρ => match ev e ρ with
    | some o => match own o with
      | some (d, ρ1) => match evs es ρ1 with
        | some (ds, ρ2) => some (d :: ds, ρ2)
        | none => none
      | none => none
    | none => none
/-- values that are read at once -/
def evV : Es → Env → Option (List D × Env)
  | .nil, ρ => some ([], ρ)
  | .cons e es, ρ => match ev e ρ with
    | some o => match evV es (lock o.k o.ρ) with
      | some (ds, ρ2) => some (o.d :: ds, unlock o.k o.ρ ρ2)
      | none => none
    | none => none
/-- an optional part -/
def evO : Oe → Env → Option (Option D × Env)
  | .no, ρ => some (none, ρ)
  | .so e, ρ => match ev e ρ with
    | some o => match own o with
      | some (d, ρ') => some (some d, ρ')
      | none => none
    | none => none
def evKs : Ks → Env → List (D × D) → Option (List (D × D) × Env)
  | .nil, ρ, kv => some (kv, ρ)
  | .cons k v ks, ρ, kv => match ev k ρ with
    | some ok => if isK ok.d && (look kv ok.d).isNone && decide (kv.length < 15) then match ev v ok.ρ with
        | some ov => match own ov with
          | some (d, ρ') => evKs ks ρ' (kv ++ [(ok.d, d)])
          | none => none
        | none => none else none
    | none => none
/-- arguments of a call -/
def evAr : As → Env → Option (List Ar × Env)
  | .nil, ρ => some ([], ρ)
  | .ref i es, ρ => match slotD ρ i with
    | some _ => match evAr es ρ with
      | some (as, ρ') => some (.pl i [] :: as, ρ')
      | none => none
    | none => none
  | .cons e es, ρ => match ev e ρ with
    | some o => match own o with
      | some (d, ρ1) => match evAr es ρ1 with
        | some (as, ρ') => some (.val d :: as, ρ')
        | none => none
      | none => none
    | none => none
/-- a comprehension's clauses -/
def evG : Gs → (Env → Option Out) → Env → List D → Option (List D × Env)
  | .nil, e, ρ, acc => match e ρ with
    | some o => match own o with
      | some (d, ρ') => some (acc ++ [d], ρ')
      | none => none
    | none => none
  | .cons t it ifs gs, e, ρ, acc => match walk (ev it ρ) with
    | some (ds, k, ρ1) => match foldO (fun d (b : List D × Env) => match asgT t d b.2 with
        | some ρ2 => match evIf ifs ρ2 with
          | some (true, ρ3) => evG gs e ρ3 b.1
          | some (false, ρ3) => some (b.1, ρ3)
          | none => none
        | none => none) ds (acc, lock k ρ1) with
      | some (r, ρ4) => some (r, unlock k ρ1 ρ4)
      | none => none
    | none => none
def evC : Oe → Env → Option (Bool × Env)
  | .no, ρ => some (true, ρ)
  | .so e, ρ => match ev e ρ with
    | some o => match truth o.d with
      | some t => some (t, o.ρ)
      | none => none
    | none => none
def evIf : Es → Env → Option (Bool × Env)
  | .nil, ρ => some (true, ρ)
  | .cons c cs, ρ => match ev c ρ with
    | some o => match truth o.d with
      | some true => evIf cs o.ρ
      | some false => some (false, o.ρ)
      | none => none
    | none => none
end

inductive Fl where
  | nx | br | ct | rt (d : D)
  deriving Inhabited, Repr
def forO (f : D → Env → Option (Fl × Env)) : List D → Env → Option (Fl × Env)
  | [], ρ => some (.nx, ρ)
  | d :: ds, ρ => match f d ρ with
    | some (.nx, ρ') => forO f ds ρ'
    | some (.ct, ρ') => forO f ds ρ'
    | some (.br, ρ') => some (.nx, ρ')
    | some (.rt x, ρ') => some (.rt x, ρ')
    | none => none
def whileO (c : Env → Option (Bool × Env)) (f : Env → Option (Fl × Env)) : Nat → Env → Option (Fl × Env)
  | 0, _ => none
  | n + 1, ρ => match c ρ with
    | some (false, ρ1) => some (.nx, ρ1)
    | some (true, ρ1) => match f ρ1 with
      | some (.nx, ρ') => whileO c f n ρ'
      | some (.ct, ρ') => whileO c f n ρ'
      | some (.br, ρ') => some (.nx, ρ')
      | some (.rt x, ρ') => some (.rt x, ρ')
      | none => none
    | none => none
def turns : Nat := 1000000
def evB (c : E) (ρ : Env) : Option (Bool × Env) := match ev call c ρ with
  | some o => match truth o.d with
    | some t => some (t, o.ρ)
    | none => none
  | none => none
def evD (e : E) (ρ : Env) : Option (D × Env) := match ev call e ρ with
  | some o => own o
  | none => none
mutual
def ex : S → Env → Option (Fl × Env)
  | .expr e, ρ => match ev call e ρ with
    | some o => some (.nx, o.ρ)
    | none => none
  | .asg t e, ρ => match evD call e ρ with
    | some (d, ρ') => match asgT t d ρ' with
      | some ρ'' => some (.nx, ρ'')
      | none => none
    | none => none
  | .par ts es, ρ => match evs call es ρ with
    | some (ds, ρ') => match asgTs ts ds ρ' with
      | some ρ'' => some (.nx, ρ'')
      | none => none
    | none => none
  | .sto r k e, ρ => match evD call e ρ with
    | some (d, ρ1) => match ev call r ρ1 with
      | some o => match ev call k (lockD o.k o.ρ) with
        | some ok => match atView ⟨o.d, o.k, unlockD o.k o.ρ ok.ρ⟩ fun c => match stepOf c ok.d with
            | some st => (setS c st d).map fun c' => (.non, c')
            | none => none with
          | some o' => some (.nx, o'.ρ)
          | none => none
        | none => none
      | none => none
    | none => none
  | .sta r f e, ρ => match evD call e ρ with
    | some (d, ρ1) => match ev call r ρ1 with
      | some o => match atView o fun c => if samC c c then (setS c (.at f) d).map fun c' => (.non, c') else none with
        | some o' => some (.nx, o'.ρ)
        | none => none
      | none => none
    | none => none
  | .aug i op e, ρ => match rd ρ i with
    | some o => match ev call e (lock o.k o.ρ) with
      | some o' => match augOp op o.d o'.d with
        | some d => match asgT (.nm i) d (unlock o.k o.ρ o'.ρ) with
          | some ρ' => some (.nx, ρ')
          | none => none
        | none => none
      | none => none
    | none => none
  | .augS r k op e, ρ => match ev call r ρ with
    | some o => match ev call k (lock o.k o.ρ) with
      | some ok => if isDct o.d then match stepOf o.d ok.d with
        | some st => match perO (getS o.d st) with
          | some old => match ev call e (lockD o.k (unlock o.k o.ρ ok.ρ)) with
            | some oe => match augOp op old oe.d with
              | some d => match atView ⟨o.d, o.k, unlockD o.k (unlock o.k o.ρ ok.ρ) oe.ρ⟩ (fun c => match stepOf c ok.d with
                  | some st => (setS c st d).map fun c' => (.non, c')
                  | none => none) with
                | some o' => some (.nx, o'.ρ)
                | none => none
              | none => none
            | none => none
          | none => none
        | none => none else none
      | none => none
    | none => none
  | .augA r f op e, ρ => match ev call r ρ with
    | some o => match perO (getS o.d (.at f)) with
      | some old => match ev call e (lockD o.k o.ρ) with
        | some oe => match augOp op old oe.d with
          | some d => match atView ⟨o.d, o.k, unlockD o.k o.ρ oe.ρ⟩ (fun c => if samC o.d c then (setS c (.at f) d).map fun c' => (.non, c') else none) with
            | some o' => some (.nx, o'.ρ)
            | none => none
          | none => none
        | none => none
      | none => none
    | none => none
  | .ifs c a b, ρ => match evB call c ρ with
    | some (true, ρ') => exs a ρ'
    | some (false, ρ') => exs b ρ'
    | none => none
  | .for_ t it b, ρ => match walk (ev call it ρ) with
    | some (ds, k, ρ1) => match forO (fun d ρ2 => match asgT t d ρ2 with
        | some ρ3 => exs b ρ3
        | none => none) ds (lock k ρ1) with
      | some (f, ρ4) => some (f, unlock k ρ1 ρ4)
      | none => none
    | none => none
  | .while_ c b, ρ => whileO (evB call c) (exs b) turns ρ
  | .ret e, ρ => match evD call e ρ with
    | some (d, ρ') => some (.rt d, ρ')
    | none => none
  | .retN, ρ => some (.rt .non, ρ)
  | .brk, ρ => some (.br, ρ)
  | .cont, ρ => some (.ct, ρ)
  | .pass, ρ => some (.nx, ρ)
def exs : Ss → Env → Option (Fl × Env)
  | .nil, ρ => some (.nx, ρ)
  | .cons s ss, ρ => match ex s ρ with
    | some (.nx, ρ') => exs ss ρ'
    | r => r
end

structure Fn where
  np : Nat
  ns : Nat
  ass : List Bool
  body : Ss
/-- a parameter that the body assigns takes no value that may be exchanged -/
def assOk : List Bool → List D → Bool
  | [], [] => true
  | b :: bs, d :: ds => (!b || pers d) && assOk bs ds
  | _, _ => false
def callN (fs : List Fn) : Nat → Cll
  | 0, _, _ => none
  | n + 1, f, ds => match fs[f]? with
    | some fn => if assOk fn.ass ds then
        match exs (callN fs n) fn.body (ds.map .ow ++ List.replicate fn.ns .no) with
        | some (.rt d, ρ) => some (d, ρ.take fn.np)
        | some (.nx, ρ) => some (.non, ρ.take fn.np)
        | _ => none
      else none
    | none => none
end LP

set_option autoImplicit false
set_option linter.all false
set_option maxRecDepth 100000
/-! how LP's values stand in the hand layer's heap -/
namespace LPS
open PySem L2 LP

abbrev AS := Addr → Prop
def e0 : AS := fun _ => False
structure Gk where
  K : PySem.W.Frag
  an : Nat → Str
  cl : Nat → Addr
def sV (s : List Nat) : PySem.Str := ⟨s.toArray⟩
def keyD : D → Option Key
  | .int i => some (.inl i)
  | .str s => some (.inr (sV s))
  | _ => none
def keysD : List D → Option (List Key)
  | [] => some []
  | d :: ds => match keyD d, keysD ds with
    | some k, some ks => some (k :: ks)
    | _, _ => none
def tkD : D → Option (List Key)
  | .tup ds => keysD ds
  | _ => none
def kD : List (D × D) → Option (List Key)
  | [] => some []
  | (d, _) :: ds => match keyD d, kD ds with
    | some k, some ks => some (k :: ks)
    | _, _ => none
def tD : List (D × D) → Option (List (List Key))
  | [] => some []
  | (d, _) :: ds => match tkD d, tD ds with
    | some k, some ks => some (k :: ks)
    | _, _ => none
/-- a dict at a with such keys, values vs -/
def DcAt (H : Hp) (a : Addr) (ks : List (D × D)) (vs : List V) : Prop :=
  (∃ kk, kD ks = some kk ∧ kk.Nodup ∧ Rd H a (.dK (kk.zip vs))) ∨ (∃ tt, tD ks = some tt ∧ tt.Nodup ∧ Rd H a (.dT (tt.zip vs)))
/-- no one walks it -/
def NFz (H : Hp) (a : Addr) : Prop := ∀ ob u, H a ≠ some (.frz ob u)
/-- an instance at a -/
def InAt (g : Gk) (H : Hp) (a : Addr) (c : Nat) (fs : List (Nat × D)) (vs : List V) : Prop :=
  ∃ dx, H a = some (.ins (g.cl c) dx ((fs.map fun p => g.an p.1).zip vs))

/-- the script at a -/
def ScAt (g : Gk) (F : AS) (H : Hp) (a : Addr) (vs : List V) : Prop := (H a = some (.lst vs) ∧ F a) ∨ (∃ o, H a = some (.frz o (.lst vs))) ∨ ∀ H' : Hp, SqL g.K H' a vs
section
variable (g : Gk) (F : AS) (H : Hp)
mutual
def Rp : D → V → AS → Prop
  | .non, v, _ => v = .non
  | .bl b, v, _ => v = .bl b
  | .int i, v, _ => v = .int i
  | .str s, v, _ => v = .str (sV s)
  | .scr ns, v, _ => ∃ a, v = .ref a ∧ ScAt g F H a (ns.map V.int)
  | .tup ds, v, _ => ∃ a vs, v = .ref a ∧ H a = some (.tup vs) ∧ RpL ds vs e0
  | .lst o ds, v, T => ∃ a vs U, v = .ref a ∧ RpL ds vs U ∧ (∀ b, U b → T b ∧ b ≠ a) ∧
      H a = some (.lst vs) ∧ (if o = true then T a else F a ∧ ∀ b, ¬ U b)
  | .dct o ks, v, T => ∃ a vs U, v = .ref a ∧ RpK ks vs U ∧ (∀ b, U b → T b ∧ b ≠ a) ∧ DcAt H a ks vs ∧
      (if o = true then T a ∧ NFz H a else (F a ∧ ∃ ob u, H a = some (.frz ob u)) ∧ ∀ b, ¬ U b)
  | .ins o c fs, v, T => ∃ a vs U, v = .ref a ∧ RpF fs vs U ∧ (∀ b, U b → T b ∧ b ≠ a) ∧ InAt g H a c fs vs ∧
      (if o = true then T a else F a ∧ ∀ b, ¬ U b)
def RpL : List D → List V → AS → Prop
  | [], vs, _ => vs = []
  | d :: ds, vs, T => ∃ v r T1 T2, vs = v :: r ∧ Rp d v T1 ∧ RpL ds r T2 ∧ (∀ b, T1 b → T b ∧ ¬ T2 b) ∧ (∀ b, T2 b → T b)
def RpK : List (D × D) → List V → AS → Prop
  | [], vs, _ => vs = []
  | (_, d) :: ds, vs, T => ∃ v r T1 T2, vs = v :: r ∧ Rp d v T1 ∧ RpK ds r T2 ∧ (∀ b, T1 b → T b ∧ ¬ T2 b) ∧ (∀ b, T2 b → T b)
def RpF : List (Nat × D) → List V → AS → Prop
  | [], vs, _ => vs = []
  | (_, d) :: ds, vs, T => ∃ v r T1 T2, vs = v :: r ∧ Rp d v T1 ∧ RpF ds r T2 ∧ (∀ b, T1 b → T b ∧ ¬ T2 b) ∧ (∀ b, T2 b → T b)
end
end

section
variable {g : Gk} {F F' : AS} {H H' : Hp}
theorem RpK_iff : ∀ {ks : List (D × D)} {vs : List V} {T : AS}, RpK g F H ks vs T ↔ RpL g F H (ks.map (·.2)) vs T
  | [], vs, T => by simp [RpK, RpL]
  | (k, d) :: ks, vs, T => by
    simp only [RpK, RpL, List.map_cons]
    constructor <;> (rintro ⟨v, r, T1, T2, h1, h2, h3, h4⟩; exact ⟨v, r, T1, T2, h1, h2, by first | exact RpK_iff.mp h3 | exact RpK_iff.mpr h3, h4⟩)
theorem RpF_iff : ∀ {ks : List (Nat × D)} {vs : List V} {T : AS}, RpF g F H ks vs T ↔ RpL g F H (ks.map (·.2)) vs T
  | [], vs, T => by simp [RpF, RpL]
  | (k, d) :: ks, vs, T => by
    simp only [RpF, RpL, List.map_cons]
    constructor <;> (rintro ⟨v, r, T1, T2, h1, h2, h3, h4⟩; exact ⟨v, r, T1, T2, h1, h2, by first | exact RpF_iff.mp h3 | exact RpF_iff.mpr h3, h4⟩)

theorem Rp.mono {d : D} {v : V} {T T' : AS} (h : Rp g F H d v T) (hs : ∀ b, T b → T' b) : Rp g F H d v T' := by
  cases d with
  | lst o ds =>
    simp only [Rp] at h ⊢
    obtain ⟨a, vs, U, e, r, s, c, t⟩ := h
    refine ⟨a, vs, U, e, r, fun b hb => ⟨hs b (s b hb).1, (s b hb).2⟩, c, ?_⟩
    cases o
    · exact t
    · exact hs _ t
  | dct o ds =>
    simp only [Rp] at h ⊢
    obtain ⟨a, vs, U, e, r, s, c, t⟩ := h
    refine ⟨a, vs, U, e, r, fun b hb => ⟨hs b (s b hb).1, (s b hb).2⟩, c, ?_⟩
    cases o
    · exact t
    · exact ⟨hs _ t.1, t.2⟩
  | ins o c ds =>
    simp only [Rp] at h ⊢
    obtain ⟨a, vs, U, e, r, s, c, t⟩ := h
    refine ⟨a, vs, U, e, r, fun b hb => ⟨hs b (s b hb).1, (s b hb).2⟩, c, ?_⟩
    cases o
    · exact t
    · exact hs _ t
  | _ => simpa only [Rp] using h
theorem RpL.mono {ds : List D} {vs : List V} {T T' : AS} (h : RpL g F H ds vs T) (hs : ∀ b, T b → T' b) : RpL g F H ds vs T' := by
  cases ds with
  | nil => simpa only [RpL] using h
  | cons d ds =>
    simp only [RpL] at h ⊢
    obtain ⟨v, r, T1, T2, e, h1, h2, h3, h4⟩ := h
    exact ⟨v, r, T1, T2, e, h1, h2, fun b hb => ⟨hs b (h3 b hb).1, (h3 b hb).2⟩, fun b hb => hs b (h4 b hb)⟩
theorem RpL.cons {d : D} {ds : List D} {v : V} {vs : List V} {T1 T2 : AS} (h : Rp g F H d v T1) (r : RpL g F H ds vs T2) (dj : ∀ b, T1 b → ¬ T2 b) : RpL g F H (d :: ds) (v :: vs) (fun b => T1 b ∨ T2 b) := by
  simp only [RpL]
  exact ⟨v, vs, T1, T2, rfl, h, r, fun b hb => ⟨.inl hb, dj b hb⟩, fun b hb => .inr hb⟩
theorem RpL.nil {T : AS} : RpL g F H [] [] T := by simp only [RpL]
theorem RpL.length : ∀ {ds : List D} {vs : List V} {T : AS}, RpL g F H ds vs T → ds.length = vs.length
  | [], vs, T, h => by simp only [RpL] at h; simp [h]
  | d :: ds, vs, T, h => by
    simp only [RpL] at h
    obtain ⟨v, r, T1, T2, rfl, _, h2, _⟩ := h
    simp [RpL.length h2]

/-- what may be written in a heap -/
def MuO (H : Hp) (b : Addr) : Prop := ∃ o, H b = some o ∧ ((∃ xs, o = .lst xs) ∨ (∃ xs, o = .dK xs) ∨ (∃ xs, o = .dT xs) ∨ (∃ C dx fs, o = .ins C dx fs))
theorem DcAt.some {ks : List (D × D)} {a : Addr} {vs : List V} (h : DcAt H a ks vs) : ∃ w, H a = some w := by
  rcases h with ⟨_, _, _, h | ⟨_, h⟩⟩ | ⟨_, _, _, h | ⟨_, h⟩⟩ <;> exact ⟨_, h⟩
/-- a step from H to H' that may change what stands in A alone -/
structure Kp (A F F' : AS) (H H' : Hp) : Prop where
  keep : ∀ b o, H b = some o → ¬ A b → H' b = some o
  mono : ∀ b, F b → F' b
  new : ∀ b, F' b → F b ∨ A b ∨ H b = none
  ex : ∀ b, H b ≠ none → H' b ≠ none
/-- nothing of A is frozen, and it may be written -/
def Gd (A F : AS) (H : Hp) : Prop := ∀ b, A b → ¬ F b ∧ MuO H b
theorem Kp.refl {A : AS} : Kp A F F H H := ⟨fun _ _ h _ => h, fun _ h => h, fun _ h => .inl h, fun _ h => h⟩
theorem Kp.tup {A : AS} {a : Addr} {vs : List V} (k : Kp A F F' H H') (gd : Gd A F H) (h : H a = some (.tup vs)) : H' a = some (.tup vs) := by
  refine k.keep _ _ h fun z => ?_
  obtain ⟨o, e, q⟩ := (gd _ z).2
  rw [h] at e; cases e
  rcases q with ⟨_, q⟩ | ⟨_, q⟩ | ⟨_, q⟩ | ⟨_, _, _, q⟩ <;> cases q
theorem sqL_at {H H' : Hp} {K : PySem.W.Frag} {a : Addr} {vs : List V} (k : ∀ o, H a = some o → H' a = some o) (h : SqL K H a vs) : SqL K H' a vs := by
  rcases h with (h | ⟨o, h⟩) | h
  · exact .inl (.inl (k _ h))
  · exact .inl (.inr ⟨o, k _ h⟩)
  · exact .inr h
theorem rd_at {H H' : Hp} {a : Addr} {u : HO} (k : ∀ o, H a = some o → H' a = some o) (h : Rd H a u) : Rd H' a u := by
  rcases h with h | ⟨o, h⟩
  · exact .inl (k _ h)
  · exact .inr ⟨o, k _ h⟩
theorem dcAt_at {H H' : Hp} {a : Addr} {ks : List (D × D)} {vs : List V} (k : ∀ o, H a = some o → H' a = some o) (h : DcAt H a ks vs) : DcAt H' a ks vs := by
  rcases h with ⟨kk, e, n, h⟩ | ⟨kk, e, n, h⟩
  · exact .inl ⟨kk, e, n, rd_at k h⟩
  · exact .inr ⟨kk, e, n, rd_at k h⟩
mutual
theorem Rp.keep {A : AS} (k : Kp A F F' H H') (gd : Gd A F H) : ∀ (d : D) (v : V) (T : AS), (∀ b, T b → ¬ A b) → Rp g F H d v T → Rp g F' H' d v T
  | .non, v, T, _, h => by simpa only [Rp] using h
  | .bl _, v, T, _, h => by simpa only [Rp] using h
  | .int _, v, T, _, h => by simpa only [Rp] using h
  | .str _, v, T, _, h => by simpa only [Rp] using h
  | .scr ns, v, T, dj, h => by
    simp only [Rp] at h ⊢
    obtain ⟨a, e, s⟩ := h
    refine ⟨a, e, ?_⟩
    rcases s with ⟨s, f⟩ | ⟨o, s⟩ | s
    · exact .inl ⟨k.keep _ _ s fun z => (gd _ z).1 f, k.mono _ f⟩
    · refine .inr (.inl ⟨o, k.keep _ _ s fun z => ?_⟩)
      obtain ⟨o, e, q⟩ := (gd _ z).2
      rw [s] at e; cases e
      rcases q with ⟨_, q⟩ | ⟨_, q⟩ | ⟨_, q⟩ | ⟨_, _, _, q⟩ <;> cases q
    · exact .inr (.inr s)
  | .tup ds, v, T, dj, h => by
    simp only [Rp] at h ⊢
    obtain ⟨a, vs, e, s, r⟩ := h
    exact ⟨a, vs, e, k.tup gd s, RpL.keep k gd ds vs e0 (fun _ z => z.elim) r⟩
  | .lst o ds, v, T, dj, h => by
    simp only [Rp] at h ⊢
    obtain ⟨a, vs, U, e, r, s, c, t⟩ := h
    refine ⟨a, vs, U, e, RpL.keep k gd ds vs U (fun b hb => dj b (s b hb).1) r, s, k.keep _ _ c ?_, ?_⟩
    · cases o with
      | false => exact fun z => (gd _ z).1 t.1
      | true => exact dj _ t
    · cases o with
      | false => exact ⟨k.mono _ t.1, t.2⟩
      | true => exact t
  | .dct o ds, v, T, dj, h => by
    simp only [Rp] at h ⊢
    obtain ⟨a, vs, U, e, r, s, c, t⟩ := h
    have na : ¬ A a := by
      cases o with
      | false => exact fun z => (gd _ z).1 t.1.1
      | true => exact dj _ t.1
    refine ⟨a, vs, U, e, RpK.keep k gd ds vs U (fun b hb => dj b (s b hb).1) r, s, dcAt_at (fun o' h => k.keep _ _ h na) c, ?_⟩
    cases o with
    | false => exact ⟨⟨k.mono _ t.1.1, t.1.2.imp fun ob z => z.imp fun u z => k.keep _ _ z na⟩, t.2⟩
    | true =>
      refine ⟨t.1, fun ob u z => ?_⟩
      obtain ⟨w, hw⟩ := c.some
      rw [k.keep _ _ hw na] at z
      cases z
      exact t.2 _ _ hw
  | .ins o c ds, v, T, dj, h => by
    simp only [Rp] at h ⊢
    obtain ⟨a, vs, U, e, r, s, ⟨dx, c⟩, t⟩ := h
    refine ⟨a, vs, U, e, RpF.keep k gd ds vs U (fun b hb => dj b (s b hb).1) r, s, ⟨dx, k.keep _ _ c ?_⟩, ?_⟩
    · cases o with
      | false => exact fun z => (gd _ z).1 t.1
      | true => exact dj _ t
    · cases o with
      | false => exact ⟨k.mono _ t.1, t.2⟩
      | true => exact t
theorem RpL.keep {A : AS} (k : Kp A F F' H H') (gd : Gd A F H) : ∀ (d : List D) (v : List V) (T : AS), (∀ b, T b → ¬ A b) → RpL g F H d v T → RpL g F' H' d v T
  | [], v, T, _, h => by simpa only [RpL] using h
  | d :: ds, v, T, dj, h => by
    simp only [RpL] at h ⊢
    obtain ⟨v, r, T1, T2, e, h1, h2, h3, h4⟩ := h
    exact ⟨v, r, T1, T2, e, Rp.keep k gd d v T1 (fun b hb => dj b (h3 b hb).1) h1, RpL.keep k gd ds r T2 (fun b hb => dj b (h4 b hb)) h2, h3, h4⟩
theorem RpK.keep {A : AS} (k : Kp A F F' H H') (gd : Gd A F H) : ∀ (d : List (D × D)) (v : List V) (T : AS), (∀ b, T b → ¬ A b) → RpK g F H d v T → RpK g F' H' d v T
  | [], v, T, _, h => by simpa only [RpK] using h
  | (_, d) :: ds, v, T, dj, h => by
    simp only [RpK] at h ⊢
    obtain ⟨v, r, T1, T2, e, h1, h2, h3, h4⟩ := h
    exact ⟨v, r, T1, T2, e, Rp.keep k gd d v T1 (fun b hb => dj b (h3 b hb).1) h1, RpK.keep k gd ds r T2 (fun b hb => dj b (h4 b hb)) h2, h3, h4⟩
theorem RpF.keep {A : AS} (k : Kp A F F' H H') (gd : Gd A F H) : ∀ (d : List (Nat × D)) (v : List V) (T : AS), (∀ b, T b → ¬ A b) → RpF g F H d v T → RpF g F' H' d v T
  | [], v, T, _, h => by simpa only [RpF] using h
  | (_, d) :: ds, v, T, dj, h => by
    simp only [RpF] at h ⊢
    obtain ⟨v, r, T1, T2, e, h1, h2, h3, h4⟩ := h
    exact ⟨v, r, T1, T2, e, Rp.keep k gd d v T1 (fun b hb => dj b (h3 b hb).1) h1, RpF.keep k gd ds r T2 (fun b hb => dj b (h4 b hb)) h2, h3, h4⟩
end

mutual
/-- a persistent value holds nothing -/
theorem Rp.pers : ∀ (d : D) (v : V) (T T' : AS), LP.pers d = true → Rp g F H d v T → Rp g F H d v T'
  | .non, v, T, T', _, h => by simpa only [Rp] using h
  | .bl _, v, T, T', _, h => by simpa only [Rp] using h
  | .int _, v, T, T', _, h => by simpa only [Rp] using h
  | .str _, v, T, T', _, h => by simpa only [Rp] using h
  | .scr _, v, T, T', _, h => by simpa only [Rp] using h
  | .tup ds, v, T, T', p, h => by simpa only [Rp] using h
  | .lst o ds, v, T, T', p, h => by
    simp only [Rp, LP.pers, Bool.and_eq_true, Bool.not_eq_true'] at h p ⊢
    obtain ⟨a, vs, U, e, r, s, c, t⟩ := h
    obtain ⟨rfl, p⟩ := p
    exact ⟨a, vs, U, e, r, fun b hb => (t.2 b hb).elim, c, t⟩
  | .dct o ds, v, T, T', p, h => by
    simp only [Rp, LP.pers, Bool.and_eq_true, Bool.not_eq_true'] at h p ⊢
    obtain ⟨a, vs, U, e, r, s, c, t⟩ := h
    obtain ⟨rfl, p⟩ := p
    exact ⟨a, vs, U, e, r, fun b hb => (t.2 b hb).elim, c, t⟩
  | .ins o c ds, v, T, T', p, h => by
    simp only [Rp, LP.pers, Bool.and_eq_true, Bool.not_eq_true'] at h p ⊢
    obtain ⟨a, vs, U, e, r, s, c, t⟩ := h
    obtain ⟨rfl, p⟩ := p
    exact ⟨a, vs, U, e, r, fun b hb => (t.2 b hb).elim, c, t⟩
end
theorem RpL.pers : ∀ (d : List D) (v : List V) (T T' : AS), LP.persL d = true → RpL g F H d v T → RpL g F H d v T'
  | [], v, T, T', _, h => by simpa only [RpL] using h
  | d :: ds, v, T, T', p, h => by
    simp only [RpL, LP.persL, Bool.and_eq_true] at h p ⊢
    obtain ⟨v, r, T1, T2, e, h1, h2, h3, h4⟩ := h
    exact ⟨v, r, e0, e0, e, Rp.pers d v T1 e0 p.1 h1, RpL.pers ds r T2 e0 p.2 h2, fun _ z => z.elim, fun _ z => z.elim⟩
theorem kD_frz : ∀ ks : List (D × D), kD (frzK ks) = kD ks
  | [] => rfl
  | (k, d) :: ks => by simp only [frzK, kD, kD_frz ks]
theorem tD_frz : ∀ ks : List (D × D), tD (frzK ks) = tD ks
  | [] => rfl
  | (k, d) :: ks => by simp only [frzK, tD, tD_frz ks]
theorem names_frz {α : Type} (f : Nat → α) : ∀ fs : List (Nat × D), (frzF fs).map (fun p => f p.1) = fs.map fun p => f p.1
  | [] => rfl
  | (k, d) :: ks => by simp only [frzF, List.map_cons, names_frz f ks]
mutual
/-- freezing: what was held is frozen -/
theorem Rp.frz (hF : ∀ b, F b → F' b) : ∀ (d : D) (v : V) (T : AS), LP.noD d = true → (∀ b, T b → F' b) → Rp g F H d v T → Rp g F' H (LP.frz d) v e0
  | .non, v, T, _, _, h => by simpa only [Rp, LP.frz] using h
  | .bl _, v, T, _, _, h => by simpa only [Rp, LP.frz] using h
  | .int _, v, T, _, _, h => by simpa only [Rp, LP.frz] using h
  | .str _, v, T, _, _, h => by simpa only [Rp, LP.frz] using h
  | .scr _, v, T, _, _, h => by
    simp only [Rp, LP.frz] at h ⊢
    obtain ⟨a, e, s⟩ := h
    exact ⟨a, e, s.imp_left fun s => ⟨s.1, hF _ s.2⟩⟩
  | .tup ds, v, T, nd, hT, h => by
    simp only [LP.noD] at nd
    simp only [Rp, LP.frz] at h ⊢
    obtain ⟨a, vs, e, s, r⟩ := h
    exact ⟨a, vs, e, s, RpL.frz hF ds vs e0 nd (fun _ z => z.elim) r⟩
  | .lst o ds, v, T, nd, hT, h => by
    simp only [LP.noD] at nd
    simp only [Rp, LP.frz] at h ⊢
    obtain ⟨a, vs, U, e, r, s, c, t⟩ := h
    refine ⟨a, vs, e0, e, RpL.frz hF ds vs U nd (fun b hb => hT b (s b hb).1) r, fun _ z => z.elim, c, ?_⟩
    cases o with
    | false => exact ⟨hF _ t.1, fun _ z => z⟩
    | true => exact ⟨hT _ t, fun _ z => z⟩
  | .dct o ds, v, T, nd, hT, h => by
    simp only [LP.noD, Bool.and_eq_true, Bool.not_eq_true'] at nd
    obtain ⟨rfl, nd⟩ := nd
    simp only [Rp, LP.frz] at h ⊢
    obtain ⟨a, vs, U, e, r, s, c, t⟩ := h
    refine ⟨a, vs, e0, e, RpK.frz hF ds vs U nd (fun b hb => hT b (s b hb).1) r, fun _ z => z.elim, ?_, ⟨hF _ t.1.1, t.1.2⟩, fun _ z => z⟩
    unfold DcAt at c ⊢
    rw [kD_frz, tD_frz]
    exact c
  | .ins o c ds, v, T, nd, hT, h => by
    simp only [LP.noD] at nd
    simp only [Rp, LP.frz] at h ⊢
    obtain ⟨a, vs, U, e, r, s, c, t⟩ := h
    refine ⟨a, vs, e0, e, RpF.frz hF ds vs U nd (fun b hb => hT b (s b hb).1) r, fun _ z => z.elim, ?_, ?_⟩
    · unfold InAt at c ⊢
      rw [names_frz]
      exact c
    · cases o with
      | false => exact ⟨hF _ t.1, fun _ z => z⟩
      | true => exact ⟨hT _ t, fun _ z => z⟩
theorem RpL.frz (hF : ∀ b, F b → F' b) : ∀ (d : List D) (v : List V) (T : AS), LP.noDL d = true → (∀ b, T b → F' b) → RpL g F H d v T → RpL g F' H (LP.frzL d) v e0
  | [], v, T, _, _, h => by simpa only [RpL, LP.frzL] using h
  | d :: ds, v, T, nd, hT, h => by
    simp only [LP.noDL, Bool.and_eq_true] at nd
    simp only [RpL, LP.frzL] at h ⊢
    obtain ⟨v, r, T1, T2, e, h1, h2, h3, h4⟩ := h
    exact ⟨v, r, e0, e0, e, Rp.frz hF d v T1 nd.1 (fun b hb => hT b (h3 b hb).1) h1, RpL.frz hF ds r T2 nd.2 (fun b hb => hT b (h4 b hb)) h2, fun _ z => z.elim, fun _ z => z.elim⟩
theorem RpK.frz (hF : ∀ b, F b → F' b) : ∀ (d : List (D × D)) (v : List V) (T : AS), LP.noDK d = true → (∀ b, T b → F' b) → RpK g F H d v T → RpK g F' H (LP.frzK d) v e0
  | [], v, T, _, _, h => by simpa only [RpK, LP.frzK] using h
  | (k, d) :: ds, v, T, nd, hT, h => by
    simp only [LP.noDK, Bool.and_eq_true] at nd
    simp only [RpK, LP.frzK] at h ⊢
    obtain ⟨v, r, T1, T2, e, h1, h2, h3, h4⟩ := h
    exact ⟨v, r, e0, e0, e, Rp.frz hF d v T1 nd.1 (fun b hb => hT b (h3 b hb).1) h1, RpK.frz hF ds r T2 nd.2 (fun b hb => hT b (h4 b hb)) h2, fun _ z => z.elim, fun _ z => z.elim⟩
theorem RpF.frz (hF : ∀ b, F b → F' b) : ∀ (d : List (Nat × D)) (v : List V) (T : AS), LP.noDF d = true → (∀ b, T b → F' b) → RpF g F H d v T → RpF g F' H (LP.frzF d) v e0
  | [], v, T, _, _, h => by simpa only [RpF, LP.frzF] using h
  | (k, d) :: ds, v, T, nd, hT, h => by
    simp only [LP.noDF, Bool.and_eq_true] at nd
    simp only [RpF, LP.frzF] at h ⊢
    obtain ⟨v, r, T1, T2, e, h1, h2, h3, h4⟩ := h
    exact ⟨v, r, e0, e0, e, Rp.frz hF d v T1 nd.1 (fun b hb => hT b (h3 b hb).1) h1, RpF.frz hF ds r T2 nd.2 (fun b hb => hT b (h4 b hb)) h2, fun _ z => z.elim, fun _ z => z.elim⟩
end
end
end LPS

set_option autoImplicit false
set_option linter.all false
set_option maxRecDepth 100000
/-! places -/
namespace LPS
open PySem L2 LP
section
variable {g : Gk} {F F' : AS} {H H' : Hp}

mutual
/-- what holds nothing is persistent -/
theorem pers_of : ∀ (d : D) (v : V), Rp g F H d v e0 → LP.pers d = true
  | .non, v, h => by simp only [LP.pers]
  | .bl _, v, h => by simp only [LP.pers]
  | .int _, v, h => by simp only [LP.pers]
  | .str _, v, h => by simp only [LP.pers]
  | .tup ds, v, h => by
    simp only [Rp, LP.pers] at h ⊢
    obtain ⟨a, vs, e, s, r⟩ := h
    exact persL_of ds vs e0 (fun _ z => z) r
  | .scr _, v, h => by simp only [LP.pers]
  | .lst o ds, v, h => by
    simp only [Rp, LP.pers] at h ⊢
    obtain ⟨a, vs, U, e, r, s, c, t⟩ := h
    cases o with
    | true => exact (show e0 a from t).elim
    | false => simpa using persL_of ds vs U t.2 r
  | .dct o ds, v, h => by
    simp only [Rp, LP.pers] at h ⊢
    obtain ⟨a, vs, U, e, r, s, c, t⟩ := h
    cases o with
    | true => exact (show e0 a from t.1).elim
    | false =>
      rcases c with ⟨kk, ek, _, _⟩ | ⟨tt, et, _, _⟩
      · simpa using persK_of ds vs U t.2 (.inl ⟨kk, ek⟩) r
      · simpa using persK_of ds vs U t.2 (.inr ⟨tt, et⟩) r
  | .ins o c ds, v, h => by
    simp only [Rp, LP.pers] at h ⊢
    obtain ⟨a, vs, U, e, r, s, _, t⟩ := h
    cases o with
    | true => exact (show e0 a from t).elim
    | false => simpa using persF_of ds vs U t.2 r
theorem persL_of : ∀ (d : List D) (v : List V) (T : AS), (∀ b, ¬ T b) → RpL g F H d v T → LP.persL d = true
  | [], v, T, _, h => by simp only [LP.persL]
  | d :: ds, v, T, z, h => by
    simp only [RpL, LP.persL, Bool.and_eq_true] at h ⊢
    obtain ⟨v, r, T1, T2, e, h1, h2, h3, h4⟩ := h
    exact ⟨pers_of d v (h1.mono fun b hb => z b (h3 b hb).1), persL_of ds r T2 (fun b hb => z b (h4 b hb)) h2⟩
theorem persK_of : ∀ (d : List (D × D)) (v : List V) (T : AS), (∀ b, ¬ T b) → ((∃ kk, kD d = some kk) ∨ ∃ tt, tD d = some tt) → RpK g F H d v T → LP.persK d = true
  | [], v, T, _, _, h => by simp only [LP.persK]
  | (k, d) :: ds, v, T, z, hk, h => by
    simp only [RpK, LP.persK, Bool.and_eq_true] at h ⊢
    obtain ⟨v, r, T1, T2, e, h1, h2, h3, h4⟩ := h
    have hk' : LP.pers k = true ∧ ((∃ kk, kD ds = some kk) ∨ ∃ tt, tD ds = some tt) := by
      rcases hk with ⟨kk, ek⟩ | ⟨tt, et⟩
      · simp only [kD] at ek
        split at ek
        · rename_i k1 k2 e1 e2
          refine ⟨?_, .inl ⟨_, e2⟩⟩
          cases k <;> first | (simp only [LP.pers]; done) | (simp [keyD] at e1)
        · cases ek
      · simp only [tD] at et
        split at et
        · rename_i k1 k2 e1 e2
          refine ⟨?_, .inr ⟨_, e2⟩⟩
          cases k with
          | tup ks =>
            simp only [LP.pers]
            have aux : ∀ (l : List D) (q : List Key), keysD l = some q → LP.persL l = true := by
              intro l
              induction l with
              | nil => intro q _; simp only [LP.persL]
              | cons x l ih =>
                intro q hq
                simp only [keysD] at hq
                split at hq
                · rename_i a1 a2 e3 e4
                  simp only [LP.persL, Bool.and_eq_true]
                  refine ⟨?_, ih _ e4⟩
                  cases x <;> first | (simp only [LP.pers]; done) | (simp [keyD] at e3)
                · cases hq
            exact aux ks _ e1
          | _ => simp [tkD] at e1
        · cases et
    exact ⟨⟨hk'.1, pers_of d v (h1.mono fun b hb => z b (h3 b hb).1)⟩, persK_of ds r T2 (fun b hb => z b (h4 b hb)) hk'.2 h2⟩
theorem persF_of : ∀ (d : List (Nat × D)) (v : List V) (T : AS), (∀ b, ¬ T b) → RpF g F H d v T → LP.persF d = true
  | [], v, T, _, h => by simp only [LP.persF]
  | (_, d) :: ds, v, T, z, h => by
    simp only [RpF, LP.persF, Bool.and_eq_true] at h ⊢
    obtain ⟨v, r, T1, T2, e, h1, h2, h3, h4⟩ := h
    exact ⟨pers_of d v (h1.mono fun b hb => z b (h3 b hb).1), persF_of ds r T2 (fun b hb => z b (h4 b hb)) h2⟩
end

/-! ### lists of values -/
theorem RpL.get : ∀ {ds : List D} {vs : List V} {T : AS} {n : Nat} {d : D}, RpL g F H ds vs T → ds[n]? = some d → ∃ v, vs[n]? = some v ∧ Rp g F H d v T
  | d :: ds, vs, T, 0, e, h, hn => by
    simp only [RpL] at h
    obtain ⟨v, r, T1, T2, rfl, h1, h2, h3, h4⟩ := h
    simp only [List.getElem?_cons_zero, Option.some.injEq] at hn
    subst hn
    exact ⟨v, by simp, h1.mono fun b hb => (h3 b hb).1⟩
  | d :: ds, vs, T, n + 1, e, h, hn => by
    simp only [RpL] at h
    obtain ⟨v, r, T1, T2, rfl, h1, h2, h3, h4⟩ := h
    simp only [List.getElem?_cons_succ] at hn
    obtain ⟨w, hw, q⟩ := RpL.get h2 hn
    exact ⟨w, by simpa using hw, q.mono h4⟩
theorem RpL.foc : ∀ {ds : List D} {vs : List V} {U : AS} {n : Nat} {e : D}, RpL g F H ds vs U → Gd U F H → ds[n]? = some e → ∃ v T, vs[n]? = some v ∧ Rp g F H e v T ∧ (∀ b, T b → U b) ∧
    ∀ F' H' e' T', Kp T F F' H H' → Rp g F' H' e' v T' → (∀ b, T' b → T b ∨ ¬ U b) → RpL g F' H' (ds.set n e') vs (fun b => (U b ∧ ¬ T b) ∨ T' b)
  | d :: ds, vs, U, 0, e, h, gd, hn => by
    simp only [RpL] at h
    obtain ⟨v, r, T1, T2, rfl, h1, h2, h3, h4⟩ := h
    simp only [List.getElem?_cons_zero, Option.some.injEq] at hn
    subst hn
    refine ⟨v, T1, by simp, h1, fun b hb => (h3 b hb).1, fun F' H' e' T' k q hT => ?_⟩
    simp only [List.set_cons_zero, RpL]
    refine ⟨v, r, T', T2, rfl, q, RpL.keep k (fun b hb => gd b (h3 b hb).1) ds r T2 (fun b h2 h1 => (h3 b h1).2 h2) h2, fun b hb => ⟨.inr hb, fun hz => ?_⟩, fun b hb => .inl ⟨h4 b hb, fun hz => (h3 b hz).2 hb⟩⟩
    rcases hT b hb with z | z
    · exact (h3 b z).2 hz
    · exact z (h4 b hz)
  | d :: ds, vs, U, n + 1, e, h, gd, hn => by
    simp only [RpL] at h
    obtain ⟨v, r, T1, T2, rfl, h1, h2, h3, h4⟩ := h
    simp only [List.getElem?_cons_succ] at hn
    obtain ⟨w, T, hw, q, hs, up⟩ := RpL.foc h2 (fun b hb => gd b (h4 b hb)) hn
    refine ⟨w, T, by simpa using hw, q, fun b hb => h4 b (hs b hb), fun F' H' e' T' k q' hT => ?_⟩
    simp only [List.set_cons_succ, RpL]
    refine ⟨v, r, T1, _, rfl, Rp.keep k (fun b hb => gd b (h4 b (hs b hb))) d v T1 (fun b hb hz => (h3 b hb).2 (hs b hz)) h1, up F' H' e' T' k q' (fun b hb => (hT b hb).imp_right fun z y => z (h4 b y)), fun b hb => ⟨.inl ⟨(h3 b hb).1, fun hz => (h3 b hb).2 (hs b hz)⟩, ?_⟩, fun b hb => ?_⟩
    · rintro (⟨z, _⟩ | z)
      · exact (h3 b hb).2 z
      · rcases hT b z with z | z
        · exact (h3 b hb).2 (hs b z)
        · exact z (h3 b hb).1
    · rcases hb with ⟨z, y⟩ | z
      · exact .inl ⟨h4 b z, y⟩
      · exact .inr z

/-! ### dicts, attributes by place -/
theorem look_ix : ∀ {ks : List (D × D)} {k e : D}, look ks k = some e → ∃ n, (ks.map (·.2))[n]? = some e ∧ (∃ k', ks[n]? = some (k', e) ∧ LP.eqv k' k = true) ∧ (∀ m k' e', m < n → ks[m]? = some (k', e') → LP.eqv k' k = false) ∧
    ∀ e', (put ks k e').map (·.2) = (ks.map (·.2)).set n e' ∧ kD (put ks k e') = kD ks ∧ tD (put ks k e') = tD ks
  | (k0, v) :: r, k, e, h => by
    simp only [look] at h
    by_cases q : LP.eqv k0 k = true
    · rw [if_pos q] at h
      cases h
      exact ⟨0, by simp, ⟨k0, by simp, q⟩, fun m _ _ hm => absurd hm (Nat.not_lt_zero _), fun e' => by simp [put, q, kD, tD]⟩
    · rw [if_neg q] at h
      obtain ⟨n, h1, ⟨k', h2, h3⟩, h4, h5⟩ := look_ix h
      refine ⟨n + 1, by simpa using h1, ⟨k', by simpa using h2, h3⟩, fun m k1 e1 hm hk => ?_, fun e' => ?_⟩
      · cases m with
        | zero =>
          simp only [List.getElem?_cons_zero, Option.some.injEq, Prod.mk.injEq] at hk
          rw [← hk.1]
          simpa using q
        | succ m => exact h4 m k1 e1 (by omega) (by simpa using hk)
      · obtain ⟨a, b, c⟩ := h5 e'
        simp only [put, if_neg q, List.map_cons, List.set_cons_succ, a, kD, tD, b, c, and_self]
theorem lookF_ix : ∀ {fs : List (Nat × D)} {f : Nat} {e : D}, lookF fs f = some e → ∃ n, (fs.map (·.2))[n]? = some e ∧ fs[n]? = some (f, e) ∧ (∀ m p, m < n → fs[m]? = some p → p.1 ≠ f) ∧
    ∀ e', (setF fs f e').map (·.2) = (fs.map (·.2)).set n e' ∧ (setF fs f e').map (·.1) = fs.map (·.1)
  | (k0, v) :: r, k, e, h => by
    simp only [lookF] at h
    by_cases q : k0 = k
    · rw [if_pos q] at h
      cases h
      subst q
      exact ⟨0, by simp, by simp, fun m _ hm => absurd hm (Nat.not_lt_zero _), fun e' => by simp [setF]⟩
    · rw [if_neg q] at h
      obtain ⟨n, h1, h2, h4, h5⟩ := lookF_ix h
      refine ⟨n + 1, by simpa using h1, by simpa using h2, fun m p hm hk => ?_, fun e' => ?_⟩
      · cases m with
        | zero =>
          simp only [List.getElem?_cons_zero, Option.some.injEq] at hk
          rw [← hk]
          exact q
        | succ m => exact h4 m p (by omega) (by simpa using hk)
      · obtain ⟨a, b⟩ := h5 e'
        simp only [setF, if_neg q, List.map_cons, List.set_cons_succ, a, b, and_self]

/-- the child of the object at a by a step -/
def ChV (g : Gk) (H : Hp) (a : Addr) (e : V) : Stp → Prop
  | .ix n => ∃ vs, H a = some (.lst vs) ∧ vs[n]? = some e
  | .at f => ∃ (C dx : Addr) (ns : List PySem.Str) (vs : List V) (n : Nat), H a = some (.ins C dx (ns.zip vs)) ∧ ns[n]? = some (g.an f) ∧ (∀ m, m < n → ns[m]? ≠ some (g.an f)) ∧ vs[n]? = some e
  | .ky k => (∃ (kk : List Key) (vs : List V) (n : Nat) (q : Key), Rd H a (.dK (kk.zip vs)) ∧ keyD k = some q ∧ kk[n]? = some q ∧ (∀ m, m < n → kk[m]? ≠ some q) ∧ vs[n]? = some e) ∨
      (∃ (kk : List (List Key)) (vs : List V) (n : Nat) (q : List Key), Rd H a (.dT (kk.zip vs)) ∧ tkD k = some q ∧ kk[n]? = some q ∧ (∀ m, m < n → kk[m]? ≠ some q) ∧ vs[n]? = some e)
/-- the value at a path -/
def WkV (g : Gk) (H : Hp) : V → List Stp → V → Prop
  | r, [], v => r = v
  | r, s :: p, v => ∃ a e, r = .ref a ∧ ChV g H a e s ∧ WkV g H e p v
theorem zip_inj {α β : Type} : ∀ {a a' : List α} {b b' : List β}, a.length = b.length → a'.length = b'.length → a.zip b = a'.zip b' → a = a' ∧ b = b'
  | [], a', [], b', _, h', e => by
    cases a' with
    | nil => cases b' with
      | nil => exact ⟨rfl, rfl⟩
      | cons _ _ => simp at h'
    | cons x a' => cases b' with
      | nil => simp at h'
      | cons _ _ => simp at e
  | x :: a, a', y :: b, b', h, h', e => by
    cases a' with
    | nil => simp at e
    | cons x' a' => cases b' with
      | nil => simp at e
      | cons y' b' =>
        simp only [List.zip_cons_cons, List.cons.injEq, Prod.mk.injEq] at e
        obtain ⟨rfl, rfl⟩ := zip_inj (by simpa using h) (by simpa using h') e.2
        rw [e.1.1, e.1.2]
        exact ⟨rfl, rfl⟩
theorem first_uniq {α : Type} [DecidableEq α] {l : List α} {x : α} {n m : Nat} (h1 : l[n]? = some x) (h2 : ∀ k, k < n → l[k]? ≠ some x) (h3 : l[m]? = some x) (h4 : ∀ k, k < m → l[k]? ≠ some x) : n = m := by
  rcases Nat.lt_trichotomy n m with h | h | h
  · exact absurd h1 (h4 _ h)
  · exact h
  · exact absurd h3 (h2 _ h)
theorem zip_ix {α β : Type} {ns : List α} {vs : List β} {n : Nat} {x : α} {e : β} (h1 : ns[n]? = some x) (h2 : vs[n]? = some e) : (ns.zip vs)[n]? = some (x, e) := by
  rw [List.getElem?_zip_eq_some]; exact ⟨h1, h2⟩
theorem zip_first {α β : Type} : ∀ {ns ns' : List α} {vs vs' : List β} {n m : Nat} {x : α} {e e' : β}, ns.zip vs = ns'.zip vs' → ns[n]? = some x → (∀ k, k < n → ns[k]? ≠ some x) → vs[n]? = some e →
    ns'[m]? = some x → (∀ k, k < m → ns'[k]? ≠ some x) → vs'[m]? = some e' → e = e' := by
  intro ns ns' vs vs' n m x e e' hz h1 h2 h3 h4 h5 h6
  have z1 := zip_ix h1 h3
  have z2 := zip_ix h4 h6
  rcases Nat.lt_trichotomy n m with h | h | h
  · rw [hz] at z1
    exact absurd (List.getElem?_zip_eq_some.mp z1).1 (h5 _ h)
  · subst h
    rw [hz, z2] at z1
    simp only [Option.some.injEq, Prod.mk.injEq] at z1
    exact z1.2.symm
  · rw [← hz] at z2
    exact absurd (List.getElem?_zip_eq_some.mp z2).1 (h2 _ h)
theorem rd_one {a : Addr} {u u' : HO} (h : Rd H a u) (h' : Rd H a u') (hn : ∀ o v, u ≠ .frz o v := by intro _ _ z; cases z) (hn' : ∀ o v, u' ≠ .frz o v := by intro _ _ z; cases z) : u = u' := by
  rcases h with h | ⟨o, h⟩ <;> rcases h' with h' | ⟨o', h'⟩ <;> rw [h] at h'
  · exact Option.some.inj h'
  · exact absurd (Option.some.inj h') (hn _ _)
  · exact absurd (Option.some.inj h').symm (hn' _ _)
  · have := Option.some.inj h'
    cases this; rfl
theorem ChV.det {a : Addr} {s : Stp} {e e' : V} (h : ChV g H a e s) (h' : ChV g H a e' s) : e = e' := by
  cases s with
  | ix n =>
    obtain ⟨vs, h1, h2⟩ := h
    obtain ⟨vs', h1', h2'⟩ := h'
    rw [h1] at h1'; cases h1'
    rw [h2] at h2'; cases h2'
    rfl
  | «at» f =>
    obtain ⟨C, dx, ns, vs, n, h1, h2, h3, h4⟩ := h
    obtain ⟨C', dx', ns', vs', n', h1', h2', h3', h4'⟩ := h'
    rw [h1] at h1'
    simp only [Option.some.injEq, HO.ins.injEq] at h1'
    exact zip_first h1'.2.2 h2 h3 h4 h2' h3' h4'
  | ky k =>
    rcases h with ⟨kk, vs, n, q, h1, hq, h2, h3, h4⟩ | ⟨kk, vs, n, q, h1, hq, h2, h3, h4⟩
    · rcases h' with ⟨kk', vs', n', q', h1', hq', h2', h3', h4'⟩ | ⟨kk', vs', n', q', h1', hq', h2', h3', h4'⟩
      · have h1' := rd_one h1 h1'
        simp only [HO.dK.injEq] at h1'
        rw [hq] at hq'; cases hq'
        exact zip_first h1' h2 h3 h4 h2' h3' h4'
      · cases rd_one h1 h1'
    · rcases h' with ⟨kk', vs', n', q', h1', hq', h2', h3', h4'⟩ | ⟨kk', vs', n', q', h1', hq', h2', h3', h4'⟩
      · cases rd_one h1 h1'
      · have h1' := rd_one h1 h1'
        simp only [HO.dT.injEq] at h1'
        rw [hq] at hq'; cases hq'
        exact zip_first h1' h2 h3 h4 h2' h3' h4'
theorem WkV.det : ∀ {p : List Stp} {r v v' : V}, WkV g H r p v → WkV g H r p v' → v = v'
  | [], r, v, v', h, h' => by
    have h : r = v := h
    have h' : r = v' := h'
    rw [← h, ← h']
  | s :: p, r, v, v', h, h' => by
    obtain ⟨a, e, h1, h2, h3⟩ := h
    obtain ⟨a', e', h1', h2', h3'⟩ := h'
    rw [h1] at h1'; cases h1'
    obtain rfl := h2.det h2'
    exact h3.det h3'
theorem ChV.same {a : Addr} {s : Stp} {e : V} (hs : H' a = H a) (h : ChV g H a e s) : ChV g H' a e s := by
  cases s with
  | ix n => simpa only [ChV, hs] using h
  | «at» f => simpa only [ChV, hs] using h
  | ky k => simpa only [ChV, Rd, hs] using h
end
end LPS

set_option autoImplicit false
set_option linter.all false
set_option maxRecDepth 100000
/-! the focus: what stands at a place may be exchanged -/
namespace LPS
open PySem L2 LP
section
variable {g : Gk} {F F' : AS} {H H' : Hp}
theorem sV_inj {a b : List Nat} (h : sV a = sV b) : a = b := by
  have : a.toArray = b.toArray := congrArg PySem.Str.cps h
  simpa using congrArg Array.toList this
theorem keyD_eqv {a b : D} {q : Key} (h : keyD a = some q) (h' : keyD b = some q) : LP.eqv a b = true := by
  cases a <;> simp only [keyD, Option.some.injEq, reduceCtorEq] at h
  all_goals cases b <;> simp only [keyD, Option.some.injEq, reduceCtorEq] at h' <;> subst h <;> simp only [Sum.inl.injEq, Sum.inr.injEq, reduceCtorEq] at h'
  · subst h'; simp [LP.eqv]
  · rw [sV_inj h']; simp [LP.eqv]
theorem keyD_of {a b : D} {q : Key} (h : keyD a = some q) (hb : keyOk b = true) (he : LP.eqv a b = true) : keyD b = some q := by
  cases a <;> simp only [keyD, Option.some.injEq, reduceCtorEq] at h
  all_goals cases b <;> simp [LP.eqv, keyOk] at he hb <;> subst h <;> simp [keyD, he]
theorem keysD_eqv : ∀ {a b : List D} {q : List Key}, keysD a = some q → keysD b = some q → LP.eqvL a b = true
  | [], b, q, h, h' => by
    simp only [keysD, Option.some.injEq] at h
    subst h
    cases b with
    | nil => simp [LP.eqvL]
    | cons x b =>
      simp only [keysD] at h'
      split at h' <;> simp at h'
  | x :: a, b, q, h, h' => by
    simp only [keysD] at h
    split at h
    · rename_i k ks e1 e2
      cases h
      cases b with
      | nil => simp [keysD] at h'
      | cons y b =>
        simp only [keysD] at h'
        split at h'
        · rename_i k' ks' e3 e4
          simp only [Option.some.injEq, List.cons.injEq] at h'
          obtain ⟨rfl, rfl⟩ := h'
          simp [LP.eqvL, keyD_eqv e1 e3, keysD_eqv e2 e4]
        · cases h'
    · cases h
theorem keysD_of : ∀ {a b : List D} {q : List Key}, keysD a = some q → keyOkL b = true → LP.eqvL a b = true → keysD b = some q
  | [], b, q, h, hb, he => by
    cases b with
    | nil => exact h
    | cons _ _ => simp [LP.eqvL] at he
  | x :: a, b, q, h, hb, he => by
    simp only [keysD] at h
    split at h
    · rename_i k ks e1 e2
      cases h
      cases b with
      | nil => simp [LP.eqvL] at he
      | cons y b =>
        simp only [LP.eqvL, keyOkL, Bool.and_eq_true] at he hb
        simp only [keysD, keyD_of e1 hb.1 he.1, keysD_of e2 hb.2 he.2]
    · cases h
theorem tkD_eqv {a b : D} {q : List Key} (h : tkD a = some q) (h' : tkD b = some q) : LP.eqv a b = true := by
  cases a <;> simp only [tkD, reduceCtorEq] at h
  cases b <;> simp only [tkD, reduceCtorEq] at h'
  simp [LP.eqv, keysD_eqv h h']
theorem tkD_of {a b : D} {q : List Key} (h : tkD a = some q) (hb : keyOk b = true) (he : LP.eqv a b = true) : tkD b = some q := by
  cases a <;> simp only [tkD, reduceCtorEq] at h
  cases b <;> simp [LP.eqv, keyOk] at he hb
  exact keysD_of h hb he
theorem kD_get : ∀ {ks : List (D × D)} {kk : List Key} {n : Nat} {k e : D}, kD ks = some kk → ks[n]? = some (k, e) → ∃ q, keyD k = some q ∧ kk[n]? = some q
  | (k0, v) :: ks, kk, n, k, e, h, hn => by
    simp only [kD] at h
    split at h
    · rename_i a b e1 e2
      cases h
      cases n with
      | zero =>
        simp only [List.getElem?_cons_zero, Option.some.injEq, Prod.mk.injEq] at hn
        rw [← hn.1]
        exact ⟨a, e1, by simp⟩
      | succ n =>
        obtain ⟨q, h1, h2⟩ := kD_get e2 (by simpa using hn)
        exact ⟨q, h1, by simpa using h2⟩
    · cases h
theorem tD_get : ∀ {ks : List (D × D)} {kk : List (List Key)} {n : Nat} {k e : D}, tD ks = some kk → ks[n]? = some (k, e) → ∃ q, tkD k = some q ∧ kk[n]? = some q
  | (k0, v) :: ks, kk, n, k, e, h, hn => by
    simp only [tD] at h
    split at h
    · rename_i a b e1 e2
      cases h
      cases n with
      | zero =>
        simp only [List.getElem?_cons_zero, Option.some.injEq, Prod.mk.injEq] at hn
        rw [← hn.1]
        exact ⟨a, e1, by simp⟩
      | succ n =>
        obtain ⟨q, h1, h2⟩ := tD_get e2 (by simpa using hn)
        exact ⟨q, h1, by simpa using h2⟩
    · cases h
theorem kD_len : ∀ {ks : List (D × D)} {kk : List Key}, kD ks = some kk → kk.length = ks.length
  | [], kk, h => by simp only [kD, Option.some.injEq] at h; subst h; rfl
  | (k, d) :: ks, kk, h => by
    simp only [kD] at h
    split at h
    · rename_i a b e1 e2
      cases h
      simp [kD_len e2]
    · cases h
theorem tD_len : ∀ {ks : List (D × D)} {kk : List (List Key)}, tD ks = some kk → kk.length = ks.length
  | [], kk, h => by simp only [tD, Option.some.injEq] at h; subst h; rfl
  | (k, d) :: ks, kk, h => by
    simp only [tD] at h
    split at h
    · rename_i a b e1 e2
      cases h
      simp [tD_len e2]
    · cases h
theorem isK_ok {k : D} (h : isK k = true) : keyOk k = true := by cases k <;> simp [isK, keyOk] at h ⊢
theorem isTK_ok {k : D} (h : isTK k = true) : keyOk k = true := by
  cases k <;> simp only [isTK, Bool.false_eq_true, keyOk] at h ⊢
  rename_i ds
  induction ds with
  | nil => rfl
  | cons d ds ih =>
    simp only [List.all_cons, Bool.and_eq_true] at h
    simp only [keyOkL, Bool.and_eq_true]
    exact ⟨isK_ok h.1, ih h.2⟩
theorem kFit_ok {ks : List (D × D)} {k : D} (h : kFit ks k = true) : keyOk k = true := by
  simp only [kFit, Bool.or_eq_true, Bool.and_eq_true] at h
  rcases h with h | h
  · exact isK_ok h.1
  · exact isTK_ok h.1
theorem some_of_lt {α : Type} {l : List α} {n : Nat} (h : n < l.length) : ∃ x, l[n]? = some x := ⟨l[n], by simp [h]⟩

theorem pers_get {r e : D} {s : Stp} (h : getS r s = some e) (p : LP.pers r = true) : LP.pers e = true := by
  have lst : ∀ {ds : List D} {n : Nat} {e : D}, LP.persL ds = true → ds[n]? = some e → LP.pers e = true := by
    intro ds
    induction ds with
    | nil => intro n e _ h; simp at h
    | cons d ds ih =>
      intro n e p h
      simp only [LP.persL, Bool.and_eq_true] at p
      cases n with
      | zero => simp only [List.getElem?_cons_zero, Option.some.injEq] at h; rw [← h]; exact p.1
      | succ n => exact ih p.2 (by simpa using h)
  cases r <;> cases s <;> simp only [getS, reduceCtorEq] at h
  · simp only [LP.pers] at p; exact lst p h
  · simp only [LP.pers, Bool.and_eq_true] at p; exact lst p.2 h
  · rename_i o ks k
    split at h
    · obtain ⟨n, h1, _⟩ := look_ix h
      simp only [LP.pers, Bool.and_eq_true] at p
      have q : ∀ (l : List (D × D)), LP.persK l = true → LP.persL (l.map (·.2)) = true := by
        intro l
        induction l with
        | nil => intro _; rfl
        | cons x l ih =>
          intro h
          obtain ⟨k, d⟩ := x
          simp only [LP.persK, Bool.and_eq_true] at h
          simp [LP.persL, h.1.2, ih h.2]
      exact lst (q _ p.2) h1
    · cases h
  · rename_i o c fs f
    obtain ⟨n, h1, _⟩ := lookF_ix h
    simp only [LP.pers, Bool.and_eq_true] at p
    have q : ∀ (l : List (Nat × D)), LP.persF l = true → LP.persL (l.map (·.2)) = true := by
      intro l
      induction l with
      | nil => intro _; rfl
      | cons x l ih =>
        intro h
        obtain ⟨k, d⟩ := x
        simp only [LP.persF, Bool.and_eq_true] at h
        simp [LP.persL, h.1, ih h.2]
    exact lst (q _ p.2) h1
theorem pers_getP : ∀ {p : List Stp} {r d : D}, getP r p = some d → LP.pers r = true → LP.pers d = true
  | [], r, d, h, q => by simp only [getP, Option.some.injEq] at h; rw [← h]; exact q
  | s :: p, r, d, h, q => by
    simp only [getP] at h
    split at h
    · rename_i e he
      exact pers_getP h (pers_get he q)
    · cases h

theorem put_same {ks : List (D × D)} {k e e' : D} (h : look ks k = some e) : (put ks k e').length = ks.length := by
  obtain ⟨n, _, _, _, h5⟩ := look_ix h
  have := congrArg List.length (h5 e').1
  simpa using this
/-- the child of an owned container, and its exchange -/
theorem Rp.child (inj : ∀ i j, g.an i = g.an j → i = j) {r e : D} {vr : V} {T : AS} {s : Stp} (h : Rp g F H r vr T) (gd : Gd T F H) (hg : getS r s = some e) (np : LP.pers e = false) :
    ∃ a ve U, vr = .ref a ∧ T a ∧ (∀ H', H' a = H a → ChV g H' a ve s) ∧ Rp g F H e ve U ∧ (∀ b, U b → T b ∧ b ≠ a) ∧
      ∀ F' H' e' U' r', Kp U F F' H H' → Rp g F' H' e' ve U' → (∀ b, U' b → U b ∨ ¬ T b) → setS r s e' = some r' → Rp g F' H' r' vr (fun b => (T b ∧ ¬ U b) ∨ U' b) := by
  have nf : ∀ b, T b → H b ≠ none := fun b hb z => by
    obtain ⟨o, eo, _⟩ := (gd b hb).2
    rw [z] at eo; cases eo
  cases r <;> cases s <;> simp only [getS, reduceCtorEq] at hg
  · -- a tuple: its items are persistent
    rename_i ds n
    simp only [Rp] at h
    obtain ⟨a, vs, rfl, hs, hr⟩ := h
    obtain ⟨v, _, hv⟩ := hr.get hg
    rw [pers_of _ _ hv] at np; cases np
  · rename_i o ds n
    simp only [Rp] at h
    obtain ⟨a, vs, U, rfl, hr, hU, hc, ht⟩ := h
    cases o with
    | false =>
      obtain ⟨v, _, hv⟩ := hr.get hg
      rw [pers_of _ _ (hv.mono fun b hb => (ht.2 b hb).elim)] at np; cases np
    | true =>
      have ht : T a := ht
      obtain ⟨ve, Te, h1, h2, h3, up⟩ := hr.foc (fun b hb => gd b (hU b hb).1) hg
      refine ⟨a, ve, Te, rfl, ht, fun H' e => ⟨vs, by rw [e]; exact hc, h1⟩, h2, fun b hb => hU b (h3 b hb), fun F' H' e' U' r' k q hT hs => ?_⟩
      simp only [setS] at hs
      split at hs
      · cases hs
        simp only [Rp]
        refine ⟨a, vs, _, rfl, up F' H' e' U' k q (fun b hb => (hT b hb).imp_right fun z y => z (hU b y).1), ?_, k.keep _ _ hc fun z => (hU _ (h3 _ z)).2 rfl, ?_⟩
        · rintro b (⟨z, y⟩ | z)
          · exact ⟨.inl ⟨(hU b z).1, y⟩, (hU b z).2⟩
          · refine ⟨.inr z, ?_⟩
            rcases hT b z with z | z
            · exact (hU b (h3 b z)).2
            · rintro rfl; exact z ht
        · simp only [if_true]
          exact .inl ⟨ht, fun z => (hU _ (h3 _ z)).2 rfl⟩
      · cases hs
  · rename_i o ks k
    split at hg
    · rename_i hk0
      have hk := kFit_ok hk0
      obtain ⟨n, i1, ⟨k', i2, i3⟩, i4, i5⟩ := look_ix hg
      simp only [Rp, RpK_iff] at h
      obtain ⟨a, vs, U, rfl, hr, hU, hc, ht⟩ := h
      cases o with
      | false =>
        obtain ⟨v, _, hv⟩ := hr.get i1
        rw [pers_of _ _ (hv.mono fun b hb => (ht.2 b hb).elim)] at np; cases np
      | true =>
        obtain ⟨ve, Te, h1, h2, h3, up⟩ := hr.foc (fun b hb => gd b (hU b hb).1) i1
        have hnf : NFz H a := ht.2
        have ht : T a := ht.1
        refine ⟨a, ve, Te, rfl, ht, fun H' e => ?_, h2, fun b hb => hU b (h3 b hb), fun F' H' e' U' r' kp q hT hs => ?_⟩
        · rcases hc with ⟨kk, e1, _, e2⟩ | ⟨kk, e1, _, e2⟩
          · obtain ⟨q, q1, q2⟩ := kD_get e1 i2
            refine .inl ⟨kk, vs, n, q, rd_at (fun o' z => e.trans z) e2, keyD_of q1 hk i3, q2, fun m hm z => ?_, h1⟩
            have hl : m < ks.length := by
              have := (List.getElem?_eq_some_iff.mp i2).1
              omega
            obtain ⟨⟨k1, d1⟩, hx⟩ := some_of_lt hl
            obtain ⟨q', q3, q4⟩ := kD_get e1 hx
            rw [q4] at z; cases z
            have := i4 m k1 d1 hm hx
            rw [keyD_eqv q3 (keyD_of q1 hk i3)] at this; cases this
          · obtain ⟨q, q1, q2⟩ := tD_get e1 i2
            refine .inr ⟨kk, vs, n, q, rd_at (fun o' z => e.trans z) e2, tkD_of q1 hk i3, q2, fun m hm z => ?_, h1⟩
            have hl : m < ks.length := by
              have := (List.getElem?_eq_some_iff.mp i2).1
              omega
            obtain ⟨⟨k1, d1⟩, hx⟩ := some_of_lt hl
            obtain ⟨q', q3, q4⟩ := tD_get e1 hx
            rw [q4] at z; cases z
            have := i4 m k1 d1 hm hx
            rw [tkD_eqv q3 (tkD_of q1 hk i3)] at this; cases this
        · simp only [setS] at hs
          split at hs
          case isFalse => cases hs
          cases hs
          obtain ⟨j1, j2, j3⟩ := i5 e'
          simp only [Rp, RpK_iff]
          refine ⟨a, vs, _, rfl, by rw [j1]; exact up F' H' e' U' kp q (fun b hb => (hT b hb).imp_right fun z y => z (hU b y).1), ?_, ?_, ?_⟩
          · rintro b (⟨z, y⟩ | z)
            · exact ⟨.inl ⟨(hU b z).1, y⟩, (hU b z).2⟩
            · refine ⟨.inr z, ?_⟩
              rcases hT b z with z | z
              · exact (hU b (h3 b z)).2
              · rintro rfl; exact z ht
          · have : DcAt H' a ks vs := dcAt_at (fun o h => kp.keep _ _ h fun z => (hU _ (h3 _ z)).2 rfl) hc
            unfold DcAt at this ⊢
            rw [j2, j3]
            exact this
          · simp only [if_true]
            refine ⟨.inl ⟨ht, fun z => (hU _ (h3 _ z)).2 rfl⟩, fun ob u z => ?_⟩
            obtain ⟨w, hw⟩ := hc.some
            rw [kp.keep _ _ hw fun z => (hU _ (h3 _ z)).2 rfl] at z
            cases z
            exact hnf _ _ hw
    · cases hg
  · rename_i o c fs f
    obtain ⟨n, i1, i2, i4, i5⟩ := lookF_ix hg
    simp only [Rp, RpF_iff] at h
    obtain ⟨a, vs, U, rfl, hr, hU, ⟨dx, hc⟩, ht⟩ := h
    cases o with
    | false =>
      obtain ⟨v, _, hv⟩ := hr.get i1
      rw [pers_of _ _ (hv.mono fun b hb => (ht.2 b hb).elim)] at np; cases np
    | true =>
      obtain ⟨ve, Te, h1, h2, h3, up⟩ := hr.foc (fun b hb => gd b (hU b hb).1) i1
      have ht : T a := ht
      refine ⟨a, ve, Te, rfl, ht, fun H' e => ?_, h2, fun b hb => hU b (h3 b hb), fun F' H' e' U' r' kp q hT hs => ?_⟩
      · refine ⟨_, dx, _, vs, n, by rw [e]; exact hc, by rw [List.getElem?_map, i2]; rfl, fun m hm z => ?_, h1⟩
        rw [List.getElem?_map] at z
        cases hx : fs[m]? with
        | none => rw [hx] at z; cases z
        | some p =>
          rw [hx] at z
          simp only [Option.map_some, Option.some.injEq] at z
          exact i4 m p hm hx (inj _ _ z)
      · simp only [setS, Option.some.injEq] at hs
        subst hs
        obtain ⟨j1, j2⟩ := i5 e'
        simp only [Rp, RpF_iff]
        refine ⟨a, vs, _, rfl, by rw [j1]; exact up F' H' e' U' kp q (fun b hb => (hT b hb).imp_right fun z y => z (hU b y).1), ?_, ⟨dx, ?_⟩, ?_⟩
        · rintro b (⟨z, y⟩ | z)
          · exact ⟨.inl ⟨(hU b z).1, y⟩, (hU b z).2⟩
          · refine ⟨.inr z, ?_⟩
            rcases hT b z with z | z
            · exact (hU b (h3 b z)).2
            · rintro rfl; exact z ht
        · have e1 : (setF fs f e').map (fun p => g.an p.1) = fs.map (fun p => g.an p.1) := by
            have := congrArg (List.map g.an) j2
            simpa [List.map_map, Function.comp_def] using this
          rw [e1]
          exact kp.keep _ _ hc fun z => (hU _ (h3 _ z)).2 rfl
        · simp only [if_true]
          exact .inl ⟨ht, fun z => (hU _ (h3 _ z)).2 rfl⟩
/-- what stands at a path of an owned value, and its exchange -/
theorem Rp.foc (inj : ∀ i j, g.an i = g.an j → i = j) : ∀ {p : List Stp} {r d : D} {vr : V} {T : AS}, Rp g F H r vr T → Gd T F H → getP r p = some d → (p = [] ∨ LP.pers d = false) →
    ∃ v U, (∀ H', (∀ b, T b → H' b = H b) → WkV g H' vr p v) ∧ Rp g F H d v U ∧ (∀ b, U b → T b) ∧
      ∀ F' H' d' U' r', Kp U F F' H H' → Rp g F' H' d' v U' → (∀ b, U' b → U b ∨ ¬ T b) → modP r p (fun _ => some d') = some r' → Rp g F' H' r' vr (fun b => (T b ∧ ¬ U b) ∨ U' b)
  | [], r, d, vr, T, h, gd, hg, np => by
    simp only [getP, Option.some.injEq] at hg
    subst hg
    refine ⟨vr, T, fun _ _ => rfl, h, fun _ z => z, fun F' H' d' U' r' k q hT hm => ?_⟩
    simp only [modP, Option.some.injEq] at hm
    subst hm
    exact q.mono fun b hb => .inr hb
  | s :: p, r, d, vr, T, h, gd, hg, np => by
    have np : LP.pers d = false := np.resolve_left (by simp)
    simp only [getP] at hg
    split at hg
    · rename_i e he
      have ne : LP.pers e = false := by
        cases q : LP.pers e with
        | false => rfl
        | true => rw [pers_getP hg q] at np; cases np
      obtain ⟨a, ve, Te, rfl, hTa, ch, h1, h2, up⟩ := h.child inj gd he ne
      obtain ⟨v, U, w, j1, j2, up'⟩ := Rp.foc inj h1 (fun b hb => gd b (h2 b hb).1) hg (.inr np)
      refine ⟨v, U, fun H' hs => ⟨a, ve, rfl, ch H' (hs a hTa), w H' fun b hb => hs b (h2 b hb).1⟩, j1, fun b hb => (h2 b (j2 b hb)).1, fun F' H' d' U' r' k q hT hm => ?_⟩
      simp only [modP, he] at hm
      split at hm
      · rename_i e' he'
        have q1 := up' F' H' d' U' e' k q (fun b hb => (hT b hb).imp_right fun z y => z (h2 b y).1) he'
        have k1 : Kp Te F F' H H' := ⟨fun b o e z => k.keep b o e fun y => z (j2 b y), k.mono, fun b hb => (k.new b hb).imp_right fun z => z.imp_left (j2 b), k.ex⟩
        have q2 := up F' H' e' _ r' k1 q1 (fun b hb => by
          rcases hb with ⟨z, _⟩ | z
          · exact .inl z
          · exact (hT b z).imp_left (j2 b)) hm
        refine q2.mono fun b hb => ?_
        rcases hb with ⟨z, y⟩ | ⟨z, y⟩ | z
        · exact .inl ⟨z, fun w => y (j2 b w)⟩
        · exact .inl ⟨(h2 b z).1, y⟩
        · exact .inr z
      · cases hm
    · cases hg
theorem modP_fun : ∀ {p : List Stp} {r r' : D} {f : D → Option D}, modP r p f = some r' → ∃ d d', getP r p = some d ∧ f d = some d' ∧ modP r p (fun _ => some d') = some r'
  | [], r, r', f, h => by
    simp only [modP] at h
    exact ⟨r, r', rfl, h, rfl⟩
  | s :: p, r, r', f, h => by
    simp only [modP] at h
    split at h
    · rename_i e he
      split at h
      · rename_i e' he'
        obtain ⟨d, d', h1, h2, h3⟩ := modP_fun he'
        exact ⟨d, d', by simp only [getP, he]; exact h1, h2, by simp only [modP, he, h3]; exact h⟩
      · cases h
    · cases h
end
end LPS

set_option autoImplicit false
set_option linter.all false
set_option maxRecDepth 100000
/-! states of LP in the heap -/
namespace LPS
open PySem L2 LP
/-- a frame's slots stand in the heap as told; fp: what each slot holds -/
structure St1 (g : Gk) (F : AS) (H : Hp) (ρ : LP.Env) (σ : St) (fp : Nat → AS) : Prop where
  len : ρ.length = σ.length
  rp : ∀ i d, slotD ρ i = some d → ∃ v, σ[i]? = some (some v) ∧ Rp g F H d v (fp i)
  dis : ∀ i j b, fp i b → fp j b → i = j
  gd : ∀ i b, fp i b → ¬ F b ∧ MuO H b
  lv : ∀ i b, fp i b → ∃ d, slotD ρ i = some d
  fz : ∀ b, F b → H b ≠ none
/-- what the frame may change -/
def Ow (ρ : LP.Env) (fp : Nat → AS) : AS := fun b => ∃ (i : Nat) (d : D), ρ[i]? = some (Sl.ow d) ∧ fp i b
/-- a step of a frame; T: what the value in hand holds -/
structure Ps (g : Gk) (σ : St) (F : AS) (H : Hp) (ρ : LP.Env) (fp : Nat → AS) (F' : AS) (H' : Hp) (ρ' : LP.Env) (fp' : Nat → AS) (T : AS) : Prop where
  st : St1 g F' H' ρ' σ fp'
  kp : Kp (Ow ρ fp) F F' H H'
  fr : ∀ b, Ow ρ' fp' b ∨ T b → Ow ρ fp b ∨ H b = none
  ro : ∀ (i : Nat) (d : D), ρ[i]? = some (Sl.ro d) ↔ ρ'[i]? = some (Sl.ro d)
  rf : ∀ (i : Nat) (d : D), ρ[i]? = some (Sl.ro d) → ∀ b, fp' i b ↔ fp i b
  tg : Gd T F' H'
  td : ∀ i b, fp' i b → ¬ T b
/-- the value in hand -/
def KO (g : Gk) (σ : St) (F : AS) (H : Hp) (ρ : LP.Env) (d : D) (k : Kd) (v : V) (T : AS) : Prop := match k with
  | .val => Rp g F H d v T
  | .vw i p => LP.pers d = false ∧ ∃ r vr, slotD ρ i = some r ∧ σ[i]? = some (some vr) ∧ getP r p = some d ∧ WkV g H vr p v
section
variable {g : Gk} {σ : St} {F F1 F2 : AS} {H H1 H2 : Hp} {ρ ρ1 ρ2 : LP.Env} {fp fp1 fp2 : Nat → AS} {T T1 T2 : AS}
theorem MuO.ne {b : Addr} (h : MuO H b) : H b ≠ none := fun z => by
  obtain ⟨o, e, _⟩ := h
  rw [z] at e; cases e
theorem St1.own_gd (s : St1 g F H ρ σ fp) : Gd (Ow ρ fp) F H := fun b ⟨i, d, _, h⟩ => s.gd i b h
theorem Ps.refl (s : St1 g F H ρ σ fp) : Ps g σ F H ρ fp F H ρ fp e0 :=
  ⟨s, .refl, fun b h => .inl (h.resolve_right fun z => z), fun _ _ => Iff.rfl, fun _ _ _ _ => Iff.rfl, fun _ z => z.elim, fun _ _ _ z => z⟩
theorem Kp.nn (k : Kp T F F1 H H1) {b : Addr} (h : H1 b = none) : H b = none := by
  cases e : H b with
  | none => rfl
  | some o => exact absurd h (k.ex b (by rw [e]; simp))
theorem Ps.trans (a : Ps g σ F H ρ fp F1 H1 ρ1 fp1 T1) (b : Ps g σ F1 H1 ρ1 fp1 F2 H2 ρ2 fp2 T2) : Ps g σ F H ρ fp F2 H2 ρ2 fp2 T2 where
  st := b.st
  kp := by
    refine ⟨fun c o h n => b.kp.keep c o (a.kp.keep c o h n) fun z => (a.fr c (.inl z)).elim n fun w => (by rw [w] at h; cases h), fun c h => b.kp.mono c (a.kp.mono c h), fun c h => ?_, fun c h => b.kp.ex c (a.kp.ex c h)⟩
    rcases b.kp.new c h with h | h | h
    · exact a.kp.new c h
    · exact .inr (a.fr c (.inl h))
    · exact .inr (.inr (Classical.byContradiction fun z => a.kp.ex c z h))
  fr := fun c h => by
    rcases b.fr c h with h | h
    · exact a.fr c (.inl h)
    · exact .inr (a.kp.nn h)
  ro := fun i d => (a.ro i d).trans (b.ro i d)
  rf := fun i d h c => (b.rf i d ((a.ro i d).mp h) c).trans (a.rf i d h c)
  tg := b.tg
  td := b.td
/-- a value in hand of before is as it was, and apart -/
theorem Ps.hold (a : Ps g σ F H ρ fp F1 H1 ρ1 fp1 T1) (b : Ps g σ F1 H1 ρ1 fp1 F2 H2 ρ2 fp2 T2) {d : D} {v : V} (r : Rp g F1 H1 d v T1) : Rp g F2 H2 d v T1 ∧ Ps g σ F H ρ fp F2 H2 ρ2 fp2 (fun x => T1 x ∨ T2 x) ∧ ∀ x, T1 x → ¬ T2 x := by
  have n1 : ∀ x, T1 x → ¬ Ow ρ1 fp1 x := fun x h ⟨i, d, _, z⟩ => a.td i x z h
  have n2 : ∀ x, T1 x → H1 x ≠ none := fun x h => (a.tg x h).2.ne
  have n3 : ∀ x, T1 x → ¬ Ow ρ2 fp2 x ∧ ¬ T2 x := fun x h => ⟨fun z => (b.fr x (.inl z)).elim (n1 x h) (n2 x h), fun z => (b.fr x (.inr z)).elim (n1 x h) (n2 x h)⟩
  have k := (a.trans b)
  refine ⟨Rp.keep b.kp a.st.own_gd d v T1 n1 r, ⟨k.st, k.kp, fun c h => ?_, k.ro, k.rf, fun x h => ?_, fun i x h z => ?_⟩, fun x h => (n3 x h).2⟩
  · rcases h with h | h | h
    · exact k.fr c (.inl h)
    · exact a.fr c (.inr h)
    · exact k.fr c (.inr h)
  · rcases h with h | h
    · obtain ⟨o, e, m⟩ := (a.tg x h).2
      refine ⟨fun z => ?_, o, b.kp.keep x o e (n1 x h), m⟩
      rcases b.kp.new x z with z | z | z
      · exact (a.tg x h).1 z
      · exact n1 x h z
      · exact n2 x h z
    · exact b.tg x h
  · rcases z with z | z
    · -- a slot's footprint that meets T1: of a slot that is its own or read-only
      obtain ⟨d', hd⟩ := b.st.lv i x h
      unfold slotD at hd
      split at hd
      · rename_i d0 e
        exact (n3 x z).1 ⟨i, d0, e, h⟩
      · rename_i d0 e
        have e1 := (b.ro i d0).mpr e
        exact a.td i x ((b.rf i d0 e1 x).mp h) z
      · cases hd
    · exact b.td i x h z
/-- a value in hand of before, and the step's end -/
theorem Ps.weak (a : Ps g σ F H ρ fp F1 H1 ρ1 fp1 T1) (h : ∀ b, T b → T1 b) : Ps g σ F H ρ fp F1 H1 ρ1 fp1 T :=
  ⟨a.st, a.kp, fun b z => a.fr b (z.imp_right (h b)), a.ro, a.rf, fun b z => a.tg b (h b z), fun i b x z => a.td i b x (h b z)⟩
theorem Ps.drop (a : Ps g σ F H ρ fp F1 H1 ρ1 fp1 T1) : Ps g σ F H ρ fp F1 H1 ρ1 fp1 e0 := a.weak fun _ z => z.elim

/-! ### locks -/
theorem get_lock_ne {k : Kd} {j : Nat} (h : ∀ p, k ≠ .vw j p) : (lock k ρ)[j]? = ρ[j]? := by
  unfold lock
  cases k with
  | val => rfl
  | vw i p =>
    have hn : i ≠ j := fun e => h p (by rw [e])
    dsimp only
    split
    · exact List.getElem?_set_ne hn
    · rfl
theorem get_lock {i : Nat} {p : List Stp} {d : D} (h : ρ[i]? = some (Sl.ow d)) : (lock (.vw i p) ρ)[i]? = some (Sl.ro d) := by
  unfold lock
  dsimp only
  rw [h]
  dsimp only
  rw [List.getElem?_set_self (List.getElem?_eq_some_iff.mp h).1]
theorem lock_same {i : Nat} {p : List Stp} (h : ∀ d, ρ[i]? ≠ some (Sl.ow d)) : lock (.vw i p) ρ = ρ := by
  unfold lock
  dsimp only
  split
  · rename_i d e; exact absurd e (h d)
  · rfl
theorem unlock_same {i : Nat} {p : List Stp} (h : ∀ d, ρ[i]? ≠ some (Sl.ow d)) : unlock (.vw i p) ρ ρ1 = ρ1 := by
  unfold unlock
  dsimp only
  split
  · rename_i d e; exact absurd e (h d)
  · rfl
theorem slotD_lock (k : Kd) (i : Nat) : slotD (lock k ρ) i = slotD ρ i := by
  cases k with
  | val => rfl
  | vw j p =>
    by_cases h : ∃ d, ρ[j]? = some (Sl.ow d)
    · obtain ⟨d, h⟩ := h
      by_cases e : i = j
      · subst e
        unfold slotD
        rw [get_lock h, h]
      · unfold slotD
        rw [get_lock_ne (fun q z => e (by cases z; rfl))]
    · rw [lock_same fun d z => h ⟨d, z⟩]
theorem lock_len (k : Kd) : (lock k ρ).length = ρ.length := by
  unfold lock
  cases k with
  | val => rfl
  | vw i p => dsimp only; split <;> simp
theorem St1.lock (s : St1 g F H ρ σ fp) (k : Kd) : St1 g F H (lock k ρ) σ fp :=
  ⟨by rw [lock_len]; exact s.len, fun i d h => s.rp i d (by rwa [slotD_lock] at h), s.dis, s.gd, fun i b h => by rw [slotD_lock]; exact s.lv i b h, s.fz⟩
theorem Ow_lock {k : Kd} {b : Addr} (h : Ow (lock k ρ) fp b) : Ow ρ fp b := by
  obtain ⟨i, d, e, q⟩ := h
  cases k with
  | val => exact ⟨i, d, e, q⟩
  | vw j p =>
    by_cases z : ∃ d, ρ[j]? = some (Sl.ow d)
    · obtain ⟨d', z⟩ := z
      by_cases hj : i = j
      · subst hj
        rw [get_lock z] at e; cases e
      · rw [get_lock_ne (fun q z => hj (by cases z; rfl))] at e
        exact ⟨i, d, e, q⟩
    · rw [lock_same fun d y => z ⟨d, y⟩] at e
      exact ⟨i, d, e, q⟩
theorem unlock_len (k : Kd) : (unlock k ρ ρ1).length = ρ1.length := by
  unfold unlock
  cases k with
  | val => rfl
  | vw i p => dsimp only; split <;> simp
/-- behind a lock -/
theorem Ps.unlock {k : Kd} (a : Ps g σ F H (lock k ρ) fp F1 H1 ρ1 fp1 T) : Ps g σ F H ρ fp F1 H1 (unlock k ρ ρ1) fp1 T := by
  cases k with
  | val => exact a
  | vw i p =>
    by_cases h : ∃ d, ρ[i]? = some (Sl.ow d)
    · obtain ⟨d, h⟩ := h
      have e1 : ρ1[i]? = some (Sl.ro d) := (a.ro i d).mp (get_lock h)
      have il : i < ρ1.length := (List.getElem?_eq_some_iff.mp e1).1
      have eu : LP.unlock (.vw i p) ρ ρ1 = ρ1.set i (Sl.ow d) := by unfold LP.unlock; dsimp only; rw [h]
      have g1 : (ρ1.set i (Sl.ow d))[i]? = some (Sl.ow d) := List.getElem?_set_self il
      have g2 : ∀ j, j ≠ i → (ρ1.set i (Sl.ow d))[j]? = ρ1[j]? := fun j hj => List.getElem?_set_ne (Ne.symm hj)
      have sd : ∀ j, slotD (ρ1.set i (Sl.ow d)) j = slotD ρ1 j := fun j => by
        by_cases hj : j = i
        · subst hj; unfold slotD; rw [g1, e1]
        · unfold slotD; rw [g2 j hj]
      rw [eu]
      refine ⟨⟨by simpa using a.st.len, fun j d' hd => a.st.rp j d' (by rwa [sd] at hd), a.st.dis, a.st.gd, fun j b hb => by rw [sd]; exact a.st.lv j b hb, a.st.fz⟩,
        ⟨fun b o e n => a.kp.keep b o e fun z => n (Ow_lock z), a.kp.mono, fun b z => (a.kp.new b z).imp_right fun y => y.imp_left Ow_lock, a.kp.ex⟩, fun b z => ?_, fun j d' => ?_, fun j d' hd b => ?_, a.tg, a.td⟩
      · rcases z with ⟨j, d', e, q⟩ | z
        · by_cases hj : j = i
          · subst hj
            exact .inl ⟨j, d, h, (a.rf j d (get_lock h) b).mp q⟩
          · rw [g2 j hj] at e
            exact (a.fr b (.inl ⟨j, d', e, q⟩)).imp_left Ow_lock
        · exact (a.fr b (.inr z)).imp_left Ow_lock
      · by_cases hj : j = i
        · subst hj
          simp [h, g1]
        · rw [g2 j hj, ← a.ro j d', get_lock_ne (fun q z => hj (by cases z; rfl))]
      · by_cases hj : j = i
        · subst hj; rw [h] at hd; cases hd
        · exact a.rf j d' (by rw [get_lock_ne (fun q z => hj (by cases z; rfl))]; exact hd) b
    · rw [lock_same fun d y => h ⟨d, y⟩] at a
      rw [unlock_same fun d y => h ⟨d, y⟩]
      exact a
theorem slotD_unlock {k : Kd} (a : Ps g σ F H (LP.lock k ρ) fp F1 H1 ρ1 fp1 T) (j : Nat) : slotD (LP.unlock k ρ ρ1) j = slotD ρ1 j := by
  cases k with
  | val => rfl
  | vw i p =>
    by_cases h : ∃ d, ρ[i]? = some (Sl.ow d)
    · obtain ⟨d, h⟩ := h
      have e1 : ρ1[i]? = some (Sl.ro d) := (a.ro i d).mp (get_lock h)
      have eu : LP.unlock (.vw i p) ρ ρ1 = ρ1.set i (Sl.ow d) := by unfold LP.unlock; dsimp only; rw [h]
      rw [eu]
      by_cases hj : j = i
      · subst hj; unfold slotD; rw [e1, List.getElem?_set_self (List.getElem?_eq_some_iff.mp e1).1]
      · unfold slotD; rw [List.getElem?_set_ne (Ne.symm hj)]
    · rw [unlock_same fun d y => h ⟨d, y⟩]
/-- what a slot's path leads to stays while the slot is not written -/
theorem WkV.stay (inj : ∀ i j, g.an i = g.an j → i = j) (s : St1 g F H ρ σ fp) {i : Nat} {p : List Stp} {r d : D} {vr v : V} (hr : slotD ρ i = some r) (hv : σ[i]? = some (some vr)) (hg : getP r p = some d) (np : LP.pers d = false)
    (w : WkV g H vr p v) (hs : ∀ b, fp i b → H1 b = H b) : WkV g H1 vr p v := by
  obtain ⟨vr', e, q⟩ := s.rp i r hr
  rw [hv] at e; cases e
  obtain ⟨v', U, w', _⟩ := q.foc inj (fun b hb => s.gd i b hb) hg (.inr np)
  obtain rfl := w.det (w' H fun _ _ => rfl)
  exact w' H1 hs
/-- the value in hand can be read -/
theorem KO.rp (inj : ∀ i j, g.an i = g.an j → i = j) (s : St1 g F H ρ σ fp) {d : D} {k : Kd} {v : V} (h : KO g σ F H ρ d k v T) : ∃ U, Rp g F H d v U := by
  cases k with
  | val => exact ⟨T, h⟩
  | vw i p =>
    obtain ⟨np, r, vr, h1, h2, h3, h4⟩ := h
    obtain ⟨vr', e, q⟩ := s.rp i r h1
    rw [h2] at e; cases e
    obtain ⟨v', U, w', q', _⟩ := q.foc inj (fun b hb => s.gd i b hb) h3 (.inr np)
    obtain rfl := h4.det (w' H fun _ _ => rfl)
    exact ⟨U, q'⟩
/-- a value in hand (or a view) stays through a step under its lock -/
theorem KO.stay (inj : ∀ i j, g.an i = g.an j → i = j) {d : D} {k : Kd} {v : V} (a : Ps g σ F H ρ fp F1 H1 ρ1 fp1 T1) (h : KO g σ F1 H1 ρ1 d k v T1) (b : Ps g σ F1 H1 (LP.lock k ρ1) fp1 F2 H2 ρ2 fp2 T2) :
    KO g σ F2 H2 (LP.unlock k ρ1 ρ2) d k v T1 ∧ Ps g σ F H ρ fp F2 H2 (LP.unlock k ρ1 ρ2) fp2 T2 := by
  have b' := b.unlock
  cases k with
  | val => exact ⟨(a.hold b' h).1, a.trans b'⟩
  | vw i p =>
    obtain ⟨np, r, vr, h1, h2, h3, h4⟩ := h
    refine ⟨⟨np, r, vr, ?_, h2, h3, h4.stay inj a.st h1 h2 h3 np fun x hx => ?_⟩, a.trans b'⟩
    · rw [slotD_unlock b]
      have q := slotD_lock (ρ := ρ1) (.vw i p) i
      rw [h1] at q
      -- slot i is read-only in the lock
      have hro : ∃ d', (LP.lock (.vw i p) ρ1)[i]? = some (Sl.ro d') := by
        by_cases z : ∃ d, ρ1[i]? = some (Sl.ow d)
        · obtain ⟨d', z⟩ := z
          exact ⟨d', get_lock z⟩
        · rw [lock_same fun d y => z ⟨d, y⟩]
          unfold slotD at h1
          split at h1
          · rename_i d0 e0; exact absurd ⟨d0, e0⟩ z
          · rename_i d0 e0; exact ⟨d0, e0⟩
          · cases h1
      obtain ⟨d', hro⟩ := hro
      have e2 := (b.ro i d').mp hro
      unfold slotD at q ⊢
      rw [hro] at q
      rw [e2]
      exact q
    · obtain ⟨o, e, _⟩ := (a.st.gd i x hx).2
      rw [e]
      refine b.kp.keep x o e fun ⟨j, d', hj, hx'⟩ => ?_
      have := a.st.dis i j x hx hx'
      subst this
      by_cases z : ∃ d, ρ1[i]? = some (Sl.ow d)
      · obtain ⟨d'', z⟩ := z
        rw [get_lock z] at hj; cases hj
      · rw [lock_same fun d y => z ⟨d, y⟩] at hj
        exact z ⟨d', hj⟩
theorem slotD_ow {i : Nat} {d : D} (h : ρ[i]? = some (Sl.ow d)) : slotD ρ i = some d := by unfold slotD; rw [h]
theorem slotD_ro {i : Nat} {d : D} (h : ρ[i]? = some (Sl.ro d)) : slotD ρ i = some d := by unfold slotD; rw [h]
theorem slotD_set_ne {i j : Nat} {x : Sl} (h : j ≠ i) : slotD (ρ.set i x) j = slotD ρ j := by unfold slotD; rw [List.getElem?_set_ne (Ne.symm h)]
theorem slotD_set {i : Nat} {d : D} (h : i < ρ.length) : slotD (ρ.set i (Sl.ow d)) i = some d := slotD_ow (List.getElem?_set_self h)
/-- one slot's value is exchanged (what is in hand goes with it): the slot's value now holds U -/
theorem Ps.slot {H' : Hp} {F' : AS} {i : Nat} {d d' : D} {vr : V} {U T' : AS} (a : Ps g σ F H ρ fp F1 H1 ρ1 fp1 T1) (h : ρ1[i]? = some (Sl.ow d)) (hv : σ[i]? = some (some vr)) (q : Rp g F' H' d' vr U)
    (k : Kp (fun b => fp1 i b ∨ T1 b) F1 F' H1 H') (hU : ∀ b, U b ∨ T' b → fp1 i b ∨ T1 b ∨ H1 b = none) (hd : ∀ b, U b → ¬ T' b) (gU : Gd U F' H') (gT : Gd T' F' H') (fN : ∀ b, F' b → H1 b = none → H' b ≠ none) :
    Ps g σ F H ρ fp F' H' (ρ1.set i (Sl.ow d')) (fun j => if j = i then U else fp1 j) T' := by
  have il : i < ρ1.length := (List.getElem?_eq_some_iff.mp h).1
  have nro : ∀ d, ρ[i]? ≠ some (Sl.ro d) := fun d z => by rw [a.ro i d, h] at z; cases z
  have own1 : ∀ b, fp1 i b → Ow ρ1 fp1 b := fun b hb => ⟨i, d, h, hb⟩
  have back : ∀ b, fp1 i b ∨ T1 b → Ow ρ fp b ∨ H b = none := fun b hb => a.fr b (hb.imp_left (own1 b))
  have gdA : Gd (fun b => fp1 i b ∨ T1 b) F1 H1 := fun b hb => hb.elim (a.st.gd i b) (a.tg b)
  have oth : ∀ j b, j ≠ i → fp1 j b → ¬ (fp1 i b ∨ T1 b) := fun j b hj hb z => z.elim (fun y => hj (a.st.dis j i b hb y)) (a.td j b hb)
  have hUT : ∀ b, U b ∨ T' b → Ow ρ fp b ∨ H b = none := fun b hb => by
    rcases hU b hb with z | z | z
    · exact back b (.inl z)
    · exact back b (.inr z)
    · exact .inr (a.kp.nn z)
  have othU : ∀ j b, j ≠ i → fp1 j b → ¬ (U b ∨ T' b) := fun j b hj hb z => by
    rcases hU b z with y | y | y
    · exact oth j b hj hb (.inl y)
    · exact oth j b hj hb (.inr y)
    · exact (a.st.gd j b hb).2.ne y
  refine ⟨⟨by simpa using a.st.len, fun j e he => ?_, fun j l b hj hl => ?_, fun j b hj => ?_, fun j b hj => ?_, fun b hb => ?_⟩, ⟨fun b o e n => ?_, fun b hb => k.mono b (a.kp.mono b hb), fun b hb => ?_, fun b hb => k.ex b (a.kp.ex b hb)⟩, fun b hb => ?_, fun j e => ?_, fun j e he b => ?_, gT, fun j b hj z => ?_⟩
  · by_cases hji : j = i
    · subst hji
      rw [slotD_set il] at he
      cases he
      exact ⟨vr, hv, by simpa using q⟩
    · rw [slotD_set_ne hji] at he
      obtain ⟨v, hv', hr⟩ := a.st.rp j e he
      refine ⟨v, hv', ?_⟩
      simp only [if_neg hji]
      exact Rp.keep k gdA e v _ (fun b hb => oth j b hji hb) hr
  · by_cases hji : j = i
    · by_cases hli : l = i
      · rw [hji, hli]
      · simp only [if_pos hji, if_neg hli] at hj hl
        exact absurd (.inl hj) (othU l b hli hl)
    · by_cases hli : l = i
      · simp only [if_pos hli, if_neg hji] at hj hl
        exact absurd (.inl hl) (othU j b hji hj)
      · simp only [if_neg hli, if_neg hji] at hj hl
        exact a.st.dis j l b hj hl
  · by_cases hji : j = i
    · simp only [if_pos hji] at hj
      exact gU b hj
    · simp only [if_neg hji] at hj
      obtain ⟨o, e, m⟩ := (a.st.gd j b hj).2
      refine ⟨fun z => ?_, o, k.keep b o e (oth j b hji hj), m⟩
      rcases k.new b z with z | z | z
      · exact (a.st.gd j b hj).1 z
      · exact oth j b hji hj z
      · rw [e] at z; cases z
  · by_cases hji : j = i
    · subst hji; exact ⟨d', slotD_set il⟩
    · simp only [if_neg hji] at hj
      rw [slotD_set_ne hji]
      exact a.st.lv j b hj
  · rcases k.new b hb with z | z | z
    · exact k.ex b (a.st.fz b z)
    · exact k.ex b (gdA b z).2.ne
    · exact fN b hb z
  · refine k.keep b o (a.kp.keep b o e n) fun z => ?_
    rcases back b z with y | y
    · exact n y
    · rw [e] at y; cases y
  · rcases k.new b hb with z | z | z
    · exact a.kp.new b z
    · exact .inr (back b z)
    · exact .inr (.inr (a.kp.nn z))
  · rcases hb with ⟨j, e, he, hj⟩ | hb
    · by_cases hji : j = i
      · simp only [if_pos hji] at hj
        exact hUT b (.inl hj)
      · simp only [if_neg hji] at hj
        rw [List.getElem?_set_ne (Ne.symm hji)] at he
        exact a.fr b (.inl ⟨j, e, he, hj⟩)
    · exact hUT b (.inr hb)
  · by_cases hji : j = i
    · subst hji
      rw [List.getElem?_set_self il]
      constructor
      · intro z; exact absurd z (nro e)
      · intro z; cases z
    · rw [List.getElem?_set_ne (Ne.symm hji)]
      exact a.ro j e
  · have hji : j ≠ i := fun z => by subst z; exact nro e he
    simp only [if_neg hji]
    exact a.rf j e he b
  · by_cases hji : j = i
    · simp only [if_pos hji] at hj
      exact hd b hj z
    · simp only [if_neg hji] at hj
      exact othU j b hji hj (.inr z)
/-- the value in hand taken as one's own: a ghost step -/
theorem own_ok (inj : ∀ i j, g.an i = g.an j → i = j) {o : Out} {d : D} {ρ' : LP.Env} {v : V} (a : Ps g σ F H ρ fp F1 H1 o.ρ fp1 T1) (h : KO g σ F1 H1 o.ρ o.d o.k v T1) (e : own o = some (d, ρ')) :
    ∃ F2 fp2 T2, Ps g σ F H ρ fp F2 H1 ρ' fp2 T2 ∧ Rp g F2 H1 d v T2 := by
  obtain ⟨od, ok, oρ⟩ := o
  cases ok with
  | val =>
    simp only [own, Option.some.injEq, Prod.mk.injEq] at e
    obtain ⟨rfl, rfl⟩ := e
    exact ⟨F1, fp1, T1, a, h⟩
  | vw i p =>
    simp only [own] at e
    split at e
    · rename_i r hr
      split at e
      case isFalse => cases e
      rename_i nd
      split at e
      · rename_i d' hm
        simp only [Option.some.injEq, Prod.mk.injEq] at e
        obtain ⟨rfl, rfl⟩ := e
        obtain ⟨np, r', vr, h1, h2, h3, h4⟩ := h
        have er : r' = r := by
          dsimp only at h1
          rw [slotD_ow hr] at h1; cases h1; rfl
        subst er
        obtain ⟨vr', ev, q⟩ := a.st.rp i r' (slotD_ow hr)
        rw [h2] at ev; cases ev
        obtain ⟨v', U, w', q', hU, up⟩ := q.foc inj (fun b hb => a.st.gd i b hb) h3 (.inr np)
        obtain rfl := h4.det (w' H1 fun _ _ => rfl)
        obtain ⟨x, x', hx1, hx2, hx3⟩ := modP_fun hm
        rw [h3] at hx1; cases hx1
        cases hx2
        have kU : Kp U F1 (fun b => F1 b ∨ U b) H1 H1 := ⟨fun _ _ e _ => e, fun _ z => .inl z, fun b z => z.imp_right .inl, fun _ z => z⟩
        have qf : Rp g (fun b => F1 b ∨ U b) H1 (LP.frz od) v e0 := Rp.frz (fun _ z => .inl z) od v U nd (fun _ z => .inr z) q'
        have q2 := up _ H1 (LP.frz od) e0 d' kU qf (fun _ z => z.elim) hx3
        refine ⟨fun b => F1 b ∨ U b, _, e0, (a.drop).slot hr h2 q2 ⟨fun _ _ e _ => e, fun _ z => .inl z, fun b z => ?_, fun _ z => z⟩ (fun b z => ?_) (fun b _ z => z) (fun b z => ?_) (fun b z => z.elim) (fun b z y => ?_), qf⟩
        · exact z.imp_right fun y => .inl (.inl (hU b y))
        · rcases z with (⟨z, _⟩ | z) | z
          · exact .inl z
          · exact z.elim
          · exact z.elim
        · rcases z with ⟨z, y⟩ | z
          · exact ⟨fun w => w.elim (a.st.gd i b z).1 y, (a.st.gd i b z).2⟩
          · exact z.elim
        · exact (z.elim (a.st.fz b) fun z => (a.st.gd i b (hU b z)).2.ne).elim y
      · cases e
    · cases e
/-- a new object in hand -/
theorem Ps.alloc {p : Addr} {o : HO} (a : Ps g σ F H ρ fp F1 H1 ρ1 fp1 T1) (hp : H1 p = none) (hT : ∀ b, T b → T1 b ∨ b = p) (ho : ∀ b, T b → b = p → MuO (upd H1 p o) p) : Ps g σ F H ρ fp F1 (upd H1 p o) ρ1 fp1 T ∧ (∀ d v U, Rp g F1 H1 d v U → (∀ b, U b → H1 b ≠ none) → Rp g F1 (upd H1 p o) d v U) := by
  have ne : ∀ {b : Addr}, H1 b ≠ none → b ≠ p := fun h z => h (by rw [z]; exact hp)
  have k : Kp e0 F1 F1 H1 (upd H1 p o) := ⟨fun b o e _ => (by rw [upd_ne (ne (by rw [e]; simp))]; exact e), fun _ z => z, fun _ z => .inl z, fun b hb => (by rw [upd_ne (ne hb)]; exact hb)⟩
  have mu : ∀ b, MuO H1 b → MuO (upd H1 p o) b := fun b ⟨o', e, m⟩ => ⟨o', k.keep b o' e fun z => z, m⟩
  refine ⟨⟨⟨a.st.len, fun i d h => ?_, a.st.dis, fun i b h => ⟨(a.st.gd i b h).1, mu b (a.st.gd i b h).2⟩, a.st.lv, fun b h => k.ex b (a.st.fz b h)⟩, ⟨fun b o e n => k.keep b o (a.kp.keep b o e n) fun z => z, a.kp.mono, a.kp.new, fun b h => k.ex b (a.kp.ex b h)⟩, fun b h => ?_, a.ro, a.rf, fun b h => ?_, fun i b h z => ?_⟩, fun d v U r hU => Rp.keep k (fun _ z => z.elim) d v U (fun _ _ z => z) r⟩
  · obtain ⟨v, hv, r⟩ := a.st.rp i d h
    exact ⟨v, hv, Rp.keep k (fun _ z => z.elim) d v _ (fun _ _ z => z) r⟩
  · rcases h with h | h
    · exact a.fr b (.inl h)
    · rcases hT b h with h | h
      · exact a.fr b (.inr h)
      · subst h
        exact .inr (a.kp.nn hp)
  · rcases hT b h with h' | h'
    · exact ⟨(a.tg b h').1, mu b (a.tg b h').2⟩
    · have m := ho b h h'
      subst h'
      exact ⟨fun z => a.st.fz _ z hp, m⟩
  · rcases hT b z with z | z
    · exact a.td i b h z
    · subst z; exact (a.st.gd i b h).2.ne hp
end
end LPS

set_option autoImplicit false
set_option linter.all false
set_option maxRecDepth 100000
/-! LP's terms as readings of the hand layer: the plain parts -/
namespace LPS
open PySem PySem.Spec PyProof.Rows L2 LP
theorem _root_.L2.PE.imp {X : Cx} {e : Expr} {t t' : TE} (h : PE X e t) (k : ∀ σ H Q, t' σ H Q → t σ H Q) : PE X e t' := ⟨fun pins s σ H Q I w => h.run pins s σ H Q I (k σ H Q w)⟩
theorem _root_.L2.PE.or {X : Cx} {e : Expr} {t t' : TE} (h : PE X e t) (h' : PE X e t') : PE X e (fun σ H Q => t σ H Q ∨ t' σ H Q) := ⟨fun pins s σ H Q I w => w.elim (h.run pins s σ H Q I) (h'.run pins s σ H Q I)⟩
theorem _root_.L2.PT.imp {X : Cx} {e : Expr} {t t' : TT} (h : PT X e t) (k : ∀ σ H Q, t' σ H Q → t σ H Q) : PT X e t' := ⟨fun pins s σ H Q I w => h.run pins s σ H Q I (k σ H Q w)⟩
theorem _root_.L2.PW.imp {X : Cx} {e : Expr} {t t' : TT} (h : PW X e t) (k : ∀ σ H Q, t' σ H Q → t σ H Q) : PW X e t' := ⟨fun wh pins s σ H Q I w => h.run wh pins s σ H Q I (k σ H Q w)⟩
theorem _root_.L2.PA.imp {X : Cx} {e : List Expr} {t t' : TA} (h : PA X e t) (k : ∀ σ H Q, t' σ H Q → t σ H Q) : PA X e t' := ⟨fun p pins s σ H Q I w => h.run p pins s σ H Q I (k σ H Q w)⟩
section
variable (g : Gk) (call : LP.Cll)
/-- an expression's reading: its run -/
def tE (e : E) : TE := fun σ H Q => ∃ F ρ fp, St1 g F H ρ σ fp ∧ ∃ o, LP.ev call e ρ = some o ∧
  ∀ v F' H' fp' T, Ps g σ F H ρ fp F' H' o.ρ fp' T → KO g σ F' H' o.ρ o.d o.k v T → Q v H'
/-- as a test -/
def tT (e : E) : TT := fun σ H Q => ∃ F ρ fp, St1 g F H ρ σ fp ∧ ∃ o t, LP.ev call e ρ = some o ∧ truth o.d = some t ∧
  ∀ F' H' fp', Ps g σ F H ρ fp F' H' o.ρ fp' e0 → Q t H'
end
/-- a value that an operation gives: an old one, or a new object -/
def NewV (g : Gk) (F : AS) (H : Hp) (d : D) (v : V) (H' : Hp) : Prop :=
  (H' = H ∧ Rp g F H d v e0) ∨ ∃ p o, H p = none ∧ H' = upd H p o ∧ Rp g F H' d v (fun b => b = p) ∧ (MuO H' p ∨ LP.pers d = true)
section
variable {g : Gk} {call : LP.Cll} {σ : L2.St} {F F1 F2 : AS} {H H1 H2 : Hp} {ρ ρ1 ρ2 : LP.Env} {fp fp1 fp2 : Nat → AS} {T T1 T2 : AS}
theorem Ps.newV {d : D} {v : V} {H' : Hp} (a : Ps g σ F H ρ fp F1 H1 ρ1 fp1 T1) (n : NewV g F1 H1 d v H') : ∃ T, Ps g σ F H ρ fp F1 H' ρ1 fp1 T ∧ Rp g F1 H' d v T := by
  rcases n with ⟨rfl, r⟩ | ⟨p, o, hp, rfl, r, m⟩
  · exact ⟨e0, a.drop, r⟩
  · rcases m with m | m
    · exact ⟨fun b => b = p, (a.alloc hp (fun b z => .inr z) (fun _ _ _ => m)).1, r⟩
    · exact ⟨e0, (a.alloc hp (fun _ z => z.elim) (fun _ z => z.elim)).1, Rp.pers d v _ e0 m r⟩
/-- lists of values that can be read -/
def RdL (g : Gk) (F : AS) (H : Hp) : List D → List V → Prop
  | [], vs => vs = []
  | d :: ds, vs => ∃ v r U, vs = v :: r ∧ Rp g F H d v U ∧ RdL g F H ds r
theorem RpL.rdL : ∀ {ds : List D} {vs : List V} {T : AS}, RpL g F H ds vs T → RdL g F H ds vs
  | [], vs, T, h => by simpa only [RpL, RdL] using h
  | d :: ds, vs, T, h => by
    simp only [RpL, RdL] at h ⊢
    obtain ⟨v, r, T1, T2, e, h1, h2, _⟩ := h
    exact ⟨v, r, T1, e, h1, RpL.rdL h2⟩
theorem RdL.pers : ∀ {ds : List D} {vs : List V}, LP.persL ds = true → RdL g F H ds vs → ∀ T, RpL g F H ds vs T
  | [], vs, _, h, T => by simpa only [RpL, RdL] using h
  | d :: ds, vs, p, h, T => by
    simp only [RpL, RdL, LP.persL, Bool.and_eq_true] at h p ⊢
    obtain ⟨v, r, U, e, h1, h2⟩ := h
    exact ⟨v, r, e0, e0, e, Rp.pers d v U e0 p.1 h1, RdL.pers p.2 h2 e0, fun _ z => z.elim, fun _ z => z.elim⟩
/-- a persistent value stays in a heap with a new object -/
theorem Rp.up {p : Addr} {o : HO} (hF : ∀ b, F b → H b ≠ none) (hp : H p = none) {d : D} {v : V} {U : AS} (h : Rp g F H d v U) : Rp g F (upd H p o) d v U := by
  have ne : ∀ {b : Addr}, H b ≠ none → b ≠ p := fun h z => h (by rw [z]; exact hp)
  have k : Kp e0 F F H (upd H p o) := ⟨fun b o e _ => (by rw [upd_ne (ne (by rw [e]; simp))]; exact e), fun _ z => z, fun _ z => .inl z, fun b hb => (by rw [upd_ne (ne hb)]; exact hb)⟩
  exact Rp.keep k (fun _ z => z.elim) d v U (fun _ _ z => z) h
theorem RpL.up {p : Addr} {o : HO} (hF : ∀ b, F b → H b ≠ none) (hp : H p = none) {d : List D} {v : List V} {U : AS} (h : RpL g F H d v U) : RpL g F (upd H p o) d v U := by
  have ne : ∀ {b : Addr}, H b ≠ none → b ≠ p := fun h z => h (by rw [z]; exact hp)
  have k : Kp e0 F F H (upd H p o) := ⟨fun b o e _ => (by rw [upd_ne (ne (by rw [e]; simp))]; exact e), fun _ z => z, fun _ z => .inl z, fun b hb => (by rw [upd_ne (ne hb)]; exact hb)⟩
  exact RpL.keep k (fun _ z => z.elim) d v U (fun _ _ z => z) h
theorem new_tup (hF : ∀ b, F b → H b ≠ none) {p : Addr} (hp : H p = none) {ds : List D} {vs : List V} (h : RpL g F H ds vs e0) : NewV g F H (.tup ds) (.ref p) (upd H p (.tup vs)) := by
  have h' := h.up (o := .tup vs) hF hp
  refine .inr ⟨p, _, hp, rfl, ?_, .inr ?_⟩
  · simp only [Rp]
    exact ⟨p, vs, rfl, upd_same, h'⟩
  · simp only [LP.pers]
    exact persL_of ds vs e0 (fun _ z => z) h
theorem new_lst (hF : ∀ b, F b → H b ≠ none) {p : Addr} (hp : H p = none) {ds : List D} {vs : List V} (h : RpL g F H ds vs e0) : NewV g F H (.lst true ds) (.ref p) (upd H p (.lst vs)) := by
  have h' := h.up (o := .lst vs) hF hp
  refine .inr ⟨p, _, hp, rfl, ?_, .inl ⟨_, upd_same, .inl ⟨_, rfl⟩⟩⟩
  simp only [Rp]
  exact ⟨p, vs, e0, rfl, h', fun _ z => z.elim, upd_same, rfl⟩
theorem new_old {d : D} {v : V} (h : Rp g F H d v e0) : NewV g F H d v H := .inl ⟨rfl, h⟩

variable {X : Cx}
/-! ### constants, names -/
theorem pe_cst {a : Expr} {d : D} {v : V} (h : PE X a (tC v)) (r : ∀ F H, Rp g F H d v e0) : PE X a (tE g call (.cst d)) := h.imp fun σ H Q ⟨F, ρ, fp, s, o, ho, k⟩ => by
  simp only [LP.ev, Option.some.injEq] at ho
  subst ho
  exact k v F H fp e0 (Ps.refl s) (r F H)
theorem rd_ok {i : Nat} {o : Out} (s : St1 g F H ρ σ fp) (h : rd ρ i = some o) : ∃ v, σ[i]? = some (some v) ∧ o.ρ = ρ ∧ slotD ρ i = some o.d ∧ KO g σ F H ρ o.d o.k v e0 := by
  unfold rd at h
  split at h
  · rename_i d hd
    cases h
    obtain ⟨v, hv, r⟩ := s.rp i d hd
    refine ⟨v, hv, rfl, hd, ?_⟩
    dsimp only
    cases p : LP.pers d with
    | true => exact Rp.pers d v _ e0 p r
    | false => exact ⟨p, d, v, hd, hv, rfl, rfl⟩
  · cases h
theorem pe_varL {i : Nat} {x : PySem.Str} {pos : Pos} (h : PE X (.Name x pos) (tVar i)) : PE X (.Name x pos) (tE g call (.var i)) := h.imp fun σ H Q ⟨F, ρ, fp, s, o, ho, k⟩ => by
  simp only [LP.ev] at ho
  obtain ⟨v, hv, e, hd, r⟩ := rd_ok s ho
  have := k v F H fp e0 (by rw [e]; exact Ps.refl s) (by rw [e]; exact r)
  exact ⟨v, hv, this⟩
/-- a slot's value moved away -/
theorem Ps.out {i : Nat} {d : D} (s : St1 g F H ρ σ fp) (h : ρ[i]? = some (Sl.ow d)) : Ps g σ F H ρ fp F H (ρ.set i .no) (fun j => if j = i then e0 else fp j) (fp i) := by
  have il : i < ρ.length := (List.getElem?_eq_some_iff.mp h).1
  have sd : ∀ j e, slotD (ρ.set i .no) j = some e → j ≠ i ∧ slotD ρ j = some e := fun j e he => by
    by_cases hj : j = i
    · subst hj
      unfold slotD at he
      rw [List.getElem?_set_self il] at he
      cases he
    · exact ⟨hj, by rwa [slotD_set_ne hj] at he⟩
  refine ⟨⟨by simpa using s.len, fun j e he => ?_, fun j l b hj hl => ?_, fun j b hj => ?_, fun j b hj => ?_, s.fz⟩, .refl, fun b hb => ?_, fun j e => ?_, fun j e he b => ?_, fun b hb => s.gd i b hb, fun j b hj hb => ?_⟩
  · obtain ⟨hj, he⟩ := sd j e he
    simpa only [if_neg hj] using s.rp j e he
  · try dsimp only at hj hl
    split at hj
    · exact hj.elim
    · split at hl
      · exact hl.elim
      · exact s.dis j l b hj hl
  · try dsimp only at hj
    split at hj
    · exact hj.elim
    · exact s.gd j b hj
  · try dsimp only at hj
    split at hj
    · exact hj.elim
    · rename_i hji
      rw [slotD_set_ne hji]
      exact s.lv j b hj
  · rcases hb with ⟨j, e, he, hj⟩ | hb
    · try dsimp only at hj
      split at hj
      · exact hj.elim
      · rename_i hji
        rw [List.getElem?_set_ne (Ne.symm hji)] at he
        exact .inl ⟨j, e, he, hj⟩
    · exact .inl ⟨i, d, h, hb⟩
  · by_cases hj : j = i
    · subst hj
      rw [List.getElem?_set_self il, h]
      simp
    · rw [List.getElem?_set_ne (Ne.symm hj)]
  · have hj : j ≠ i := fun z => by subst z; rw [h] at he; cases he
    simp only [if_neg hj]
  · try dsimp only at hj
    split at hj
    · exact hj.elim
    · rename_i hji
      exact hji (s.dis j i b hj hb)
theorem pe_mvL {i : Nat} {x : PySem.Str} {pos : Pos} (h : PE X (.Name x pos) (tVar i)) : PE X (.Name x pos) (tE g call (.mv i)) := h.imp fun σ H Q ⟨F, ρ, fp, s, o, ho, k⟩ => by
  simp only [LP.ev] at ho
  split at ho
  · rename_i d hd
    cases ho
    obtain ⟨v, hv, r⟩ := s.rp i d (slotD_ow hd)
    exact ⟨v, hv, k v F H _ _ (Ps.out s hd) r⟩
  · rename_i d hd
    split at ho
    · rename_i p
      cases ho
      obtain ⟨v, hv, r⟩ := s.rp i d (slotD_ro hd)
      exact ⟨v, hv, k v F H _ _ (Ps.refl s) (Rp.pers d v _ e0 p r)⟩
    · cases ho
  · cases ho

/-! ### two in a row -/
theorem KO.stay2 (inj : ∀ i j, g.an i = g.an j → i = j) {d : D} {k : Kd} {v : V} (a : Ps g σ F H ρ fp F1 H1 ρ1 fp1 T1) (h : KO g σ F1 H1 ρ1 d k v T1) (b : Ps g σ F1 H1 (LP.lock k ρ1) fp1 F2 H2 ρ2 fp2 T2) :
    ∃ T, KO g σ F2 H2 (LP.unlock k ρ1 ρ2) d k v T ∧ Ps g σ F H ρ fp F2 H2 (LP.unlock k ρ1 ρ2) fp2 (fun x => T x ∨ T2 x) := by
  cases k with
  | val =>
    obtain ⟨r, p, _⟩ := a.hold b h
    exact ⟨T1, r, p⟩
  | vw i q =>
    obtain ⟨k', p⟩ := KO.stay inj a h b
    exact ⟨e0, k', p.weak fun x z => z.resolve_left fun z => z⟩
theorem seq2 (inj : ∀ i j, g.an i = g.an j → i = j) {a b : E} {o1 o2 : Out} (s : St1 g F H ρ σ fp) (ha : LP.ev call a ρ = some o1) (hb : LP.ev call b (lock o1.k o1.ρ) = some o2) {R : V → V → Hp → Prop}
    (h : ∀ v1 v2 F2 H2 fp2 T1 T2, Ps g σ F H ρ fp F2 H2 (unlock o1.k o1.ρ o2.ρ) fp2 (fun x => T1 x ∨ T2 x) → KO g σ F2 H2 (unlock o1.k o1.ρ o2.ρ) o1.d o1.k v1 T1 → KO g σ F2 H2 o2.ρ o2.d o2.k v2 T2 → (∃ U, Rp g F2 H2 o1.d v1 U) → (∃ U, Rp g F2 H2 o2.d v2 U) → R v1 v2 H2) :
    tE g call a σ H fun x H1 => tE g call b σ H1 fun y H2 => R x y H2 :=
  ⟨F, ρ, fp, s, o1, ha, fun v1 F1 H1 fp1 T1 p1 k1 => ⟨F1, lock o1.k o1.ρ, fp1, p1.st.lock _, o2, hb, fun v2 F2 H2 fp2 T2 p2 k2 => by
    obtain ⟨T, k1', p⟩ := KO.stay2 inj p1 k1 p2
    exact h v1 v2 F2 H2 fp2 T T2 p k1' k2 (k1'.rp inj p.st) (k2.rp inj p2.st)⟩⟩
/-- an operator by LP's -/
def rD (g : Gk) (f : D → D → Option D) : R2 := fun x y H Q => ∃ F d1 d2 U1 U2 d, Rp g F H d1 x U1 ∧ Rp g F H d2 y U2 ∧ f d1 d2 = some d ∧ (∀ b, F b → H b ≠ none) ∧ ∀ v H', NewV g F H d v H' → Q v H'
theorem op_okL (inj : ∀ i j, g.an i = g.an j → i = j) {a b : E} {f : D → D → Option D} {o1 o2 : Out} {d : D} {Q : VK} (s : St1 g F H ρ σ fp) (ha : LP.ev call a ρ = some o1) (hb : LP.ev call b (lock o1.k o1.ρ) = some o2) (hd : f o1.d o2.d = some d)
    (k : ∀ v F' H' fp' T, Ps g σ F H ρ fp F' H' (unlock o1.k o1.ρ o2.ρ) fp' T → Rp g F' H' d v T → Q v H') : tOp (rD g f) (tE g call a) (tE g call b) σ H Q := by
  refine seq2 inj s ha hb fun v1 v2 F2 H2 fp2 T1 T2 p k1 k2 ⟨U1, r1⟩ ⟨U2, r2⟩ => ?_
  refine ⟨F2, o1.d, o2.d, U1, U2, d, r1, r2, hd, p.st.fz, fun v H' n => ?_⟩
  obtain ⟨T, p', r⟩ := p.newV n
  exact k v F2 H' fp2 T p' r
theorem pe_binL (inj : ∀ i j, g.an i = g.an j → i = j) {a b : Expr} {ea eb : E} {op : Operator} {bo : Bop} {pos : Pos} (ho : OpR X (binaryOp op) (rD g (bop bo))) (ha : PE X a (tE g call ea)) (hb : PE X b (tE g call eb)) : PE X (.BinOp a op b pos) (tE g call (.bin bo ea eb)) :=
  (pe_op ho ha hb).imp fun σ H Q ⟨F, ρ, fp, s, o, he, k⟩ => by
    simp only [LP.ev] at he
    split at he
    · rename_i o1 h1
      split at he
      · rename_i o2 h2
        split at he
        · rename_i d hd
          cases he
          exact op_okL inj s h1 h2 hd fun v F' H' fp' T p r => k v F' H' fp' T p r
        · cases he
      · cases he
    · cases he
def fcop (c : Cop) (a b : D) : Option D := (cop c a b).map .bl
theorem pe_cmpL (inj : ∀ i j, g.an i = g.an j → i = j) {a b : Expr} {ea eb : E} {op : CmpOp} {co : Cop} {pos : Pos} (ho : OpR X (compareOp op) (rD g (fcop co))) (hm : behindInMarks op b = false) (ha : PE X a (tE g call ea)) (hb : PE X b (tE g call eb)) : PE X (.Compare a [op] [b] pos) (tE g call (.cmp co ea eb)) :=
  (pe_cmpR ho ha hb hm).imp fun σ H Q ⟨F, ρ, fp, s, o, he, k⟩ => by
    simp only [LP.ev] at he
    split at he
    · rename_i o1 h1
      split at he
      · rename_i o2 h2
        split at he
        · rename_i d hd
          cases he
          exact op_okL inj s h1 h2 (d := .bl d) (by simp [fcop, hd]) fun v F' H' fp' T p r => k v F' H' fp' T p r
        · cases he
      · cases he
    · cases he
theorem pt_cmpL (inj : ∀ i j, g.an i = g.an j → i = j) {a b : Expr} {ea eb : E} {op : CmpOp} {co : Cop} {pos : Pos} (ho : OpR X (compareOp op) (rD g (fcop co))) (hm : behindInMarks op b = false) (ha : PE X a (tE g call ea)) (hb : PE X b (tE g call eb)) : PT X (.Compare a [op] [b] pos) (tT g call (.cmp co ea eb)) :=
  (pt_cmpR ho ha hb hm).imp fun σ H Q ⟨F, ρ, fp, s, o, t, he, ht, k⟩ => by
    simp only [LP.ev] at he
    split at he
    · rename_i o1 h1
      split at he
      · rename_i o2 h2
        split at he
        · rename_i d hd
          cases he
          simp only [truth, Option.some.injEq] at ht
          subst ht
          exact op_okL inj s h1 h2 (d := .bl d) (by simp [fcop, hd]) fun v F' H' fp' T p r => ⟨d, by simpa only [Rp] using r, k F' H' fp' p.drop⟩
        · cases he
      · cases he
    · cases he
end
end LPS

set_option autoImplicit false
set_option linter.all false
set_option maxRecDepth 100000
/-! operators -/
namespace LPS
open PySem PySem.Spec PyProof.Rows L2 LP
section
variable {g : Gk} {F F1 F2 : AS} {H H1 H2 : Hp}
/-! ### data -/
mutual
def toP : D → PyData
  | .non => .none
  | .bl b => .bool b
  | .int i => .int i
  | .str s => .str (sV s)
  | .tup ds => .tuple (toPs ds)
  | .lst _ ds => .list (toPs ds)
  | .dct _ _ => .none
  | .ins _ _ _ => .none
  | .scr _ => .none
def toPs : List D → List PyData
  | [] => []
  | d :: ds => toP d :: toPs ds
end
theorem toPs_map : ∀ ds : List D, toPs ds = ds.map toP
  | [] => rfl
  | d :: ds => by simp only [toPs, List.map_cons, toPs_map ds]
theorem strOk_sV (s : List Nat) : PyData.strOk (sV s) = s.all fun c => decide (c < 1114112) := by
  simp [PyData.strOk, sV]
mutual
theorem flat_lay : ∀ (d : D) (n : Nat), flatN d n = true → (toP d).canLay0 = true ∧ (toP d).depth ≤ n
  | .non, n, h => by simp [toP, PyData.canLay0, PyData.depth]
  | .bl _, n, h => by simp [toP, PyData.canLay0, PyData.depth]
  | .int _, n, h => by simp [toP, PyData.canLay0, PyData.depth]
  | .str s, n, h => by
    simp only [flatN] at h
    refine ⟨?_, by simp [toP, PyData.depth]⟩
    simp only [toP, PyData.canLay0]
    rw [strOk_sV]; exact h
  | .tup ds, n, h => by
    cases n with
    | zero => simp [flatN] at h
    | succ n =>
      simp only [flatN] at h
      have := flat_layL ds n h
      simp only [toP, PyData.canLay0, PyData.depth]
      exact ⟨this.1, by omega⟩
  | .lst o ds, n, h => by
    cases n with
    | zero => simp [flatN] at h
    | succ n =>
      simp only [flatN] at h
      have := flat_layL ds n h
      simp only [toP, PyData.canLay0, PyData.depth]
      exact ⟨this.1, by omega⟩
  | .dct _ _, n, h => by simp [flatN] at h
  | .ins _ _ _, n, h => by simp [flatN] at h
  | .scr _, n, h => by simp [flatN] at h
theorem flat_layL : ∀ (ds : List D) (n : Nat), flatNL ds n = true → PyData.canLayAll0 (toPs ds) = true ∧ PyData.depthAll (toPs ds) ≤ n
  | [], n, h => by simp [toPs, PyData.canLayAll0, PyData.depthAll]
  | d :: ds, n, h => by
    simp only [flatNL, Bool.and_eq_true] at h
    have h1 := flat_lay d n h.1
    have h2 := flat_layL ds n h.2
    simp only [toPs, PyData.canLayAll0, PyData.depthAll, h1.1, h2.1, Bool.and_self, true_and]
    omega
end
theorem flat_shaped {d : D} (h : flat d = true) : SeqAt.shaped (toP d) = true := by
  have := flat_lay d 64 h
  unfold SeqAt.shaped
  rw [this.1, decide_eq_true this.2]
  rfl
mutual
theorem flat_dp : ∀ (d : D) (n : Nat) (v : V) (U : AS), flatN d n = true → Rp g F H d v U → Dp g.K H v (toP d)
  | .non, n, v, U, h, r => by simp only [Rp] at r; subst r; exact .non
  | .bl _, n, v, U, h, r => by simp only [Rp] at r; subst r; exact .bl _
  | .int _, n, v, U, h, r => by simp only [Rp] at r; subst r; exact .int _
  | .str _, n, v, U, h, r => by simp only [Rp] at r; subst r; exact .str _
  | .tup ds, n, v, U, h, r => by
    cases n with
    | zero => simp [flatN] at h
    | succ n =>
      simp only [flatN] at h
      simp only [Rp] at r
      obtain ⟨a, vs, rfl, s, r⟩ := r
      exact .tup (SqT.of s) (flat_dpL ds n vs e0 h r)
  | .lst o ds, n, v, U, h, r => by
    cases n with
    | zero => simp [flatN] at h
    | succ n =>
      simp only [flatN] at h
      simp only [Rp] at r
      obtain ⟨a, vs, W, rfl, r, _, c, _⟩ := r
      exact .lst (SqL.of c) (flat_dpL ds n vs W h r)
  | .dct _ _, n, v, U, h, r => by simp [flatN] at h
  | .ins _ _ _, n, v, U, h, r => by simp [flatN] at h
  | .scr _, n, v, U, h, r => by simp [flatN] at h
theorem flat_dpL : ∀ (ds : List D) (n : Nat) (vs : List V) (U : AS), flatNL ds n = true → RpL g F H ds vs U → DpAll g.K H vs (toPs ds)
  | [], n, vs, U, h, r => by simp only [RpL] at r; subst r; exact .nil
  | d :: ds, n, vs, U, h, r => by
    simp only [flatNL, Bool.and_eq_true] at h
    simp only [RpL] at r
    obtain ⟨v, r', T1, T2, rfl, h1, h2, _⟩ := r
    exact .cons (flat_dp d n v T1 h.1 h1) (flat_dpL ds n r' T2 h.2 h2)
end
theorem sV_eq (a b : List Nat) : (sV a == sV b) = (a == b) := by
  by_cases h : a = b
  · subst h; simp
  · have : sV a ≠ sV b := fun e => h (by
      have := congrArg (fun s => s.cps.toList) e
      simpa [sV] using this)
    rw [beq_eq_false_iff_ne.mpr h, beq_eq_false_iff_ne.mpr this]
mutual
theorem eqv_toP : ∀ (a b : D) (n m : Nat), flatN a n = true → flatN b m = true → PyData.eqv (toP a) (toP b) = LP.eqv a b
  | a, b, n, m, ha, hb => by
    cases a <;> cases b <;> first
      | (simp [flatN] at ha; done)
      | (simp [flatN] at hb; done)
      | (simp only [toP, PyData.eqv, LP.eqv]; done)
      | (simp only [toP, PyData.eqv, LP.eqv]; rfl)
      | (simp only [toP, PyData.eqv, LP.eqv, sV_eq]; done)
      | skip
    · rename_i x y
      cases n <;> simp only [flatN, Bool.false_eq_true] at ha
      cases m <;> simp only [flatN, Bool.false_eq_true] at hb
      simp only [toP, PyData.eqv, LP.eqv]
      exact eqvL_toP x y _ _ ha hb
    · rename_i o x o' y
      cases n <;> simp only [flatN, Bool.false_eq_true] at ha
      cases m <;> simp only [flatN, Bool.false_eq_true] at hb
      simp only [toP, PyData.eqv, LP.eqv]
      exact eqvL_toP x y _ _ ha hb
theorem eqvL_toP : ∀ (a b : List D) (n m : Nat), flatNL a n = true → flatNL b m = true → PyData.eqvAll (toPs a) (toPs b) = LP.eqvL a b
  | [], [], n, m, ha, hb => by simp [toPs, PyData.eqvAll, LP.eqvL]
  | [], _ :: _, n, m, ha, hb => by simp [toPs, PyData.eqvAll, LP.eqvL]
  | _ :: _, [], n, m, ha, hb => by simp [toPs, PyData.eqvAll, LP.eqvL]
  | x :: a, y :: b, n, m, ha, hb => by
    simp only [flatNL, Bool.and_eq_true] at ha hb
    simp only [toPs, PyData.eqvAll, LP.eqvL]
    rw [eqv_toP x y n m ha.1 hb.1, eqvL_toP a b n m ha.2 hb.2]
end
theorem ltN_eq : ∀ a b : List Nat, ltN a b = decide (a < b)
  | [], [] => by simp [ltN]
  | [], b :: y => by simp [ltN]
  | a :: x, [] => by simp [ltN]
  | a :: x, b :: y => by
    simp only [ltN]
    by_cases h : a = b
    · subst h
      rw [if_pos rfl, ltN_eq x y]
      by_cases q : x < y
      · rw [decide_eq_true q, decide_eq_true]
        exact List.cons_lt_cons_iff.mpr (.inr ⟨rfl, q⟩)
      · rw [decide_eq_false q, decide_eq_false]
        intro z
        rcases List.cons_lt_cons_iff.mp z with z | z
        · exact absurd z (Nat.lt_irrefl _)
        · exact q z.2
    · rw [if_neg h]
      by_cases q : a < b
      · rw [decide_eq_true q, decide_eq_true]
        exact List.cons_lt_cons_iff.mpr (.inl q)
      · rw [decide_eq_false q, decide_eq_false]
        intro z
        rcases List.cons_lt_cons_iff.mp z with z | z
        · exact q z
        · exact h z.1
mutual
theorem alk_toP : ∀ (a b : D) (n m : Nat), flatN a n = true → flatN b m = true → PySem.W.alike (toP a) (toP b) = LP.alk a b
  | a, b, n, m, ha, hb => by
    cases a <;> cases b <;> first
      | (simp [flatN] at ha; done)
      | (simp [flatN] at hb; done)
      | (simp [toP, PySem.W.alike, LP.alk]; done)
      | skip
    · rename_i x y
      cases n <;> simp only [flatN, Bool.false_eq_true] at ha
      cases m <;> simp only [flatN, Bool.false_eq_true] at hb
      simp only [toP, PySem.W.alike, LP.alk]
      exact alkL_toP x y _ _ ha hb
    · rename_i o x o' y
      cases n <;> simp only [flatN, Bool.false_eq_true] at ha
      cases m <;> simp only [flatN, Bool.false_eq_true] at hb
      simp only [toP, PySem.W.alike, LP.alk]
      exact alkL_toP x y _ _ ha hb
theorem alkL_toP : ∀ (a b : List D) (n m : Nat), flatNL a n = true → flatNL b m = true → PySem.W.alikeAll (toPs a) (toPs b) = LP.alkL a b
  | [], [], n, m, ha, hb => by simp [toPs, PySem.W.alikeAll, LP.alkL]
  | [], _ :: _, n, m, ha, hb => by simp [toPs, PySem.W.alikeAll, LP.alkL]
  | _ :: _, [], n, m, ha, hb => by simp [toPs, PySem.W.alikeAll, LP.alkL]
  | x :: a, y :: b, n, m, ha, hb => by
    simp only [flatNL, Bool.and_eq_true] at ha hb
    simp only [toPs, PySem.W.alikeAll, LP.alkL]
    rw [alk_toP x y n m ha.1 hb.1, alkL_toP a b n m ha.2 hb.2]
end
mutual
theorem ltB_toP : ∀ (a b : D) (n m : Nat), flatN a n = true → flatN b m = true → LP.alk a b = true → PySem.W.dataLt (toP a) (toP b) = LP.ltB a b
  | a, b, n, m, ha, hb, hk => by
    cases a <;> cases b <;> first
      | (simp [LP.alk] at hk; done)
      | (simp [flatN] at ha; done)
      | (simp only [toP, LP.ltB]; first | exact PySem.W.dataLt_int _ _ | exact PySem.W.dataLt_bool _ _ | (rw [PySem.W.dataLt_str, ltN_eq]; rfl) | exact PyProof.Rows.lex_irrefl _)
      | skip
    · rename_i x y
      cases n <;> simp only [flatN, Bool.false_eq_true] at ha
      cases m <;> simp only [flatN, Bool.false_eq_true] at hb
      simp only [toP, LP.ltB]
      rw [PySem.W.dataLt_tuple]
      exact ltBL_toP x y _ _ ha hb (by simpa only [LP.alk] using hk)
    · rename_i o x o' y
      cases n <;> simp only [flatN, Bool.false_eq_true] at ha
      cases m <;> simp only [flatN, Bool.false_eq_true] at hb
      simp only [toP, LP.ltB]
      rw [PySem.W.dataLt_list]
      exact ltBL_toP x y _ _ ha hb (by simpa only [LP.alk] using hk)
theorem ltBL_toP : ∀ (a b : List D) (n m : Nat), flatNL a n = true → flatNL b m = true → LP.alkL a b = true → PyProof.Rows.lexLt PyProof.Rows.itemOrd (PySem.W.keyToksAll (toPs a)) (PySem.W.keyToksAll (toPs b)) = LP.ltBL a b
  | [], [], n, m, ha, hb, hk => by simp only [toPs, LP.ltBL]; exact PyProof.Rows.lex_irrefl _
  | [], _ :: _, n, m, ha, hb, hk => by simp only [toPs, LP.ltBL]; rfl
  | _ :: _, [], n, m, ha, hb, hk => by simp only [toPs, LP.ltBL]; rfl
  | x :: a, y :: b, n, m, ha, hb, hk => by
    simp only [flatNL, Bool.and_eq_true] at ha hb
    simp only [LP.alkL, Bool.and_eq_true] at hk
    have e1 : PySem.W.alike (toP x) (toP y) = true := by rw [alk_toP x y n m ha.1 hb.1]; exact hk.1
    simp only [toPs, LP.ltBL]
    rw [PySem.W.dataLt_cons e1, eqv_toP x y n m ha.1 hb.1, ltB_toP x y n m ha.1 hb.1 hk.1, ltBL_toP a b n m ha.2 hb.2 hk.2]
end
end
end LPS

set_option autoImplicit false
set_option linter.all false
set_option maxRecDepth 100000
/-! operators by their rules -/
namespace LPS
open PySem PySem.Spec PyProof.Rows L2 LP
section
variable {g : Gk} {F F1 F2 : AS} {H H1 H2 : Hp} {X : Cx}
theorem rp_int {i : Int} {v : V} {U : AS} (h : Rp g F H (.int i) v U) : v = .int i := by simpa only [Rp] using h
theorem rp_bl {i : Bool} {v : V} {U : AS} (h : Rp g F H (.bl i) v U) : v = .bl i := by simpa only [Rp] using h
theorem rp_non {v : V} {U : AS} (h : Rp g F H .non v U) : v = .non := by simpa only [Rp] using h
theorem rp_str {s : List Nat} {v : V} {U : AS} (h : Rp g F H (.str s) v U) : v = .str (sV s) := by simpa only [Rp] using h
theorem rp_tup {ds : List D} {v : V} {U : AS} (h : Rp g F H (.tup ds) v U) : ∃ a vs, v = .ref a ∧ H a = some (.tup vs) ∧ RpL g F H ds vs e0 := by simpa only [Rp] using h
theorem rp_lst {o : Bool} {ds : List D} {v : V} {U : AS} (h : Rp g F H (.lst o ds) v U) : ∃ a vs W, v = .ref a ∧ H a = some (.lst vs) ∧ RpL g F H ds vs W := by
  simp only [Rp] at h
  obtain ⟨a, vs, W, e, r, _, c, _⟩ := h
  exact ⟨a, vs, W, e, c, r⟩
theorem mk_int (i : Int) (T : AS) : Rp g F H (.int i) (.int i) T := by simp only [Rp]
theorem mk_bl (i : Bool) (T : AS) : Rp g F H (.bl i) (.bl i) T := by simp only [Rp]
theorem mk_str (s : List Nat) (T : AS) : Rp g F H (.str s) (.str (sV s)) T := by simp only [Rp]
theorem mk_non (T : AS) : Rp g F H .non .non T := by simp only [Rp]
theorem lim_eq : sizeLine = lim := by rw [sizeLine_eq]; rfl
theorem sV_len (s : List Nat) : (sV s).length = s.length := by simp [sV, PySem.Str.length]
theorem sV_app (a b : List Nat) : sV a ++ sV b = sV (a ++ b) := by
  show PySem.Str.append _ _ = _
  simp [sV, PySem.Str.append]
theorem RpL.app : ∀ {a b : List D} {vs ws : List V}, RpL g F H a vs e0 → RpL g F H b ws e0 → RpL g F H (a ++ b) (vs ++ ws) e0
  | [], b, vs, ws, h, h' => by simp only [RpL] at h; subst h; simpa using h'
  | d :: a, b, vs, ws, h, h' => by
    simp only [RpL] at h
    obtain ⟨v, r, T1, T2, rfl, h1, h2, h3, h4⟩ := h
    simp only [List.cons_append, RpL]
    exact ⟨v, r ++ ws, T1, e0, rfl, h1, RpL.app (h2.mono h4) h', fun b hb => ⟨(h3 b hb).1, fun z => z⟩, fun _ z => z⟩
theorem RpL.rep {a : List D} {vs : List V} (h : RpL g F H a vs e0) : ∀ n, RpL g F H (List.replicate n a).flatten (List.replicate n vs).flatten e0
  | 0 => by simp only [List.replicate_zero, List.flatten_nil]; exact .nil
  | n + 1 => by simp only [List.replicate_succ, List.flatten_cons]; exact h.app (RpL.rep h n)
theorem RpL.take : ∀ {a : List D} {vs : List V} (n : Nat), RpL g F H a vs e0 → RpL g F H (a.take n) (vs.take n) e0
  | [], vs, n, h => by simp only [RpL] at h; subst h; simp only [List.take_nil]; exact .nil
  | d :: a, vs, 0, h => by simp only [List.take_zero]; exact .nil
  | d :: a, vs, n + 1, h => by
    simp only [RpL] at h
    obtain ⟨v, r, T1, T2, rfl, h1, h2, h3, h4⟩ := h
    simp only [List.take_succ_cons, RpL]
    exact ⟨v, r.take n, T1, e0, rfl, h1, RpL.take n (h2.mono h4), fun b hb => ⟨(h3 b hb).1, fun z => z⟩, fun _ z => z⟩
theorem RpL.drop : ∀ {a : List D} {vs : List V} (n : Nat), RpL g F H a vs e0 → RpL g F H (a.drop n) (vs.drop n) e0
  | [], vs, n, h => by simp only [RpL] at h; subst h; simp only [List.drop_nil]; exact .nil
  | d :: a, vs, 0, h => by simpa using h
  | d :: a, vs, n + 1, h => by
    simp only [RpL] at h
    obtain ⟨v, r, T1, T2, rfl, h1, h2, h3, h4⟩ := h
    simp only [List.drop_succ_cons]
    exact RpL.drop n (h2.mono h4)
theorem RpL.rev {a : List D} {vs : List V} (h : RpL g F H a vs e0) : RpL g F H a.reverse vs.reverse e0 := by
  induction a generalizing vs with
  | nil => simp only [RpL] at h; subst h; exact .nil
  | cons d a ih =>
    simp only [RpL] at h
    obtain ⟨v, r, T1, T2, rfl, h1, h2, h3, h4⟩ := h
    rw [List.reverse_cons, List.reverse_cons]
    refine (ih (h2.mono h4)).app ?_
    simp only [RpL]
    exact ⟨v, [], e0, e0, rfl, h1.mono fun b hb => (h3 b hb).1, rfl, fun _ z => z.elim, fun _ z => z⟩
theorem RpL.of_all : ∀ {a : List D} {vs : List V} {W : AS}, persL a = true → RpL g F H a vs W → RpL g F H a vs e0 := fun p h => RpL.pers _ _ _ e0 p h

/-! ### arithmetic -/
theorem or_add : OpR X (binaryOp .Add) (rD g (bop .add)) := by
  intro pins s σ H x y v u Q I rx ry ⟨F, d1, d2, U1, U2, d, h1, h2, hd, hF, q⟩
  cases d1 <;> cases d2 <;> simp only [bop, reduceCtorEq, Option.some.injEq] at hd
  · subst hd
    obtain rfl := rp_int h1
    obtain rfl := rp_int h2
    exact op_add pins s σ H _ _ v u Q I rx ry ⟨_, _, rfl, rfl, q _ _ (new_old (mk_int _ _))⟩
  · rename_i a b
    simp only [mkS] at hd
    split at hd
    · rename_i hl
      cases hd
      obtain rfl := rp_str h1
      obtain rfl := rp_str h2
      refine op_add_str pins s σ H _ _ v u Q I rx ry ⟨_, _, rfl, rfl, ?_, ?_⟩
      · rw [sV_len, sV_len, lim_eq]
        rw [List.length_append] at hl
        omega
      · rw [sV_app]
        exact q _ _ (new_old (mk_str _ _))
    · cases hd
  · rename_i a b
    simp only [mkT] at hd
    split at hd
    · rename_i hl
      cases hd
      obtain ⟨p, vs, rfl, s1, r1⟩ := rp_tup h1
      obtain ⟨p', ws, rfl, s2, r2⟩ := rp_tup h2
      have r3 := r1.app r2
      refine op_catA pins s σ H _ _ v u Q I rx ry ⟨p, p', vs, ws, rfl, rfl, SqT.of s1, SqT.of s2, ?_, fun e => ?_, fun _ e => ?_, fun _ _ n hn => q _ _ (new_tup hF hn r3)⟩
      · rw [← r1.length, ← r2.length, lim_eq]
        rw [List.length_append] at hl
        omega
      · subst e
        have := r1.length
        simp only [List.length_nil, List.length_eq_zero_iff] at this
        subst this
        exact q _ _ (new_old h2)
      · subst e
        have := r2.length
        simp only [List.length_nil, List.length_eq_zero_iff] at this
        subst this
        rw [List.append_nil] at q
        exact q _ _ (new_old h1)
    · cases hd
  · rename_i o1 a o2 b
    split at hd
    · rename_i hp
      simp only [Bool.and_eq_true] at hp
      simp only [mkL] at hd
      split at hd
      · rename_i hl
        cases hd
        obtain ⟨p, vs, W1, rfl, c1, r1⟩ := rp_lst h1
        obtain ⟨p', ws, W2, rfl, c2, r2⟩ := rp_lst h2
        have r3 := (RpL.of_all hp.1 r1).app (RpL.of_all hp.2 r2)
        refine op_cat pins s σ H _ _ v u Q I rx ry ⟨p, p', vs, ws, rfl, rfl, c1, c2, ?_, fun n hn => q _ _ (new_lst hF hn r3)⟩
        rw [← r1.length, ← r2.length, lim_eq]
        rw [List.length_append] at hl
        omega
      · cases hd
    · cases hd
theorem or_sub : OpR X (binaryOp .Sub) (rD g (bop .sub)) := by
  intro pins s σ H x y v u Q I rx ry ⟨F, d1, d2, U1, U2, d, h1, h2, hd, hF, q⟩
  cases d1 <;> cases d2 <;> simp only [bop, reduceCtorEq, Option.some.injEq] at hd
  subst hd
  obtain rfl := rp_int h1
  obtain rfl := rp_int h2
  exact op_sub pins s σ H _ _ v u Q I rx ry ⟨_, _, rfl, rfl, q _ _ (new_old (mk_int _ _))⟩
theorem or_mul : OpR X (binaryOp .Mult) (rD g (bop .mul)) := by
  intro pins s σ H x y v u Q I rx ry ⟨F, d1, d2, U1, U2, d, h1, h2, hd, hF, q⟩
  cases d1 <;> cases d2 <;> simp only [bop, reduceCtorEq] at hd
  · split at hd
    · rename_i hb
      cases hd
      obtain rfl := rp_int h1
      obtain rfl := rp_int h2
      refine op_mul pins s σ H _ _ v u Q I rx ry ⟨_, _, rfl, rfl, ?_, q _ _ (new_old (mk_int _ _))⟩
      unfold CMul
      unfold w64 at hb
      omega
    · cases hd
  · rename_i a j
    split at hd
    · rename_i hb
      simp only [mkT] at hd
      split at hd
      · rename_i hl
        cases hd
        obtain ⟨p, vs, rfl, s1, r1⟩ := rp_tup h1
        obtain rfl := rp_int h2
        have ne : vs ≠ [] := fun e => by
          subst e
          have := r1.length
          simp only [List.length_nil, List.length_eq_zero_iff] at this
          subst this
          simp at hb
        exact op_repT pins s σ H _ _ v u Q I rx ry ⟨p, j, vs, rfl, rfl, SqT.of s1, ne, hb.1, hb.2.1, by rw [← r1.length]; exact hb.2.2.1, fun n hn => q _ _ (new_tup hF hn (r1.rep _))⟩
      · cases hd
    · cases hd
  · rename_i o a j
    split at hd
    · rename_i hb
      simp only [mkL] at hd
      split at hd
      · rename_i hl
        cases hd
        obtain ⟨p, vs, W, rfl, c1, r1⟩ := rp_lst h1
        obtain rfl := rp_int h2
        refine op_rep pins s σ H _ _ v u Q I rx ry ⟨p, j, vs, rfl, rfl, c1, by omega, by omega, ?_, fun n hn => q _ _ (new_lst hF hn ((RpL.of_all hb.1 r1).rep _))⟩
        unfold repD at hl
        rw [lim_eq, ← r1.length]
        simp only [List.length_flatten, List.map_replicate, List.sum_replicate_nat] at hl
        rw [Nat.mul_comm]
        omega
      · cases hd
    · cases hd
theorem or_mod : OpR X (binaryOp .Mod) (rD g (bop .mod)) := by
  intro pins s σ H x y v u Q I rx ry ⟨F, d1, d2, U1, U2, d, h1, h2, hd, hF, q⟩
  cases d1 <;> cases d2 <;> simp only [bop, reduceCtorEq] at hd
  rename_i i j
  split at hd
  · rename_i hb
    cases hd
    obtain rfl := rp_int h1
    obtain rfl := rp_int h2
    refine op_modN pins s σ H _ _ v u Q I rx ry ⟨_, _, rfl, rfl, by omega, ?_⟩
    show Q (.int (i.fmod j)) H
    rw [Int.fmod_eq_emod_of_nonneg i (by omega)]
    exact q _ _ (new_old (mk_int _ _))
  · cases hd
theorem or_div : OpR X (binaryOp .FloorDiv) (rD g (bop .div)) := by
  intro pins s σ H x y v u Q I rx ry ⟨F, d1, d2, U1, U2, d, h1, h2, hd, hF, q⟩
  cases d1 <;> cases d2 <;> simp only [bop, reduceCtorEq] at hd
  rename_i i j
  split at hd
  · rename_i hb
    cases hd
    obtain rfl := rp_int h1
    obtain rfl := rp_int h2
    refine op_fdivN pins s σ H _ _ v u Q I rx ry ⟨_, _, rfl, rfl, ⟨by omega, by omega⟩, ?_⟩
    show Q (.int (i.fdiv j)) H
    rw [Int.fdiv_eq_ediv_of_nonneg i (by omega)]
    exact q _ _ (new_old (mk_int _ _))
  · cases hd
theorem or_pow : OpR X (binaryOp .Pow) (rD g (bop .pow)) := by
  intro pins s σ H x y v u Q I rx ry ⟨F, d1, d2, U1, U2, d, h1, h2, hd, hF, q⟩
  cases d1 <;> cases d2 <;> simp only [bop, reduceCtorEq] at hd
  split at hd
  · rename_i hb
    cases hd
    obtain rfl := rp_int h1
    obtain rfl := rp_int h2
    refine op_pow pins s σ H _ _ v u Q I rx ry ⟨_, _, rfl, rfl, ?_, q _ _ (new_old (mk_int _ _))⟩
    unfold CPow
    unfold w64 at hb
    omega
  · cases hd
theorem or_shl : OpR X (binaryOp .LShift) (rD g (bop .shl)) := by
  intro pins s σ H x y v u Q I rx ry ⟨F, d1, d2, U1, U2, d, h1, h2, hd, hF, q⟩
  cases d1 <;> cases d2 <;> simp only [bop, reduceCtorEq] at hd
  split at hd
  · rename_i hb
    cases hd
    obtain rfl := rp_int h1
    obtain rfl := rp_int h2
    refine op_shl pins s σ H _ _ v u Q I rx ry ⟨_, _, rfl, rfl, ?_, q _ _ (new_old (mk_int _ _))⟩
    unfold CPow
    unfold w64 at hb
    omega
  · cases hd
theorem or_shr : OpR X (binaryOp .RShift) (rD g (bop .shr)) := by
  intro pins s σ H x y v u Q I rx ry ⟨F, d1, d2, U1, U2, d, h1, h2, hd, hF, q⟩
  cases d1 <;> cases d2 <;> simp only [bop, reduceCtorEq] at hd
  split at hd
  · rename_i hb
    cases hd
    obtain rfl := rp_int h1
    obtain rfl := rp_int h2
    exact op_shr pins s σ H _ _ v u Q I rx ry ⟨_, _, rfl, rfl, hb, q _ _ (new_old (mk_int _ _))⟩
  · cases hd

/-! ### comparisons -/
theorem or_eq (K : X.K = g.K) (hu : X.A.units + 66 < cLine) : OpR X (compareOp .Eq) (rD g (fcop .eq)) := by
  intro pins s σ H x y v u Q I rx ry ⟨F, d1, d2, U1, U2, d, h1, h2, hd, hF, q⟩
  simp only [fcop, cop] at hd
  split at hd
  · rename_i hf
    simp only [Bool.and_eq_true] at hf
    cases hd
    refine op_eqD (by omega) pins s σ H x y v u Q I rx ry ⟨toP d1, toP d2, K ▸ flat_dp d1 _ x U1 hf.1 h1, K ▸ flat_dp d2 _ y U2 hf.2 h2, flat_shaped hf.1, flat_shaped hf.2, ?_⟩
    rw [eqv_toP d1 d2 _ _ hf.1 hf.2]
    exact q _ _ (new_old (mk_bl _ _))
  · cases hd
theorem or_ne (K : X.K = g.K) (hu : X.A.units + 66 < cLine) : OpR X (compareOp .NotEq) (rD g (fcop .ne)) := by
  intro pins s σ H x y v u Q I rx ry ⟨F, d1, d2, U1, U2, d, h1, h2, hd, hF, q⟩
  simp only [fcop, cop] at hd
  split at hd
  · rename_i hf
    simp only [Bool.and_eq_true] at hf
    cases hd
    refine op_neD (by omega) pins s σ H x y v u Q I rx ry ⟨toP d1, toP d2, K ▸ flat_dp d1 _ x U1 hf.1 h1, K ▸ flat_dp d2 _ y U2 hf.2 h2, flat_shaped hf.1, flat_shaped hf.2, ?_⟩
    rw [eqv_toP d1 d2 _ _ hf.1 hf.2]
    exact q _ _ (new_old (mk_bl _ _))
  · cases hd
/-- what an order comparison asks -/
theorem cmp_facts (K : X.K = g.K) (hu : X.A.units + 66 < cLine) {pins : List (Addr × Obj)} {s : Shared} {σ : L2.St} {x y : V} {v u : Value} {d1 d2 : D} {U1 U2 : AS} (I : Inv X pins σ H s) (rx : RelV x v) (ry : RelV y u) (h1 : Rp g F H d1 x U1) (h2 : Rp g F H d2 y U2) (hc : cmpOk d1 d2 = true) :
    ∃ as bs, Reads s.heap v (toP d1) as ∧ Reads s.heap u (toP d2) bs ∧ PySem.W.alike (toP d1) (toP d2) = true ∧ toP d1 ≠ .none ∧ X.A.units + min (toP d1).depth (toP d2).depth < cLine ∧ flat d1 = true ∧ flat d2 = true ∧ LP.alk d1 d2 = true := by
  simp only [cmpOk, Bool.and_eq_true] at hc
  obtain ⟨⟨⟨f1, f2⟩, ha⟩, hn⟩ := hc
  obtain ⟨as, r1⟩ := Dp.reads I (toP d1) x v (K ▸ flat_dp d1 _ x U1 f1 h1) rx
  obtain ⟨bs, r2⟩ := Dp.reads I (toP d2) y u (K ▸ flat_dp d2 _ y U2 f2 h2) ry
  have := (flat_lay d1 64 f1).2
  refine ⟨as, bs, r1, r2, by rw [alk_toP d1 d2 _ _ f1 f2]; exact ha, ?_, by omega, f1, f2, ha⟩
  cases d1 <;> simp [toP, LP.isNon, flat, flatN] at hn f1 ⊢
theorem or_lt (K : X.K = g.K) (hu : X.A.units + 66 < cLine) : OpR X (compareOp .Lt) (rD g (fcop .lt)) := by
  intro pins s σ H x y v u Q I rx ry ⟨F, d1, d2, U1, U2, d, h1, h2, hd, hF, q⟩
  simp only [fcop, cop] at hd
  split at hd
  · rename_i hc
    cases hd
    obtain ⟨as, bs, r1, r2, a, n, hr, f1, f2, ha⟩ := cmp_facts K hu I rx ry h1 h2 hc
    refine PySem.W.lt_data r1 r2 a n hr ⟨.bl _, H, I, rfl, ?_⟩
    rw [ltB_toP d1 d2 _ _ f1 f2 ha]
    exact q _ _ (new_old (mk_bl _ _))
  · cases hd
theorem alk_comm (d1 d2 : D) (f1 : flat d1 = true) (f2 : flat d2 = true) (h : LP.alk d1 d2 = true) : LP.alk d2 d1 = true := by
  rw [← alk_toP d2 d1 _ _ f2 f1, PySem.W.alike_comm, alk_toP d1 d2 _ _ f1 f2]
  exact h
theorem or_gt (K : X.K = g.K) (hu : X.A.units + 66 < cLine) : OpR X (compareOp .Gt) (rD g (fcop .gt)) := by
  intro pins s σ H x y v u Q I rx ry ⟨F, d1, d2, U1, U2, d, h1, h2, hd, hF, q⟩
  simp only [fcop, cop] at hd
  split at hd
  · rename_i hc
    cases hd
    obtain ⟨as, bs, r1, r2, a, n, hr, f1, f2, ha⟩ := cmp_facts K hu I rx ry h1 h2 hc
    refine PySem.W.gt_data r1 r2 a n hr ⟨.bl _, H, I, rfl, ?_⟩
    rw [ltB_toP d2 d1 _ _ f2 f1 (alk_comm d1 d2 f1 f2 ha)]
    exact q _ _ (new_old (mk_bl _ _))
  · cases hd
theorem or_le (K : X.K = g.K) (hu : X.A.units + 66 < cLine) : OpR X (compareOp .LtE) (rD g (fcop .le)) := by
  intro pins s σ H x y v u Q I rx ry ⟨F, d1, d2, U1, U2, d, h1, h2, hd, hF, q⟩
  simp only [fcop, cop] at hd
  split at hd
  · rename_i hc
    cases hd
    obtain ⟨as, bs, r1, r2, a, n, hr, f1, f2, ha⟩ := cmp_facts K hu I rx ry h1 h2 hc
    refine PySem.W.le_data r1 r2 a n hr ⟨.bl _, H, I, rfl, ?_⟩
    rw [ltB_toP d2 d1 _ _ f2 f1 (alk_comm d1 d2 f1 f2 ha)]
    exact q _ _ (new_old (mk_bl _ _))
  · cases hd
theorem or_ge (K : X.K = g.K) (hu : X.A.units + 66 < cLine) : OpR X (compareOp .GtE) (rD g (fcop .ge)) := by
  intro pins s σ H x y v u Q I rx ry ⟨F, d1, d2, U1, U2, d, h1, h2, hd, hF, q⟩
  simp only [fcop, cop] at hd
  split at hd
  · rename_i hc
    cases hd
    obtain ⟨as, bs, r1, r2, a, n, hr, f1, f2, ha⟩ := cmp_facts K hu I rx ry h1 h2 hc
    refine PySem.W.ge_data r1 r2 a n hr ⟨.bl _, H, I, rfl, ?_⟩
    rw [ltB_toP d1 d2 _ _ f1 f2 ha]
    exact q _ _ (new_old (mk_bl _ _))
  · cases hd
theorem isNon_rp {d : D} {v : V} {U : AS} (h : Rp g F H d v U) : LP.isNon d = decide (v = .non) := by
  cases d <;> simp only [Rp] at h
  · subst h; simp [LP.isNon]
  · subst h; simp [LP.isNon]
  · subst h; simp [LP.isNon]
  · subst h; simp [LP.isNon]
  · obtain ⟨a, vs, rfl, _⟩ := h; simp [LP.isNon]
  · obtain ⟨a, vs, W, rfl, _⟩ := h; simp [LP.isNon]
  · obtain ⟨a, vs, W, rfl, _⟩ := h; simp [LP.isNon]
  · obtain ⟨a, vs, W, rfl, _⟩ := h; simp [LP.isNon]
  · obtain ⟨a, rfl, _⟩ := h; simp [LP.isNon]
theorem isD_non {d1 d2 : D} {b : Bool} (h : isD d1 d2 = some b) : (d2 = .non ∧ b = LP.isNon d1) ∨ ∃ x y, d1 = .bl x ∧ d2 = .bl y ∧ b = (x == y) := by
  cases d2 <;> cases d1 <;> simp [isD] at h <;> simp [h]
theorem or_is : OpR X (compareOp .Is) (rD g (fcop .is)) := by
  intro pins s σ H x y v u Q I rx ry ⟨F, d1, d2, U1, U2, d, h1, h2, hd, hF, q⟩
  simp only [fcop, cop, Option.map_eq_some_iff] at hd
  obtain ⟨b, hb, rfl⟩ := hd
  rcases isD_non hb with ⟨rfl, rfl⟩ | ⟨p, p', rfl, rfl, rfl⟩
  · obtain rfl := rp_non h2
    refine op_isN pins s σ H _ _ v u Q I rx ry ⟨rfl, ?_⟩
    rw [← isNon_rp h1]
    exact q _ _ (new_old (mk_bl _ _))
  · obtain rfl := rp_bl h1
    obtain rfl := rp_bl h2
    refine op_is_bl pins s σ H _ _ v u Q I rx ry ⟨_, _, rfl, rfl, ?_⟩
    rw [← Bool.beq_eq_decide_eq]
    exact q _ _ (new_old (mk_bl _ _))
theorem or_isn : OpR X (compareOp .IsNot) (rD g (fcop .isn)) := by
  intro pins s σ H x y v u Q I rx ry ⟨F, d1, d2, U1, U2, d, h1, h2, hd, hF, q⟩
  simp only [fcop, cop, Option.map_eq_some_iff] at hd
  obtain ⟨b, hb, rfl⟩ := hd
  split at hb
  · rename_i r hr
    cases hb
    rcases isD_non hr with ⟨rfl, rfl⟩ | ⟨p, p', rfl, rfl, rfl⟩
    · obtain rfl := rp_non h2
      refine op_notN pins s σ H _ _ v u Q I rx ry ⟨rfl, ?_⟩
      rw [← isNon_rp h1]
      exact q _ _ (new_old (mk_bl _ _))
    · obtain rfl := rp_bl h1
      obtain rfl := rp_bl h2
      refine op_isnot_bl pins s σ H _ _ v u Q I rx ry ⟨_, _, rfl, rfl, ?_⟩
      rw [← Bool.beq_eq_decide_eq]
      exact q _ _ (new_old (mk_bl _ _))
  · cases hb
theorem any_toP (a : D) (fa : flat a = true) : ∀ (ds : List D), flatL ds = true → ((toPs ds).any fun z => PyData.eqv z (toP a)) = memV a ds
  | [], _ => by simp [toPs, memV]
  | d :: ds, h => by
    have h' : (flatN d 63 && flatNL ds 63) = true := by simpa only [flatL, flatNL] using h
    simp only [Bool.and_eq_true] at h'
    simp only [toPs, List.any_cons, memV]
    rw [eqv_toP d a _ _ h'.1 fa, any_toP a fa ds h'.2]
theorem in_facts (K : X.K = g.K) (hu : X.A.units + 66 < cLine) {pins : List (Addr × Obj)} {s : Shared} {σ : L2.St} {x y : V} {v u : Value} {a : D} {ds : List D} {U1 : AS} (I : Inv X pins σ H s) (rx : RelV x v) (h1 : Rp g F H a x U1) (f1 : flat a = true) (f2 : flatL ds = true) :
    ∃ as, Reads s.heap v (toP a) as ∧ (toP a).canLay0 = true ∧ PyData.canLayAll0 (toPs ds) = true ∧ X.A.units + 1 + min (PyData.depthAll (toPs ds)) (toP a).depth < cLine := by
  obtain ⟨as, r1⟩ := Dp.reads I (toP a) x v (K ▸ flat_dp a _ x U1 f1 h1) rx
  have l1 := flat_lay a 64 f1
  have l2 := flat_layL ds 63 f2
  exact ⟨as, r1, l1.1, l2.1, by omega⟩
/-- in, of a list or a tuple -/
def fin (neg : Bool) (a b : D) : Option D := match b with
  | .tup ds => if flat a && flatL ds then some (.bl (if neg then !memV a ds else memV a ds)) else none
  | .lst _ ds => if flat a && flatL ds then some (.bl (if neg then !memV a ds else memV a ds)) else none
  | _ => none
theorem or_in (K : X.K = g.K) (hu : X.A.units + 66 < cLine) : OpR X (compareOp .In) (rD g (fin false)) := by
  intro pins s σ H x y v u Q I rx ry ⟨F, d1, d2, U1, U2, d, h1, h2, hd, hF, q⟩
  cases d2 <;> simp only [fin, reduceCtorEq] at hd
  all_goals
    split at hd
    · rename_i hf
      simp only [Bool.and_eq_true] at hf
      cases hd
      obtain ⟨as, r1, l1, l2, hr⟩ := in_facts (y := y) (u := u) K hu I rx h1 hf.1 hf.2
      rename_i ds
      first
        | (obtain ⟨bs, r2⟩ := Dp.reads I (.tuple (toPs ds)) y u (K ▸ flat_dp (.tup ds) 64 y U2 (by simp only [flatN]; exact hf.2) h2) ry
           refine SeqAt.in_tuple_reads r2 r1 l2 l1 hr ⟨.bl _, H, I, rfl, ?_⟩)
        | (obtain ⟨bs, r2⟩ := Dp.reads I (.list (toPs ds)) y u (K ▸ flat_dp (.lst _ ds) 64 y U2 (by simp only [flatN]; exact hf.2) h2) ry
           refine SeqAt.in_list_reads r2 r1 l2 l1 hr ⟨.bl _, H, I, rfl, ?_⟩)
      rw [any_toP d1 hf.1 ds hf.2]
      exact q _ _ (new_old (mk_bl _ _))
    · cases hd
theorem or_nin (K : X.K = g.K) (hu : X.A.units + 66 < cLine) : OpR X (compareOp .NotIn) (rD g (fin true)) := by
  intro pins s σ H x y v u Q I rx ry ⟨F, d1, d2, U1, U2, d, h1, h2, hd, hF, q⟩
  cases d2 <;> simp only [fin, reduceCtorEq] at hd
  all_goals
    split at hd
    · rename_i hf
      simp only [Bool.and_eq_true] at hf
      cases hd
      obtain ⟨as, r1, l1, l2, hr⟩ := in_facts (y := y) (u := u) K hu I rx h1 hf.1 hf.2
      rename_i ds
      first
        | (obtain ⟨bs, r2⟩ := Dp.reads I (.tuple (toPs ds)) y u (K ▸ flat_dp (.tup ds) 64 y U2 (by simp only [flatN]; exact hf.2) h2) ry
           refine SeqAt.notIn_tuple_reads r2 r1 l2 l1 hr ⟨.bl _, H, I, rfl, ?_⟩)
        | (obtain ⟨bs, r2⟩ := Dp.reads I (.list (toPs ds)) y u (K ▸ flat_dp (.lst _ ds) 64 y U2 (by simp only [flatN]; exact hf.2) h2) ry
           refine SeqAt.notIn_list_reads r2 r1 l2 l1 hr ⟨.bl _, H, I, rfl, ?_⟩)
      rw [any_toP d1 hf.1 ds hf.2]
      exact q _ _ (new_old (mk_bl _ _))
    · cases hd
end
end LPS

set_option autoImplicit false
set_option linter.all false
set_option maxRecDepth 100000
/-! LP's terms: tests, arguments, displays, parts -/
namespace LPS
open PySem PySem.Spec PyProof.Rows L2 LP
section
variable (g : Gk) (call : LP.Cll)
def tEs (es : Es) : TA := fun σ H Q => ∃ F ρ fp, St1 g F H ρ σ fp ∧ ∃ ds ρ', LP.evs call es ρ = some (ds, ρ') ∧
  ∀ vs F' H' fp' T, Ps g σ F H ρ fp F' H' ρ' fp' T → RpL g F' H' ds vs T → Q vs H'
def tV (es : Es) : TA := fun σ H Q => ∃ F ρ fp, St1 g F H ρ σ fp ∧ ∃ ds ρ', LP.evV call es ρ = some (ds, ρ') ∧
  ∀ vs F' H' fp', Ps g σ F H ρ fp F' H' ρ' fp' e0 → RdL g F' H' ds vs → Q vs H'
/-- a built-in's answer by LP's -/
def rC (f : List D → Option D) : List V → Hp → VK → Prop := fun vs H Q => ∃ F ds d, RdL g F H ds vs ∧ f ds = some d ∧ (∀ b, F b → H b ≠ none) ∧ ∀ v H', NewV g F H d v H' → Q v H'
end
section
variable {g : Gk} {call : LP.Cll} {σ : L2.St} {F F1 F2 : AS} {H H1 H2 : Hp} {ρ ρ1 ρ2 : LP.Env} {fp fp1 fp2 : Nat → AS} {T T1 T2 : AS} {X : Cx}
theorem ko_val {d : D} {v : V} (h : Rp g F H d v T) : KO g σ F H ρ d .val v T := h
/-- truth -/
theorem truth_rp {d : D} {v : V} {U : AS} {t : Bool} (r : Rp g F H d v U) (h : truth d = some t) : TruV g.K v H t := by
  cases d <;> simp only [truth, Option.some.injEq, reduceCtorEq] at h
  · subst h; obtain rfl := rp_non r; rfl
  · subst h; obtain rfl := rp_bl r; rfl
  · subst h; obtain rfl := rp_int r; rfl
  · rename_i s
    split at h
    · rename_i hl
      cases h
      obtain rfl := rp_str r
      refine ⟨by rw [sV_len, lim_eq]; omega, ?_⟩
      rw [sV_len]
      cases s <;> simp
      omega
    · cases h
  · rename_i ds
    subst h
    obtain ⟨a, vs, rfl, s, r⟩ := rp_tup r
    refine .inr (.inl ⟨vs, SqT.of s, ?_⟩)
    have := r.length
    cases ds <;> cases vs <;> simp at this ⊢
  · rename_i o ds
    subst h
    obtain ⟨a, vs, W, rfl, s, r⟩ := rp_lst r
    refine .inl ⟨vs, SqL.of s, ?_⟩
    have := r.length
    cases ds <;> cases vs <;> simp at this ⊢
/-- a test of a value -/
theorem pt_tr (inj : ∀ i j, g.an i = g.an j → i = j) (K : X.K = g.K) {a : Expr} {e : E} (h : PE X a (tE g call e)) (he : ∀ whole, isTrue a X.env whole = (do let v ← whole; standAt a.pos; holding [v] (truthy v))) : PT X a (tT g call e) :=
  (pt_truth h he).imp fun σ H Q ⟨F, ρ, fp, s, o, t, ho, ht, k⟩ => ⟨F, ρ, fp, s, o, ho, fun v F' H' fp' T p r => by
    obtain ⟨U, r'⟩ := r.rp inj p.st
    exact ⟨t, K ▸ truth_rp r' ht, k F' H' fp' p.drop⟩⟩

theorem Ps.frzT (a : Ps g σ F H ρ fp F1 H1 ρ1 fp1 T1) : Ps g σ F H ρ fp (fun b => F1 b ∨ T1 b) H1 ρ1 fp1 e0 := by
  have k : Kp T1 F1 (fun b => F1 b ∨ T1 b) H1 H1 := ⟨fun _ _ e _ => e, fun _ z => .inl z, fun b z => z.imp_right .inl, fun _ z => z⟩
  refine ⟨⟨a.st.len, fun i d h => ?_, a.st.dis, fun i b h => ⟨fun z => z.elim (a.st.gd i b h).1 (a.td i b h), (a.st.gd i b h).2⟩, a.st.lv, fun b h => h.elim (a.st.fz b) fun z => (a.tg b z).2.ne⟩, ⟨a.kp.keep, fun b h => .inl (a.kp.mono b h), fun b h => h.elim (a.kp.new b) fun z => .inr (a.fr b (.inr z)), a.kp.ex⟩, fun b h => a.fr b (h.imp_right fun z => z.elim), a.ro, a.rf, fun _ z => z.elim, fun _ _ _ z => z⟩
  obtain ⟨v, hv, r⟩ := a.st.rp i d h
  exact ⟨v, hv, Rp.keep k a.tg d v _ (fun b hb => a.td i b hb) r⟩
/-! ### and, or, not -/
theorem pe_andL (inj : ∀ i j, g.an i = g.an j → i = j) (K : X.K = g.K) {a b : Expr} {l : List Expr} {ea eb : E} {pos : Pos} (ha : PE X a (tE g call ea)) (hb : PE X (.BoolOp .And (b :: l) pos) (tE g call eb)) : PE X (.BoolOp .And (a :: b :: l) pos) (tE g call (.and_ ea eb)) :=
  (pe_andT ha hb).imp fun σ H Q ⟨F, ρ, fp, s, o, ho, k⟩ => by
    simp only [LP.ev] at ho
    split at ho
    · rename_i o1 h1
      refine ⟨F, ρ, fp, s, o1, h1, fun v1 F1 H1 fp1 T1 p1 r1 => ?_⟩
      obtain ⟨U, r'⟩ := r1.rp inj p1.st
      split at ho
      · rename_i ht
        refine ⟨true, K ▸ truth_rp r' ht, ?_⟩
        try dsimp only
        rw [if_pos rfl]
        exact ⟨F1, o1.ρ, fp1, p1.st, o, ho, fun v F' H' fp' T p r => k v F' H' fp' T (p1.drop.trans p) r⟩
      · rename_i ht
        cases ho
        refine ⟨false, K ▸ truth_rp r' ht, ?_⟩
        try dsimp only
        rw [if_neg Bool.false_ne_true]
        exact k v1 F1 H1 fp1 T1 p1 r1
      · cases ho
    · cases ho
theorem pe_orL (inj : ∀ i j, g.an i = g.an j → i = j) (K : X.K = g.K) {a b : Expr} {l : List Expr} {ea eb : E} {pos : Pos} (ha : PE X a (tE g call ea)) (hb : PE X (.BoolOp .Or (b :: l) pos) (tE g call eb)) : PE X (.BoolOp .Or (a :: b :: l) pos) (tE g call (.or_ ea eb)) :=
  (pe_orT ha hb).imp fun σ H Q ⟨F, ρ, fp, s, o, ho, k⟩ => by
    simp only [LP.ev] at ho
    split at ho
    · rename_i o1 h1
      refine ⟨F, ρ, fp, s, o1, h1, fun v1 F1 H1 fp1 T1 p1 r1 => ?_⟩
      obtain ⟨U, r'⟩ := r1.rp inj p1.st
      split at ho
      · rename_i ht
        cases ho
        refine ⟨true, K ▸ truth_rp r' ht, ?_⟩
        try dsimp only
        rw [if_pos rfl]
        exact k v1 F1 H1 fp1 T1 p1 r1
      · rename_i ht
        refine ⟨false, K ▸ truth_rp r' ht, ?_⟩
        try dsimp only
        rw [if_neg Bool.false_ne_true]
        exact ⟨F1, o1.ρ, fp1, p1.st, o, ho, fun v F' H' fp' T p r => k v F' H' fp' T (p1.drop.trans p) r⟩
      · cases ho
    · cases ho
theorem pw_andL {a b : Expr} {l : List Expr} {ea eb : E} {pos : Pos} (ha : PT X a (tT g call ea)) (hb : PW X (.BoolOp .And (b :: l) pos) (tT g call eb)) : PW X (.BoolOp .And (a :: b :: l) pos) (tT g call (.and_ ea eb)) :=
  (pw_and ha hb).imp fun σ H Q ⟨F, ρ, fp, s, o, t, ho, ht, k⟩ => by
    simp only [LP.ev] at ho
    split at ho
    · rename_i o1 h1
      split at ho
      · rename_i h2
        refine ⟨F, ρ, fp, s, o1, true, h1, h2, fun F1 H1 fp1 p1 => ?_⟩
        try dsimp only
        rw [if_pos rfl]
        exact ⟨F1, o1.ρ, fp1, p1.st, o, t, ho, ht, fun F' H' fp' p => k F' H' fp' (p1.trans p)⟩
      · rename_i h2
        cases ho
        rw [h2] at ht; cases ht
        refine ⟨F, ρ, fp, s, _, false, h1, h2, fun F1 H1 fp1 p1 => ?_⟩
        try dsimp only
        rw [if_neg Bool.false_ne_true]
        exact k F1 H1 fp1 p1
      · cases ho
    · cases ho
theorem pw_orL {a b : Expr} {l : List Expr} {ea eb : E} {pos : Pos} (ha : PT X a (tT g call ea)) (hb : PW X (.BoolOp .Or (b :: l) pos) (tT g call eb)) : PW X (.BoolOp .Or (a :: b :: l) pos) (tT g call (.or_ ea eb)) :=
  (pw_or ha hb).imp fun σ H Q ⟨F, ρ, fp, s, o, t, ho, ht, k⟩ => by
    simp only [LP.ev] at ho
    split at ho
    · rename_i o1 h1
      split at ho
      · rename_i h2
        cases ho
        rw [h2] at ht; cases ht
        refine ⟨F, ρ, fp, s, _, true, h1, h2, fun F1 H1 fp1 p1 => ?_⟩
        try dsimp only
        rw [if_pos rfl]
        exact k F1 H1 fp1 p1
      · rename_i h2
        refine ⟨F, ρ, fp, s, o1, false, h1, h2, fun F1 H1 fp1 p1 => ?_⟩
        try dsimp only
        rw [if_neg Bool.false_ne_true]
        exact ⟨F1, o1.ρ, fp1, p1.st, o, t, ho, ht, fun F' H' fp' p => k F' H' fp' (p1.trans p)⟩
      · cases ho
    · cases ho
theorem pe_notL (inj : ∀ i j, g.an i = g.an j → i = j) (K : X.K = g.K) {a : Expr} {ea : E} {pos : Pos} (ha : PE X a (tE g call ea)) : PE X (.UnaryOp .Not a pos) (tE g call (.not_ ea)) :=
  (pe_notT ha).imp fun σ H Q ⟨F, ρ, fp, s, o, ho, k⟩ => by
    simp only [LP.ev] at ho
    split at ho
    · rename_i o1 h1
      split at ho
      · rename_i t ht
        cases ho
        refine ⟨F, ρ, fp, s, o1, h1, fun v1 F1 H1 fp1 T1 p1 r1 => ?_⟩
        obtain ⟨U, r'⟩ := r1.rp inj p1.st
        exact ⟨t, K ▸ truth_rp r' ht, k _ F1 H1 fp1 e0 p1.drop (ko_val (mk_bl _ _))⟩
      · cases ho
    · cases ho
theorem pt_notL {a : Expr} {ea : E} {pos : Pos} (ha : PT X a (tT g call ea)) : PT X (.UnaryOp .Not a pos) (tT g call (.not_ ea)) :=
  (pt_not ha).imp fun σ H Q ⟨F, ρ, fp, s, o, t, ho, ht, k⟩ => by
    simp only [LP.ev] at ho
    split at ho
    · rename_i o1 h1
      split at ho
      · rename_i t' h2
        cases ho
        simp only [truth, Option.some.injEq] at ht
        subst ht
        exact ⟨F, ρ, fp, s, o1, t', h1, h2, k⟩
      · cases ho
    · cases ho
theorem pe_negL (inj : ∀ i j, g.an i = g.an j → i = j) {a : Expr} {ea : E} {pos : Pos} (ha : PE X a (tE g call ea)) : PE X (.UnaryOp .USub a pos) (tE g call (.neg ea)) :=
  (pe_un un_neg ha).imp fun σ H Q ⟨F, ρ, fp, s, o, ho, k⟩ => by
    simp only [LP.ev] at ho
    split at ho
    · rename_i i kd ρ1 h1
      cases ho
      refine ⟨F, ρ, fp, s, _, h1, fun v1 F1 H1 fp1 T1 p1 r1 => ?_⟩
      obtain ⟨U, r'⟩ := r1.rp inj p1.st
      obtain rfl := rp_int r'
      exact ⟨i, rfl, k _ F1 H1 fp1 e0 p1.drop (ko_val (mk_int _ _))⟩
    · cases ho
theorem pe_iteL {c a b : Expr} {ec ea eb : E} {pos : Pos} (hc : PT X c (tT g call ec)) (ha : PE X a (tE g call ea)) (hb : PE X b (tE g call eb)) : PE X (.IfExp c a b pos) (tE g call (.ite ec ea eb)) :=
  (pe_ifExp hc ha hb).imp fun σ H Q ⟨F, ρ, fp, s, o, ho, k⟩ => by
    simp only [LP.ev] at ho
    split at ho
    · rename_i o1 h1
      split at ho
      · rename_i h2
        refine ⟨F, ρ, fp, s, o1, true, h1, h2, fun F1 H1 fp1 p1 => ?_⟩
        try dsimp only
        rw [if_pos rfl]
        exact ⟨F1, o1.ρ, fp1, p1.st, o, ho, fun v F' H' fp' T p r => k v F' H' fp' T (p1.trans p) r⟩
      · rename_i h2
        refine ⟨F, ρ, fp, s, o1, false, h1, h2, fun F1 H1 fp1 p1 => ?_⟩
        try dsimp only
        rw [if_neg Bool.false_ne_true]
        exact ⟨F1, o1.ρ, fp1, p1.st, o, ho, fun v F' H' fp' T p r => k v F' H' fp' T (p1.trans p) r⟩
      · cases ho
    · cases ho
theorem pt_iteL {c a b : Expr} {ec ea eb : E} {pos : Pos} (hc : PT X c (tT g call ec)) (ha : PT X a (tT g call ea)) (hb : PT X b (tT g call eb)) : PT X (.IfExp c a b pos) (tT g call (.ite ec ea eb)) := by
  refine ⟨fun pins s0 σ H Q I ⟨F, ρ, fp, s, o, t, ho, ht, k⟩ => isTrue_IfExp ?_⟩
  simp only [LP.ev] at ho
  split at ho
  · rename_i o1 h1
    split at ho
    · rename_i h2
      refine thn (hc.run pins s0 σ H (fun b H1 => b = true ∧ tT g call ea σ H1 Q) I ⟨F, ρ, fp, s, o1, true, h1, h2, fun F1 H1 fp1 p1 => ⟨rfl, F1, o1.ρ, fp1, p1.st, o, t, ho, ht, fun F' H' fp' p => k F' H' fp' (p1.trans p)⟩⟩) fun d s1 ⟨H1, I1, e, q1⟩ => ?_
      subst e
      exact ha.run pins s1 σ H1 Q I1 q1
    · rename_i h2
      refine thn (hc.run pins s0 σ H (fun b H1 => b = false ∧ tT g call eb σ H1 Q) I ⟨F, ρ, fp, s, o1, false, h1, h2, fun F1 H1 fp1 p1 => ⟨rfl, F1, o1.ρ, fp1, p1.st, o, t, ho, ht, fun F' H' fp' p => k F' H' fp' (p1.trans p)⟩⟩) fun d s1 ⟨H1, I1, e, q1⟩ => ?_
      subst e
      exact hb.run pins s1 σ H1 Q I1 q1
    · cases ho
  · cases ho
/-- a < b < c -/
theorem chain_rd (inj : ∀ i j, g.an i = g.an j → i = j) {ea eb ec : E} {co1 co2 : Cop} {o : Out} {Q : VK} (s : St1 g F H ρ σ fp) (ho : LP.ev call (.cmp2 co1 co2 ea eb ec) ρ = some o)
    (k : ∀ v F' H' fp' T, Ps g σ F H ρ fp F' H' o.ρ fp' T → Rp g F' H' o.d v T → Q v H') :
    tChain (rD g (fcop co1)) (rD g (fcop co2)) (tE g call ea) (tE g call eb) (tE g call ec) σ H Q := by
  simp only [LP.ev] at ho
  split at ho
  · rename_i o1 h1
    split at ho
    · rename_i o2 h2
      refine seq2 inj s h1 h2 fun v1 v2 F2 H2 fp2 T1 T2 p k1 k2 ⟨U1, r1⟩ ⟨U2, r2⟩ => ?_
      split at ho
      · rename_i hc
        cases ho
        refine ⟨F2, o1.d, o2.d, U1, U2, .bl false, r1, r2, by simp [fcop, hc], p.st.fz, fun v H' n => ?_⟩
        obtain ⟨T, p', r⟩ := p.newV n
        obtain rfl := rp_bl r
        refine ⟨false, rfl, ?_⟩
        try dsimp only
        rw [if_neg Bool.false_ne_true]
        exact k _ F2 H' fp2 T p' r
      · rename_i hc
        split at ho
        · rename_i hk
          split at ho
          · rename_i o3 h3
            split at ho
            · rename_i d hd
              cases ho
              refine ⟨F2, o1.d, o2.d, U1, U2, .bl true, r1, r2, by simp [fcop, hc], p.st.fz, fun v H' n => ?_⟩
              -- no new object: a bool
              rcases n with ⟨rfl, r⟩ | ⟨q, oo, hq, rfl, r, m⟩
              · obtain rfl := rp_bl r
                refine ⟨true, rfl, ?_⟩
                try dsimp only
                rw [if_pos rfl]
                rw [hk] at k2
                have k2' : Rp g F2 H' o2.d v2 T2 := k2
                have p := p.weak (T := T2) fun x z => .inr z
                refine ⟨F2, _, fp2, p.st, o3, h3, fun v3 F3 H3 fp3 T3 p3 k3 => ?_⟩
                obtain ⟨r2', p4, _⟩ := p.hold p3 k2'
                obtain ⟨U3, r3⟩ := k3.rp inj p3.st
                refine ⟨F3, o2.d, o3.d, _, U3, .bl d, r2', r3, by simp [fcop, hd], p3.st.fz, fun v H' n => ?_⟩
                obtain ⟨T, p', r⟩ := (p.trans p3).newV n
                exact k _ F3 H' fp3 T p' r
              · obtain rfl := rp_bl r
                refine ⟨true, rfl, ?_⟩
                try dsimp only
                rw [if_pos rfl]
                rw [hk] at k2
                have k2' : Rp g F2 H2 o2.d v2 T2 := k2
                have p := p.weak (T := T2) fun x z => .inr z
                have hnn : ∀ b, T2 b → b ≠ q := fun b hb e => (p.tg b hb).2.ne (e ▸ hq)
                have p' : Ps g σ F H ρ fp F2 (upd H2 q oo) (unlock o1.k o1.ρ o2.ρ) fp2 T2 := (p.alloc hq (fun b z => .inl z) (fun b z e => absurd e (hnn b z))).1
                have k2'' : Rp g F2 (upd H2 q oo) o2.d v2 T2 := k2'.up p.st.fz hq
                refine ⟨F2, _, fp2, p'.st, o3, h3, fun v3 F3 H3 fp3 T3 p3 k3 => ?_⟩
                obtain ⟨r2', p4, _⟩ := p'.hold p3 k2''
                obtain ⟨U3, r3⟩ := k3.rp inj p3.st
                refine ⟨F3, o2.d, o3.d, _, U3, .bl d, r2', r3, by simp [fcop, hd], p3.st.fz, fun v H' n => ?_⟩
                obtain ⟨T, p'', r⟩ := (p'.trans p3).newV n
                exact k _ F3 H' fp3 T p'' r
            · cases ho
          · cases ho
        · cases ho
      · cases ho
    · cases ho
  · cases ho
theorem cmp2_bl {ea eb ec : E} {co1 co2 : Cop} {o : Out} (ho : LP.ev call (.cmp2 co1 co2 ea eb ec) ρ = some o) : ∃ b, o.d = .bl b ∧ o.k = .val := by
  simp only [LP.ev] at ho
  split at ho
  · split at ho
    · split at ho
      · cases ho; exact ⟨false, rfl, rfl⟩
      · split at ho
        · split at ho
          · split at ho
            · cases ho; exact ⟨_, rfl, rfl⟩
            · cases ho
          · cases ho
        · cases ho
      · cases ho
    · cases ho
  · cases ho
theorem pe_cmp2L (inj : ∀ i j, g.an i = g.an j → i = j) {a b c : Expr} {ea eb ec : E} {op1 op2 : CmpOp} {co1 co2 : Cop} {pos : Pos} (h1 : OpR X (compareOp op1) (rD g (fcop co1))) (h2 : OpR X (compareOp op2) (rD g (fcop co2))) (ha : PE X a (tE g call ea)) (hb : PE X b (tE g call eb)) (hc : PE X c (tE g call ec))
    (hm2 : behindInMarks op2 c = false) : PE X (.Compare a [op1, op2] [b, c] pos) (tE g call (.cmp2 co1 co2 ea eb ec)) :=
  (pe_chain h1 h2 ha hb hc hm2).imp fun σ H Q ⟨F, ρ, fp, s, o, ho, k⟩ => chain_rd inj s ho fun v F' H' fp' T p r => by
    obtain ⟨b, e1, e2⟩ := cmp2_bl ho
    refine k v F' H' fp' T p ?_
    rw [e2]
    exact r
theorem pt_cmp2L (inj : ∀ i j, g.an i = g.an j → i = j) {a b c : Expr} {ea eb ec : E} {op1 op2 : CmpOp} {co1 co2 : Cop} {pos : Pos} (h1 : OpR X (compareOp op1) (rD g (fcop co1))) (h2 : OpR X (compareOp op2) (rD g (fcop co2))) (ha : PE X a (tE g call ea)) (hb : PE X b (tE g call eb)) (hc : PE X c (tE g call ec))
    (hm2 : behindInMarks op2 c = false) : PT X (.Compare a [op1, op2] [b, c] pos) (tT g call (.cmp2 co1 co2 ea eb ec)) :=
  (pt_chain h1 h2 ha hb hc hm2).imp fun σ H Q ⟨F, ρ, fp, s, o, t, ho, ht, k⟩ => chain_rd inj s ho fun v F' H' fp' T p r => by
    obtain ⟨b, e1, e2⟩ := cmp2_bl ho
    rw [e1] at ht r
    simp only [truth, Option.some.injEq] at ht
    subst ht
    exact ⟨b, rp_bl r, k F' H' fp' p.drop⟩

/-! ### arguments -/
theorem pa_nilE : PA X [] (tEs g call .nil) := pa_nil.imp fun σ H Q ⟨F, ρ, fp, s, ds, ρ', h, k⟩ => by
  simp only [LP.evs, Option.some.injEq, Prod.mk.injEq] at h
  obtain ⟨rfl, rfl⟩ := h
  exact k [] F H fp e0 (Ps.refl s) .nil
theorem pa_consE (inj : ∀ i j, g.an i = g.an j → i = j) {a : Expr} {as : List Expr} {e : E} {es : Es} (ha : PE X a (tE g call e)) (hs : PA X as (tEs g call es)) (hst : starEach (a :: as) X.env = (false, eval a X.env) :: starEach as X.env) : PA X (a :: as) (tEs g call (.cons e es)) :=
  (pa_cons ha hs hst).imp fun σ H Q ⟨F, ρ, fp, s, ds, ρ', h, k⟩ => by
    simp only [LP.evs] at h
    split at h
    · rename_i o ho
      split at h
      · rename_i d ρ1 hw
        split at h
        · rename_i ds' ρ2 hr
          simp only [Option.some.injEq, Prod.mk.injEq] at h
          obtain ⟨rfl, rfl⟩ := h
          refine ⟨F, ρ, fp, s, o, ho, fun v F1 H1 fp1 T1 p1 r1 => ?_⟩
          obtain ⟨F2, fp2, T2, p2, r2⟩ := own_ok inj p1 r1 hw
          refine ⟨F2, ρ1, fp2, p2.st, ds', ρ2, hr, fun vs F3 H3 fp3 T3 p3 r3 => ?_⟩
          obtain ⟨r2', p4, dj⟩ := p2.hold p3 r2
          exact k (v :: vs) F3 H3 fp3 _ p4 (.cons r2' r3 dj)
        · cases h
      · cases h
    · cases h
theorem pa_nilV : PA X [] (tV g call .nil) := pa_nil.imp fun σ H Q ⟨F, ρ, fp, s, ds, ρ', h, k⟩ => by
  simp only [LP.evV, Option.some.injEq, Prod.mk.injEq] at h
  obtain ⟨rfl, rfl⟩ := h
  exact k [] F H fp (Ps.refl s) rfl
theorem pa_consV (inj : ∀ i j, g.an i = g.an j → i = j) {a : Expr} {as : List Expr} {e : E} {es : Es} (ha : PE X a (tE g call e)) (hs : PA X as (tV g call es)) (hst : starEach (a :: as) X.env = (false, eval a X.env) :: starEach as X.env) : PA X (a :: as) (tV g call (.cons e es)) :=
  (pa_cons ha hs hst).imp fun σ H Q ⟨F, ρ, fp, s, ds, ρ', h, k⟩ => by
    simp only [LP.evV] at h
    split at h
    · rename_i o ho
      split at h
      · rename_i ds' ρ2 hr
        simp only [Option.some.injEq, Prod.mk.injEq] at h
        obtain ⟨rfl, rfl⟩ := h
        refine ⟨F, ρ, fp, s, o, ho, fun v F1 H1 fp1 T1 p1 r1 => ⟨F1, _, fp1, p1.st.lock _, ds', ρ2, hr, fun vs F3 H3 fp3 p3 r3 => ?_⟩⟩
        obtain ⟨r1', p4⟩ := r1.stay inj p1 p3
        obtain ⟨U, ru⟩ := r1'.rp inj p4.st
        exact k (v :: vs) F3 H3 fp3 p4 (by simp only [RdL]; exact ⟨v, vs, U, rfl, ru, r3⟩)
      · cases h
    · cases h
/-! ### displays -/
theorem Rp.frzD {ds : List D} {vs : List V} (nd : noDL ds = true) (h : RpL g F H ds vs T) : RpL g (fun b => F b ∨ T b) H (frzL ds) vs e0 := RpL.frz (fun _ z => .inl z) ds vs T nd (fun _ z => .inr z) h
theorem pe_tupL {es : List Expr} {ee : Es} {x1 : Nat} {pos : Pos} (h : PA X es (tEs g call ee)) : PE X (.Tuple es x1 pos) (tE g call (.tup ee)) :=
  (pe_tup h).imp fun σ H Q ⟨F, ρ, fp, s, o, ho, k⟩ => by
    simp only [LP.ev] at ho
    split at ho
    · rename_i ds ρ1 h1
      split at ho
      case isFalse => cases ho
      rename_i nd
      split at ho
      · rename_i d hd
        cases ho
        refine ⟨F, ρ, fp, s, ds, ρ1, h1, fun vs F1 H1 fp1 T1 p1 r1 => ?_⟩
        simp only [mkT] at hd
        split at hd
        · rename_i hl
          cases hd
          have r2 := Rp.frzD nd r1
          refine ⟨by rw [← r2.length, lim_eq]; omega, fun p hp => ?_⟩
          obtain ⟨T, p2, r3⟩ := p1.frzT.newV (new_tup p1.frzT.st.fz hp r2)
          exact k _ _ _ fp1 T p2 r3
        · cases hd
      · cases ho
    · cases ho
theorem pe_lstL {es : List Expr} {ee : Es} {pos : Pos} (h : PA X es (tEs g call ee)) : PE X (.List es pos) (tE g call (.lst ee)) :=
  (pe_lst h).imp fun σ H Q ⟨F, ρ, fp, s, o, ho, k⟩ => by
    simp only [LP.ev] at ho
    split at ho
    · rename_i ds ρ1 h1
      split at ho
      · rename_i d hd
        cases ho
        refine ⟨F, ρ, fp, s, ds, ρ1, h1, fun vs F1 H1 fp1 T1 p1 r1 => ?_⟩
        simp only [mkL] at hd
        split at hd
        · rename_i hl
          cases hd
          refine ⟨by rw [← r1.length, lim_eq]; omega, fun p hp => ?_⟩
          have nn : ∀ b, T1 b → b ≠ p := fun b hb e => (p1.tg b hb).2.ne (e ▸ hp)
          obtain ⟨p2, _⟩ := p1.alloc (T := fun b => T1 b ∨ b = p) (o := .lst vs) hp (fun b z => z) (fun b z e => ⟨_, upd_same, .inl ⟨_, rfl⟩⟩)
          refine k _ F1 _ fp1 _ p2 ?_
          show Rp g F1 _ (.lst true ds) _ _
          simp only [Rp]
          exact ⟨p, vs, T1, rfl, r1.up p1.st.fz hp, fun b hb => ⟨.inl hb, nn b hb⟩, upd_same, .inr rfl⟩
        · cases hd
      · cases ho
    · cases ho
end
end LPS

set_option autoImplicit false
set_option linter.all false
set_option maxRecDepth 100000
/-! dicts -/
namespace LPS
open PySem PySem.Spec PyProof.Rows L2 LP
section
variable {κ : Type} [DecidableEq κ]
theorem valV_ix : ∀ {kk : List κ} {vs : List V} {n : Nat} {q : κ} {ve : V}, kk[n]? = some q → (∀ m, m < n → kk[m]? ≠ some q) → vs[n]? = some ve → valV (kk.zip vs) q = some ve
  | [], vs, n, q, ve, h, _, _ => by simp at h
  | k :: kk, [], n, q, ve, _, _, h => by simp at h
  | k :: kk, v :: vs, 0, q, ve, h1, _, h3 => by
    simp only [List.getElem?_cons_zero, Option.some.injEq] at h1 h3
    subst h1 h3
    exact valV_pos rfl
  | k :: kk, v :: vs, n + 1, q, ve, h1, h2, h3 => by
    have hne : ¬ k = q := fun e => h2 0 (Nat.succ_pos _) (by simp [e])
    rw [List.zip_cons_cons, valV_neg (p := (k, v)) hne]
    exact valV_ix (by simpa using h1) (fun m hm z => h2 (m + 1) (by omega) (by simpa using z)) (by simpa using h3)
theorem valV_no : ∀ {kk : List κ} {vs : List V} {q : κ}, (∀ m : Nat, kk[m]? ≠ some q) → valV (kk.zip vs) q = none
  | [], vs, q, _ => rfl
  | k :: kk, [], q, _ => rfl
  | k :: kk, v :: vs, q, h => by
    have hne : ¬ k = q := fun e => h 0 (by simp [e])
    rw [List.zip_cons_cons, valV_neg (p := (k, v)) hne]
    exact valV_no fun m z => h (m + 1) (by simpa using z)
theorem putK_at {kk : List κ} {vs : List V} {n : Nat} {q : κ} {v : V} (nd : kk.Nodup) (h : kk[n]? = some q) (hl : kk.length = vs.length) : L2.putK (kk.zip vs) q v = kk.zip (vs.set n v) := by
  have hn : n < kk.length := (List.getElem?_eq_some_iff.mp h).1
  obtain ⟨ve, hve⟩ := some_of_lt (l := vs) (n := n) (by omega)
  unfold L2.putK
  rw [if_pos]
  · apply List.ext_getElem?
    intro m
    rw [List.getElem?_map]
    by_cases hm : m < kk.length
    · obtain ⟨x, hx⟩ := some_of_lt hm
      obtain ⟨y, hy⟩ := some_of_lt (l := vs) (n := m) (by omega)
      rw [zip_ix hx hy]
      by_cases e : m = n
      · subst e
        rw [h] at hx; cases hx
        rw [zip_ix h (by rw [List.getElem?_set_self (by omega)])]
        simp
      · have hne : ¬ x = q := fun z => e (by subst z; exact (List.getElem?_inj hm nd).mp (hx.trans h.symm))
        rw [zip_ix hx (by rw [List.getElem?_set_ne (Ne.symm e)]; exact hy)]
        simp [hne]
    · rw [List.getElem?_eq_none (by rw [List.length_zip]; omega), List.getElem?_eq_none (by rw [List.length_zip]; omega)]
      rfl
  · rw [valV_any]
    have : ∃ ve', valV (kk.zip vs) q = some ve' := by
      have := valV_any q (kk.zip vs)
      cases e : valV (kk.zip vs) q with
      | some x => exact ⟨x, rfl⟩
      | none =>
        rw [e] at this
        have hm : (q, ve) ∈ kk.zip vs := List.mem_of_getElem? (zip_ix h hve)
        have := List.any_eq_false.mp this (q, ve) hm
        simp at this
    obtain ⟨x, hx⟩ := this
    rw [hx]
    rfl
theorem putK_no {kk : List κ} {vs : List V} {q : κ} {v : V} (h : ∀ m : Nat, kk[m]? ≠ some q) (hl : kk.length = vs.length) : L2.putK (kk.zip vs) q v = (kk ++ [q]).zip (vs ++ [v]) := by
  rw [L2.putK_new _ (valV_no h), List.zip_append hl]
  rfl
end
section
variable {g : Gk} {call : LP.Cll} {σ : L2.St} {F F1 F2 : AS} {H H1 H2 : Hp} {ρ ρ1 ρ2 : LP.Env} {fp fp1 fp2 : Nat → AS} {T T1 T2 : AS} {X : Cx}
theorem isK_key {k : D} (h : isK k = true) : ∃ q, keyD k = some q := by cases k <;> simp [isK, keyD] at h ⊢
theorem kD_all : ∀ {ks : List (D × D)}, (ks.all fun p => isK p.1) = true → ∃ kk, kD ks = some kk
  | [], _ => ⟨[], rfl⟩
  | (k, d) :: ks, h => by
    simp only [List.all_cons, Bool.and_eq_true] at h
    obtain ⟨q, hq⟩ := isK_key h.1
    obtain ⟨kk, hk⟩ := kD_all h.2
    exact ⟨q :: kk, by simp only [kD, hq, hk]⟩
theorem isTK_key {k : D} (h : isTK k = true) : ∃ q, tkD k = some q := by
  cases k <;> simp only [isTK, Bool.false_eq_true] at h
  rename_i ds
  simp only [tkD]
  induction ds with
  | nil => exact ⟨[], rfl⟩
  | cons d ds ih =>
    simp only [List.all_cons, Bool.and_eq_true] at h
    obtain ⟨q, hq⟩ := isK_key h.1
    obtain ⟨kk, hk⟩ := ih h.2
    exact ⟨q :: kk, by simp only [keysD, hq, hk]⟩
theorem tD_all : ∀ {ks : List (D × D)}, (ks.all fun p => isTK p.1) = true → ∃ kk, tD ks = some kk
  | [], _ => ⟨[], rfl⟩
  | (k, d) :: ks, h => by
    simp only [List.all_cons, Bool.and_eq_true] at h
    obtain ⟨q, hq⟩ := isTK_key h.1
    obtain ⟨kk, hk⟩ := tD_all h.2
    exact ⟨q :: kk, by simp only [tD, hq, hk]⟩
theorem kD_tD {ks : List (D × D)} {kk : List Key} {tt : List (List Key)} (h : kD ks = some kk) (h' : tD ks = some tt) : ks = [] := by
  cases ks with
  | nil => rfl
  | cons p ks =>
    obtain ⟨k, d⟩ := p
    simp only [kD] at h
    simp only [tD] at h'
    cases k <;> simp [keyD, tkD] at h h'
theorem look_kk {ks : List (D × D)} {kk : List Key} {k : D} {q : Key} (h : kD ks = some kk) (hk : keyD k = some q) : look ks k = none ↔ ∀ m : Nat, kk[m]? ≠ some q := by
  have ok : keyOk k = true := by cases k <;> simp [keyD, keyOk] at hk ⊢
  constructor
  · intro hn m hm
    have hl := kD_len h
    have hm' : m < ks.length := by
      have := (List.getElem?_eq_some_iff.mp hm).1
      omega
    obtain ⟨⟨k1, d1⟩, hx⟩ := some_of_lt hm'
    obtain ⟨q', h1, h2⟩ := kD_get h hx
    rw [hm] at h2; cases h2
    have e := keyD_eqv h1 hk
    clear h hl
    induction ks generalizing m kk with
    | nil => simp at hx
    | cons p ks ih =>
      obtain ⟨k0, d0⟩ := p
      simp only [look] at hn
      split at hn
      · cases hn
      · rename_i hne
        cases m with
        | zero => simp only [List.getElem?_cons_zero, Option.some.injEq, Prod.mk.injEq] at hx; rw [hx.1] at hne; exact hne e
        | succ m =>
          cases kk with
          | nil => simp at hm
          | cons _ kk => exact ih hn m (kk := kk) (by simpa using hm) (by simp at hm'; omega) (by simpa using hx)
  · intro hn
    cases e : look ks k with
    | none => rfl
    | some d =>
      obtain ⟨n, _, ⟨k', h2, h3⟩, _⟩ := look_ix e
      obtain ⟨q', h4, h5⟩ := kD_get h h2
      have := keyD_of h4 ok h3
      rw [hk] at this; cases this
      exact absurd h5 (hn n)
theorem look_tt {ks : List (D × D)} {kk : List (List Key)} {k : D} {q : List Key} (ok : keyOk k = true) (h : tD ks = some kk) (hk : tkD k = some q) : look ks k = none ↔ ∀ m : Nat, kk[m]? ≠ some q := by
  constructor
  · intro hn m hm
    have hl := tD_len h
    have hm' : m < ks.length := by
      have := (List.getElem?_eq_some_iff.mp hm).1
      omega
    obtain ⟨⟨k1, d1⟩, hx⟩ := some_of_lt hm'
    obtain ⟨q', h1, h2⟩ := tD_get h hx
    rw [hm] at h2; cases h2
    have e := tkD_eqv h1 hk
    clear h hl
    induction ks generalizing m kk with
    | nil => simp at hx
    | cons p ks ih =>
      obtain ⟨k0, d0⟩ := p
      simp only [look] at hn
      split at hn
      · cases hn
      · rename_i hne
        cases m with
        | zero => simp only [List.getElem?_cons_zero, Option.some.injEq, Prod.mk.injEq] at hx; rw [hx.1] at hne; exact hne e
        | succ m =>
          cases kk with
          | nil => simp at hm
          | cons _ kk => exact ih hn m (kk := kk) (by simpa using hm) (by simp at hm'; omega) (by simpa using hx)
  · intro hn
    cases e : look ks k with
    | none => rfl
    | some d =>
      obtain ⟨n, _, ⟨k', h2, h3⟩, _⟩ := look_ix e
      obtain ⟨q', h4, h5⟩ := tD_get h h2
      have := tkD_of h4 ok h3
      rw [hk] at this; cases this
      exact absurd h5 (hn n)
/-- a key's value -/
theorem key_rp {k : D} {q : Key} {y : V} {U : AS} (h : Rp g F H k y U) (hk : keyD k = some q) : y = kV q := by
  cases k <;> simp only [keyD, Option.some.injEq, reduceCtorEq] at hk
  · subst hk; exact rp_int h
  · subst hk; exact rp_str h
theorem tkey_rp {k : D} {q : List Key} {y : V} {U : AS} (h : Rp g F H k y U) (hk : tkD k = some q) : ∃ b, y = .ref b ∧ H b = some (.tup (q.map kV)) := by
  cases k <;> simp only [tkD, reduceCtorEq] at hk
  rename_i ds
  obtain ⟨b, vs, rfl, hb, r⟩ := rp_tup h
  refine ⟨b, rfl, ?_⟩
  have aux : ∀ (ds : List D) (vs : List V) (q : List Key), RpL g F H ds vs e0 → keysD ds = some q → vs = q.map kV := by
    intro ds
    induction ds with
    | nil => intro vs q r hk; simp only [RpL] at r; simp only [keysD, Option.some.injEq] at hk; subst r hk; rfl
    | cons d ds ih =>
      intro vs q r hk
      simp only [keysD] at hk
      split at hk
      · rename_i a b e1 e2
        cases hk
        simp only [RpL] at r
        obtain ⟨v, r', T1, T2, rfl, h1, h2, h3, h4⟩ := r
        rw [List.map_cons, ← ih r' b (h2.mono h4) e2, key_rp h1 e1]
      · cases hk
  rw [hb, aux ds vs q r hk]
/-! ### reading a dict; an empty one is of both kinds -/
section
variable {P : Program} {w : World} {h : Heap} {a : Addr}
theorem dk_rdG {kvs : List (Key × V)} (ok : HOk P w H h) (e : Rd H a (.dK kvs) ∨ (kvs = [] ∧ Rd H a (.dT []))) : kvs.length ≤ sizeLine ∧ (a == sysModules) = false ∧ ∃ vs, KV kvs vs ∧ h.DictOf (mixKind P w) a vs := by
  rcases e with e | ⟨rfl, e⟩
  · exact dk_rd ok e
  · obtain ⟨z, y, xs, rel, o, es, ep, ho, ex, hd, hes, nd⟩ := (show ObjOk P w H h a (.dT []) from rd_of ok e)
    cases rel
    have hes' : es = #[] := by simpa using hes
    subst hes'
    exact ⟨Nat.zero_le _, y, [], .nil, o, #[], ep, ho, ex, hd, fun e he => by simp at he, .nil, List.nodup_nil⟩
theorem dt_rdG {kvs : List (List Key × V)} (ok : HOk P w H h) (e : Rd H a (.dT kvs) ∨ (kvs = [] ∧ Rd H a (.dK []))) : kvs.length ≤ sizeLine ∧ (a == sysModules) = false ∧ ∃ xs, KT H kvs xs ∧ h.DictOfH (tupleKind (mixKind P w)) a xs := by
  rcases e with e | ⟨rfl, e⟩
  · exact dt_rd ok e
  · obtain ⟨z, y, vs, rel, o, es, ep, ho, ex, hd, hk, hp, nd⟩ := (show ObjOk P w H h a (.dK []) from rd_of ok e)
    cases rel
    have hes : es.toList = [] := by
      cases h : es.toList with
      | nil => rfl
      | cons _ _ => rw [h] at hp; cases hp
    exact ⟨Nat.zero_le _, y, [], .nil, o, es, ep, ho, ex, hd, by simpa using hes, fun x hx => absurd hx (by simp), List.nodup_nil⟩
end
def DGetG (H : Hp) (a : Addr) (y : V) (r : Option V) : Prop :=
  (∃ kvs k, (Rd H a (.dK kvs) ∨ (kvs = [] ∧ Rd H a (.dT []))) ∧ y = kV k ∧ r = valV kvs k) ∨ ∃ kvs k b, (Rd H a (.dT kvs) ∨ (kvs = [] ∧ Rd H a (.dK []))) ∧ y = .ref b ∧ H b = some (.tup (k.map kV)) ∧ r = valV kvs k
theorem DGetG.of {a : Addr} {y : V} {r : Option V} (h : DGet H a y r) : DGetG H a y r := by
  rcases h with ⟨kvs, k, e, h⟩ | ⟨kvs, k, b, e, h⟩
  · exact .inl ⟨kvs, k, .inl e, h⟩
  · exact .inr ⟨kvs, k, b, .inl e, h⟩
section
variable {pins : List (Addr × Obj)} {s : Shared} {a : Addr} {y d : V} {u r : Value} {o : Option V} {A : Around} {E : Value → Shared → Prop}
theorem d_inG {Q : Value → Shared → Prop} (hu : A.units + 1 < cLine) (I : L2.Inv X pins σ H s) (g : DGetG H a y o) (ry : RelV y u) (h : ∀ s', L2.Inv X pins σ H s' → Q (.bool o.isSome) s') :
    wpAny (model X.prog X.w) A (compareOp .In u (.ref a)) Q E s := by
  rcases g with ⟨kvs, k, e, ey, l⟩ | ⟨kvs, k, b, e, ey, eb, l⟩
  · subst ey
    obtain ⟨z, hd, vs, rel, dd⟩ := dk_rdG I.hok e
    refine wpAny_in_of (kV_is ry) hd dd.mapOf ?_
    rw [← (rel.val k).isSome_eq, ← l]
    exact h _ (I.tok _)
  · subst ey
    cases (show u = Value.ref b from ry)
    obtain ⟨z, hd, xs, rel, dd⟩ := dt_rdG I.hok e
    refine wpAny_in_heap (tupleKind_room_in1 hu) (key_of I.hok eb) hd dd ?_
    have q := (rel.val k).isSome_eq
    rw [Option.isSome_map] at q
    rw [← q, ← l]
    exact h _ (I.tok _)
theorem d_notInG {Q : Value → Shared → Prop} (hu : A.units + 1 < cLine) (I : L2.Inv X pins σ H s) (g : DGetG H a y o) (ry : RelV y u) (h : ∀ s', L2.Inv X pins σ H s' → Q (.bool (!o.isSome)) s') :
    wpAny (model X.prog X.w) A (compareOp .NotIn u (.ref a)) Q E s := by
  rcases g with ⟨kvs, k, e, ey, l⟩ | ⟨kvs, k, b, e, ey, eb, l⟩
  · subst ey
    obtain ⟨z, hd, vs, rel, dd⟩ := dk_rdG I.hok e
    refine wpAny_notIn_of (kV_is ry) hd dd.mapOf ?_
    rw [← (rel.val k).isSome_eq, ← l]
    exact h _ (I.tok _)
  · subst ey
    cases (show u = Value.ref b from ry)
    obtain ⟨z, hd, xs, rel, dd⟩ := dt_rdG I.hok e
    refine wpAny_notIn_heap (tupleKind_room_in1 hu) (key_of I.hok eb) hd dd ?_
    have q := (rel.val k).isSome_eq
    rw [Option.isSome_map] at q
    rw [← q, ← l]
    exact h _ (I.tok _)
theorem d_get1G {Q : Value → Shared → Prop} (hu : A.units + 1 < cLine) (I : L2.Inv X pins σ H s) (g : DGetG H a y o) (ry : RelV y u) (h : ∀ w' s', L2.Inv X pins σ H s' → RelV (o.getD .non) w' → Q w' s') :
    wpAny (model X.prog X.w) A (PySem.call (.builtin "dict.get") [.ref a, u]) Q E s := by
  rcases g with ⟨kvs, k, e, ey, l⟩ | ⟨kvs, k, b, e, ey, eb, l⟩
  · subst ey
    obtain ⟨z, hd, vs, rel, dd⟩ := dk_rdG I.hok e
    refine call_meetsIn PySem.F.slot_dict_get dd.typeIs PySem.F.entry_dict_get (PySem.F.args_dict_get_2 _ _) (meets_dict_get (mixKind X.prog X.w) a (kV_is ry) hd) ⟨_, dd.mapOf, h _ _ (I.tok _) ?_⟩
    rw [l]
    exact (rel.val k).getD rfl
  · subst ey
    cases (show u = Value.ref b from ry)
    obtain ⟨z, hd, xs, rel, dd⟩ := dt_rdG I.hok e
    refine call_meetsIn PySem.F.slot_dict_get dd.typeIs PySem.F.entry_dict_get (PySem.F.args_dict_get_2 _ _) (meetsH_dict_get (tupleKind (mixKind X.prog X.w)) a b hd) ⟨tupleKind_room_in1 hu, k, xs, key_of I.hok eb, dd, h _ _ (I.tok _) ?_⟩
    rw [l]
    exact (rel.val k).getD rfl
theorem d_get2G {Q : Value → Shared → Prop} (hu : A.units + 1 < cLine) (I : L2.Inv X pins σ H s) (g : DGetG H a y o) (ry : RelV y u) (rd : RelV d r) (h : ∀ w' s', L2.Inv X pins σ H s' → RelV (o.getD d) w' → Q w' s') :
    wpAny (model X.prog X.w) A (PySem.call (.builtin "dict.get") [.ref a, u, r]) Q E s := by
  rcases g with ⟨kvs, k, e, ey, l⟩ | ⟨kvs, k, b, e, ey, eb, l⟩
  · subst ey
    obtain ⟨z, hd, vs, rel, dd⟩ := dk_rdG I.hok e
    refine call_meetsIn PySem.F.slot_dict_get dd.typeIs PySem.F.entry_dict_get (PySem.F.args_dict_get_3 _ _ _) (meets_dict_get_default (mixKind X.prog X.w) a (kV_is ry) hd r) ⟨_, dd.mapOf, h _ _ (I.tok _) ?_⟩
    rw [l]
    exact (rel.val k).getD rd
  · subst ey
    cases (show u = Value.ref b from ry)
    obtain ⟨z, hd, xs, rel, dd⟩ := dt_rdG I.hok e
    refine call_meetsIn PySem.F.slot_dict_get dd.typeIs PySem.F.entry_dict_get (PySem.F.args_dict_get_3 _ _ _) (meetsH_dict_get_default (tupleKind (mixKind X.prog X.w)) a b hd r) ⟨tupleKind_room_in1 hu, k, xs, key_of I.hok eb, dd, h _ _ (I.tok _) ?_⟩
    rw [l]
    exact (rel.val k).getD rd
end
/-- what a dict holds at a key: the reading DGet -/
theorem dc_get {ks : List (D × D)} {vs : List V} {W : AS} {a : Addr} {k : D} {y : V} {U : AS} (c : DcAt H a ks vs) (r : RpK g F H ks vs W) (hk : kFit ks k = true) (rk : Rp g F H k y U) :
    (look ks k = none ∧ DGetG H a y none) ∨
    ∃ e ve, look ks k = some e ∧ DGet H a y (some ve) ∧ Rp g F H e ve W ∧ ChV g H a ve (.ky k) := by
  rw [RpK_iff] at r
  have hl : ks.length = vs.length := by simpa using r.length
  have ok := kFit_ok hk
  simp only [kFit, Bool.or_eq_true, Bool.and_eq_true] at hk
  rcases hk with ⟨h1, h2⟩ | ⟨h1, h2⟩
  · obtain ⟨q, hq⟩ := isK_key h1
    obtain ⟨kk, hkk⟩ := kD_all h2
    have ey := key_rp rk hq
    subst ey
    rcases c with ⟨kk', e1, nd, e2⟩ | ⟨tt, e1, nd, e2⟩
    · rw [hkk] at e1; cases e1
      cases e : look ks k with
      | none => exact .inl ⟨rfl, .inl ⟨_, q, .inl e2, rfl, (valV_no ((look_kk hkk hq).mp e)).symm⟩⟩
      | some d =>
        obtain ⟨n, i1, ⟨k', i2, i3⟩, i4, i5⟩ := look_ix e
        obtain ⟨q', q1, q2⟩ := kD_get hkk i2
        have := keyD_of q1 ok i3
        rw [hq] at this; cases this
        obtain ⟨ve, hve, rv⟩ := r.get i1
        have hfirst : ∀ m, m < n → kk[m]? ≠ some q := fun m hm z => by
          have hm' : m < ks.length := by have := (List.getElem?_eq_some_iff.mp i2).1; omega
          obtain ⟨⟨k1, d1⟩, hx⟩ := some_of_lt hm'
          obtain ⟨q', q3, q4⟩ := kD_get hkk hx
          rw [q4] at z; cases z
          have := i4 m k1 d1 hm hx
          rw [keyD_eqv q3 hq] at this; cases this
        exact .inr ⟨d, ve, rfl, .inl ⟨_, q, e2, rfl, (valV_ix q2 hfirst hve).symm⟩, rv, .inl ⟨kk, vs, n, q, e2, hq, q2, hfirst, hve⟩⟩
    · have := kD_tD hkk e1
      subst this
      simp only [tD, Option.some.injEq] at e1
      subst e1
      exact .inl ⟨rfl, .inl ⟨[], q, .inr ⟨rfl, by simpa using e2⟩, rfl, rfl⟩⟩
  · obtain ⟨q, hq⟩ := isTK_key h1
    obtain ⟨kk, hkk⟩ := tD_all h2
    obtain ⟨b, ey, hb⟩ := tkey_rp rk hq
    subst ey
    rcases c with ⟨tt, e1, nd, e2⟩ | ⟨kk', e1, nd, e2⟩
    · have := kD_tD e1 hkk
      subst this
      simp only [kD, Option.some.injEq] at e1
      subst e1
      exact .inl ⟨rfl, .inr ⟨[], q, b, .inr ⟨rfl, by simpa using e2⟩, rfl, hb, rfl⟩⟩
    · rw [hkk] at e1; cases e1
      cases e : look ks k with
      | none => exact .inl ⟨rfl, .inr ⟨_, q, b, .inl e2, rfl, hb, (valV_no ((look_tt ok hkk hq).mp e)).symm⟩⟩
      | some d =>
        obtain ⟨n, i1, ⟨k', i2, i3⟩, i4, i5⟩ := look_ix e
        obtain ⟨q', q1, q2⟩ := tD_get hkk i2
        have := tkD_of q1 ok i3
        rw [hq] at this; cases this
        obtain ⟨ve, hve, rv⟩ := r.get i1
        have hfirst : ∀ m, m < n → kk[m]? ≠ some q := fun m hm z => by
          have hm' : m < ks.length := by have := (List.getElem?_eq_some_iff.mp i2).1; omega
          obtain ⟨⟨k1, d1⟩, hx⟩ := some_of_lt hm'
          obtain ⟨q', q3, q4⟩ := tD_get hkk hx
          rw [q4] at z; cases z
          have := i4 m k1 d1 hm hx
          rw [tkD_eqv q3 hq] at this; cases this
        exact .inr ⟨d, ve, rfl, .inr ⟨_, q, b, e2, rfl, hb, (valV_ix q2 hfirst hve).symm⟩, rv, .inr ⟨kk, vs, n, q, e2, hq, q2, hfirst, hve⟩⟩

/-! ### an empty dict is of both kinds -/
theorem Inv.toK {pins : List (Addr × Obj)} {s : Shared} {a : Addr} (I : L2.Inv X pins σ H s) (e : H a = some (.dT [])) : L2.Inv X pins σ (upd H a (.dK [])) s := by
  obtain ⟨z, y, xs, rel, o, es, ep, ho, ex, hd, hes, nd⟩ := (show ObjOk X.prog X.w H s.heap a (.dT []) from I.hok a _ e)
  cases rel
  have hes' : es = #[] := by simpa using hes
  subst hes'
  have := I.write (x := a) (e := a) (o := .dK []) (h' := s.heap) (t' := s.toks) (by rw [e]; trivial) (.inl rfl) (fun _ _ _ q => q) ⟨o, ho⟩
    ⟨Nat.zero_le _, y, [], .nil, o, #[], ep, ho, ex, hd, fun e he => by simp at he, .nil, List.nodup_nil⟩
  exact this
theorem Inv.toT {pins : List (Addr × Obj)} {s : Shared} {a : Addr} (I : L2.Inv X pins σ H s) (e : H a = some (.dK [])) : L2.Inv X pins σ (upd H a (.dT [])) s := by
  obtain ⟨z, y, vs, rel, o, es, ep, ho, ex, hd, hk, hp, nd⟩ := (show ObjOk X.prog X.w H s.heap a (.dK []) from I.hok a _ e)
  cases rel
  have hes : es.toList = [] := by
    cases h : es.toList with
    | nil => rfl
    | cons _ _ => rw [h] at hp; cases hp
  have := I.write (x := a) (e := a) (o := .dT []) (h' := s.heap) (t' := s.toks) (by rw [e]; trivial) (.inl rfl) (fun _ _ _ q => q) ⟨o, ho⟩
    ⟨Nat.zero_le _, y, [], .nil, o, es, ep, ho, ex, hd, by simpa using hes, List.nodup_nil⟩
  exact this
theorem upd_back {a : Addr} {o o' : HO} (e : H a = some o) : upd (upd H a o') a o = H := by
  rw [upd_upd]
  funext b
  by_cases hb : b = a
  · subst hb; rw [upd_same, e]
  · rw [upd_ne hb]
/-- in, not in, of a dict -/
def fdin (neg : Bool) (a b : D) : Option D := match b with
  | .dct _ ks => if kFit ks a then some (.bl (if neg then !(look ks a).isSome else (look ks a).isSome)) else none
  | _ => none
theorem or_din (hu : X.A.units + 66 < cLine) : OpR X (compareOp .In) (rD g (fdin false)) := by
  intro pins s σ H x y v u Q I rx ry ⟨F, d1, d2, U1, U2, d, h1, h2, hd, hF, q⟩
  cases d2 <;> simp only [fdin, reduceCtorEq] at hd
  split at hd
  · rename_i o ks hk
    cases hd
    simp only [Rp] at h2
    obtain ⟨a, vs, W, rfl, r, _, c, _⟩ := h2
    obtain rfl : u = Value.ref a := ry
    rcases dc_get c r hk h1 with ⟨hn, hg⟩ | ⟨e, ve, he, hg, _⟩
    · rw [hn] at q
      exact d_inG (by omega) I hg rx fun s' I' => ⟨.bl _, H, I', rfl, q _ _ (new_old (mk_bl _ _))⟩
    · rw [he] at q
      exact d_in (by omega) I hg rx fun s' I' => ⟨.bl _, H, I', rfl, q _ _ (new_old (mk_bl _ _))⟩
  · cases hd
theorem or_dnin (hu : X.A.units + 66 < cLine) : OpR X (compareOp .NotIn) (rD g (fdin true)) := by
  intro pins s σ H x y v u Q I rx ry ⟨F, d1, d2, U1, U2, d, h1, h2, hd, hF, q⟩
  cases d2 <;> simp only [fdin, reduceCtorEq] at hd
  split at hd
  · rename_i o ks hk
    cases hd
    simp only [Rp] at h2
    obtain ⟨a, vs, W, rfl, r, _, c, _⟩ := h2
    obtain rfl : u = Value.ref a := ry
    rcases dc_get c r hk h1 with ⟨hn, hg⟩ | ⟨e, ve, he, hg, _⟩
    · rw [hn] at q
      exact d_notInG (by omega) I hg rx fun s' I' => ⟨.bl _, H, I', rfl, q _ _ (new_old (mk_bl _ _))⟩
    · rw [he] at q
      exact d_notIn (by omega) I hg rx fun s' I' => ⟨.bl _, H, I', rfl, q _ _ (new_old (mk_bl _ _))⟩
  · cases hd
theorem or_inA (K : X.K = g.K) (hu : X.A.units + 66 < cLine) : OpR X (compareOp .In) (rD g (fcop .in_)) := by
  intro pins s σ H x y v u Q I rx ry ⟨F, d1, d2, U1, U2, d, h1, h2, hd, hF, q⟩
  have two : fin false d1 d2 = some d ∨ fdin false d1 d2 = some d := by
    cases d2 with
    | tup ds => left; simp only [fcop, cop, fin] at hd ⊢; split at hd <;> simp_all
    | lst o ds => left; simp only [fcop, cop, fin] at hd ⊢; split at hd <;> simp_all
    | dct o ks => right; simp only [fcop, cop, fdin] at hd ⊢; split at hd <;> simp_all
    | _ => simp [fcop, cop] at hd
  rcases two with z | z
  · exact or_in K hu pins s σ H x y v u Q I rx ry ⟨F, d1, d2, U1, U2, d, h1, h2, z, hF, q⟩
  · exact or_din hu pins s σ H x y v u Q I rx ry ⟨F, d1, d2, U1, U2, d, h1, h2, z, hF, q⟩
theorem or_ninA (K : X.K = g.K) (hu : X.A.units + 66 < cLine) : OpR X (compareOp .NotIn) (rD g (fcop .nin)) := by
  intro pins s σ H x y v u Q I rx ry ⟨F, d1, d2, U1, U2, d, h1, h2, hd, hF, q⟩
  have two : fin true d1 d2 = some d ∨ fdin true d1 d2 = some d := by
    cases d2 with
    | tup ds => left; simp only [fcop, cop, fin] at hd ⊢; split at hd <;> simp_all
    | lst o ds => left; simp only [fcop, cop, fin] at hd ⊢; split at hd <;> simp_all
    | dct o ks => right; simp only [fcop, cop, fdin] at hd ⊢; split at hd <;> simp_all
    | _ => simp [fcop, cop] at hd
  rcases two with z | z
  · exact or_nin K hu pins s σ H x y v u Q I rx ry ⟨F, d1, d2, U1, U2, d, h1, h2, z, hF, q⟩
  · exact or_dnin hu pins s σ H x y v u Q I rx ry ⟨F, d1, d2, U1, U2, d, h1, h2, z, hF, q⟩
end
end LPS

set_option autoImplicit false
set_option linter.all false
set_option maxRecDepth 100000
/-! subscripts, attributes, slices, get -/
namespace LPS
open PySem PySem.Spec PyProof.Rows L2 LP
section
variable {g : Gk} {call : LP.Cll} {σ : L2.St} {F F1 F2 : AS} {H H1 H2 : Hp} {ρ ρ1 ρ2 : LP.Env} {fp fp1 fp2 : Nat → AS} {T T1 T2 : AS} {X : Cx}
theorem getP_snoc : ∀ {p : List Stp} {r d e : D} {s : Stp}, getP r p = some d → getS d s = some e → getP r (p ++ [s]) = some e
  | [], r, d, e, s, h, h' => by simp only [getP, Option.some.injEq] at h; subst h; simp [getP, h']
  | t :: p, r, d, e, s, h, h' => by
    simp only [getP] at h
    split at h
    · rename_i e1 h1
      simp only [List.cons_append, getP, h1]
      exact getP_snoc h h'
    · cases h
theorem WkV_snoc : ∀ {p : List Stp} {r v e : V} {a : Addr} {s : Stp}, WkV g H r p v → v = .ref a → ChV g H a e s → WkV g H r (p ++ [s]) e
  | [], r, v, e, a, s, h, hv, hc => by
    have h : r = v := h
    exact ⟨a, e, h.trans hv, hc, rfl⟩
  | t :: p, r, v, e, a, s, ⟨b, x, h1, h2, h3⟩, hv, hc => ⟨b, x, h1, h2, WkV_snoc h3 hv hc⟩
theorem sub_ko {d e : D} {k : Kd} {v ve : V} {s : Stp} {U : AS} {o : Out} (h : KO g σ F H ρ d k v T) (gs : getS d s = some e) (ho : subOut ⟨d, k, ρ⟩ s = some o) (re : Rp g F H e ve U) (reT : k = .val → Rp g F H e ve T)
    (ch : LP.pers e = false → ∃ a, v = .ref a ∧ ChV g H a ve s) : o.ρ = ρ ∧ KO g σ F H ρ o.d o.k ve T := by
  simp only [subOut, gs] at ho
  cases k with
  | val => cases ho; exact ⟨rfl, reT rfl⟩
  | vw i p =>
    cases ho
    refine ⟨rfl, ?_⟩
    simp only [viewAt]
    cases hp : LP.pers e with
    | true => exact Rp.pers e ve U T hp re
    | false =>
      obtain ⟨np, r, vr, h1, h2, h3, h4⟩ := h
      obtain ⟨a, ea, hc⟩ := ch hp
      exact ⟨hp, r, vr, h1, h2, getP_snoc h3 gs, WkV_snoc h4 ea hc⟩
theorem ixOf_eq (n : Nat) (i : Int) : ixOf n i = ixN n i := rfl
theorem RpL.getT {ds : List D} {vs : List V} {W : AS} {n : Nat} {e : D} (h : RpL g F H ds vs W) (hn : ds[n]? = some e) : ∃ ve, vs[n]? = some ve ∧ Rp g F H e ve W := h.get hn
/-- d[k]: its reading by cases -/
theorem idx_rd (inj : ∀ i j, g.an i = g.an j → i = j) (K : X.K = g.K) {ea ek : E} {o : Out} {Q : VK} (s : St1 g F H ρ σ fp) (ho : LP.ev call (.idx ea ek) ρ = some o)
    (k : ∀ v F' H' fp' T, Ps g σ F H ρ fp F' H' o.ρ fp' T → KO g σ F' H' o.ρ o.d o.k v T → Q v H') :
    (tOp (rIxL X.K) (tE g call ea) (tE g call ek) σ H Q ∨ tOp (rIxT X.K) (tE g call ea) (tE g call ek) σ H Q) ∨ (tOp rIxS (tE g call ea) (tE g call ek) σ H Q ∨ tDGet (tE g call ea) (tE g call ek) σ H Q) := by
  simp only [LP.ev] at ho
  split at ho
  · rename_i o1 h1
    split at ho
    · rename_i o2 h2
      split at ho
      · rename_i ns i e1 e2
        split at ho
        · rename_i n hn
          split at ho
          · rename_i c hc
            cases ho
            refine .inl (.inl (seq2 inj s h1 h2 fun v1 v2 F2 H2 fp2 T1 T2 p k1 k2 ⟨U1, r1⟩ ⟨U2, r2⟩ => ?_))
            rw [e1] at r1
            rw [e2] at r2
            obtain rfl := rp_int r2
            simp only [Rp] at r1
            obtain ⟨a, rfl, sc⟩ := r1
            have sq : SqL g.K H2 a (ns.map V.int) := by
              rcases sc with ⟨sc, _⟩ | ⟨ob, sc⟩ | sc
              · exact .inl (.inl sc)
              · exact .inl (.inr ⟨ob, sc⟩)
              · exact sc H2
            refine ⟨a, _, i, .int c, rfl, rfl, K ▸ sq, ?_, k _ F2 H2 fp2 e0 p.drop (ko_val (mk_int _ _))⟩
            unfold atI
            rw [List.length_map, ← ixOf_eq, hn, Option.bind_some, List.getElem?_map, hc]
            rfl
          · cases ho
        · cases ho
      · rename_i st i e1 e2
        split at ho
        · rename_i hl
          split at ho
          · rename_i n hn
            split at ho
            · rename_i c hc
              cases ho
              refine .inr (.inl (seq2 inj s h1 h2 fun v1 v2 F2 H2 fp2 T1 T2 p k1 k2 ⟨U1, r1⟩ ⟨U2, r2⟩ => ?_))
              rw [e1] at r1
              rw [e2] at r2
              obtain rfl := rp_int r2
              obtain rfl := rp_str r1
              refine ⟨sV st, i, c, rfl, rfl, by rw [sV_len, lim_eq]; omega, ?_, k _ F2 H2 fp2 e0 p.drop (ko_val (mk_str [c] _))⟩
              unfold atI
              show (ixN (sV st).cps.toList.length i).bind _ = _
              simp only [sV, List.toList_toArray]
              rw [← ixOf_eq, hn, Option.bind_some, hc]
            · cases ho
          · cases ho
        · cases ho
      · rename_i d1 d2 hx1 hx2
        split at ho
        · rename_i st hs
          have ge : ∃ e, getS o1.d st = some e := by
            simp only [subOut] at ho
            split at ho
            · cases ho
            · rename_i e he; exact ⟨e, he⟩
          obtain ⟨e, he⟩ := ge
          cases hd1 : o1.d with
          | lst ow ds =>
            rw [hd1] at hs he
            cases hd2 : o2.d with
            | int i =>
              rw [hd2] at hs
              simp only [stepOf, Option.map_eq_some_iff] at hs
              obtain ⟨n, hn, rfl⟩ := hs
              simp only [getS] at he
              refine .inl (.inl (seq2 inj s h1 h2 fun v1 v2 F2 H2 fp2 T1 T2 p k1 k2 ⟨U1, r1⟩ ⟨U2, r2⟩ => ?_))
              rw [hd2] at r2
              obtain rfl := rp_int r2
              rw [hd1] at r1 k1 ho
              obtain ⟨a, vs, W, rfl, ha, r⟩ := rp_lst r1
              obtain ⟨ve, hv, rv⟩ := r.get he
              obtain ⟨eρ, ko⟩ := sub_ko (s := .ix n) k1 (by simpa only [getS] using he) ho rv (fun hk => by
                rw [hk] at k1
                have k1 : Rp g F2 H2 (.lst ow ds) (.ref a) T1 := k1
                simp only [Rp] at k1
                obtain ⟨a', vs', W', ea, r', hW, ha', _⟩ := k1
                cases ea
                rw [ha] at ha'; cases ha'
                obtain ⟨ve', hv', rv'⟩ := r'.get he
                rw [hv] at hv'; cases hv'
                exact rv'.mono fun b hb => (hW b hb).1) fun _ => ⟨a, rfl, vs, ha, hv⟩
              refine ⟨a, vs, i, ve, rfl, rfl, SqL.of ha, ?_, ?_⟩
              · unfold atI
                rw [← r.length, ← ixOf_eq, hn, Option.bind_some, hv]
              · exact k ve F2 H2 fp2 T1 (by rw [eρ]; exact p.weak fun x z => .inl z) (by rw [eρ]; exact ko)
            | _ => rw [hd2] at hs; simp [stepOf] at hs
          | tup ds =>
            rw [hd1] at hs he
            cases hd2 : o2.d with
            | int i =>
              rw [hd2] at hs
              simp only [stepOf, Option.map_eq_some_iff] at hs
              obtain ⟨n, hn, rfl⟩ := hs
              simp only [getS] at he
              refine .inl (.inr (seq2 inj s h1 h2 fun v1 v2 F2 H2 fp2 T1 T2 p k1 k2 ⟨U1, r1⟩ ⟨U2, r2⟩ => ?_))
              rw [hd2] at r2
              obtain rfl := rp_int r2
              rw [hd1] at r1 k1 ho
              obtain ⟨a, vs, rfl, ha, r⟩ := rp_tup r1
              obtain ⟨ve, hv, rv⟩ := r.get he
              obtain ⟨eρ, ko⟩ := sub_ko (s := .ix n) k1 (by simpa only [getS] using he) ho rv (fun _ => rv.mono fun b z => z.elim) fun np => by rw [pers_of _ _ rv] at np; cases np
              refine ⟨a, vs, i, ve, rfl, rfl, SqT.of ha, ?_, ?_⟩
              · unfold atI
                rw [← r.length, ← ixOf_eq, hn, Option.bind_some, hv]
              · exact k ve F2 H2 fp2 T1 (by rw [eρ]; exact p.weak fun x z => .inl z) (by rw [eρ]; exact ko)
            | _ => rw [hd2] at hs; simp [stepOf] at hs
          | dct ow ks =>
            rw [hd1] at hs he
            simp only [stepOf] at hs
            split at hs
            · rename_i hf
              cases hs
              simp only [getS, if_pos hf] at he
              refine .inr (.inr (seq2 inj s h1 h2 fun v1 v2 F2 H2 fp2 T1 T2 p k1 k2 ⟨U1, r1⟩ ⟨U2, r2⟩ => ?_))
              rw [hd1] at r1 k1 ho
              have r1' := r1
              simp only [Rp] at r1'
              obtain ⟨a, vs, W, rfl, r, _, c, _⟩ := r1'
              rcases dc_get c r hf r2 with ⟨hn, _⟩ | ⟨e', ve, he', hg, rv, hch⟩
              · rw [hn] at he; cases he
              · rw [he] at he'; cases he'
                obtain ⟨eρ, ko⟩ := sub_ko (s := .ky o2.d) k1 (by simp only [getS, if_pos hf]; exact he) ho rv (fun hk => by
                  rw [hk] at k1
                  have k1 : Rp g F2 H2 (.dct ow ks) (.ref a) T1 := k1
                  simp only [Rp] at k1
                  obtain ⟨a', vs', W', ea, r', hW, c', _⟩ := k1
                  cases ea
                  rcases dc_get c' r' hf r2 with ⟨hn, _⟩ | ⟨e', ve', he', hg', rv', hch'⟩
                  · rw [hn] at he; cases he
                  · rw [he] at he'; cases he'
                    obtain rfl := hch.det hch'
                    exact rv'.mono fun b hb => (hW b hb).1) fun _ => ⟨a, rfl, hch⟩
                exact ⟨a, ve, rfl, hg, k ve F2 H2 fp2 T1 (by rw [eρ]; exact p.weak fun x z => .inl z) (by rw [eρ]; exact ko)⟩
            · cases hs
          | _ => rw [hd1] at hs; simp [stepOf] at hs
        · cases ho
    · cases ho
  · cases ho
end
end LPS

set_option autoImplicit false
set_option linter.all false
set_option maxRecDepth 100000
/-! attributes, slices, methods that change nothing -/
namespace LPS
open PySem PySem.Spec PyProof.Rows L2 LP
/-- a plain expression: not a star, not a slice -/
def plainE : Expr → Bool
  | .Starred _ _ => false
  | .Slice _ _ _ _ => false
  | .Tuple es _ _ => es.all fun e => match e with
    | .Starred _ _ => false
    | .Slice _ _ _ _ => false
    | _ => true
  | .Call (.Name _ _) [] [] _ => false
  | _ => true
theorem plain_star {a : Expr} {as : List Expr} {env : PySem.Env} (h : plainE a = true) : starEach (a :: as) env = (false, eval a env) :: starEach as env := by
  cases a <;> first | rfl | (simp [plainE] at h)
theorem plain_base {a : Expr} {f : PySem.Str} {env : PySem.Env} (h : plainE a = true) : attributeBase a f env (eval a env) = eval a env := by
  cases a with
  | Call fn args kws pos =>
    cases fn with
    | Name id p =>
      cases args with
      | nil =>
        cases kws with
        | nil => simp [plainE] at h
        | cons _ _ => rfl
      | cons _ _ => rfl
    | _ => rfl
  | _ => rfl
section
variable {g : Gk} {call : LP.Cll} {σ : L2.St} {F F1 F2 : AS} {H H1 H2 : Hp} {ρ ρ1 ρ2 : LP.Env} {fp fp1 fp2 : Nat → AS} {T T1 T2 : AS} {X : Cx}
theorem pe_idxL (inj : ∀ i j, g.an i = g.an j → i = j) (K : X.K = g.K) (hu : X.A.units + 66 < cLine) {a b : Expr} {ea eb : E} {pos : Pos} (ha : PE X a (tE g call ea)) (hb : PE X b (tE g call eb)) (hp : PlainIx b) : PE X (.Subscript a b pos) (tE g call (.idx ea eb)) :=
  (((pe_ix ix_list ha hb hp).or (pe_ix ix_tup ha hb hp)).or ((pe_ix ix_str ha hb hp).or (pe_dget (by omega) ha hb hp))).imp fun σ H Q ⟨F, ρ, fp, s, o, ho, k⟩ => idx_rd inj K s ho k
theorem lookup_ix {ns : List PySem.Str} {vs : List V} {n : Nat} {x : PySem.Str} {e : V} (h1 : ns[n]? = some x) (h2 : ∀ m, m < n → ns[m]? ≠ some x) (h3 : vs[n]? = some e) : (ns.zip vs).lookup x = some e := by
  induction ns generalizing vs n with
  | nil => simp at h1
  | cons k ns ih =>
    cases vs with
    | nil => simp at h3
    | cons v vs =>
      cases n with
      | zero =>
        simp only [List.getElem?_cons_zero, Option.some.injEq] at h1 h3
        subst h1 h3
        simp
      | succ n =>
        have hne : ¬ x = k := fun e => h2 0 (Nat.succ_pos _) (by simp [e])
        rw [List.zip_cons_cons, List.lookup_cons]
        have : (x == k) = false := beq_eq_false_iff_ne.mpr hne
        rw [this]
        exact ih (by simpa using h1) (fun m hm z => h2 (m + 1) (by omega) (by simpa using z)) (by simpa using h3)
theorem pe_attrL (inj : ∀ i j, g.an i = g.an j → i = j) (K : X.K = g.K) {a : Expr} {ea : E} {f : Nat} {pos : Pos} (hc : ∀ c, Cls g.K (g.cl c)) (hn : ∀ c, NoAttr g.K (g.cl c) (g.an f)) (ha : PE X a (tE g call ea)) (hb : attributeBase a (g.an f) X.env (eval a X.env) = eval a X.env) : PE X (.Attribute a (g.an f) pos) (tE g call (.attr ea f)) :=
  (pe_fld ha hb).imp fun σ H Q ⟨F, ρ, fp, s, o, ho, k⟩ => by
    simp only [LP.ev] at ho
    split at ho
    · rename_i o1 h1
      refine ⟨F, ρ, fp, s, o1, h1, fun v1 F1 H1 fp1 T1 p1 k1 => ?_⟩
      obtain ⟨U, r1⟩ := k1.rp inj p1.st
      have ge : ∃ e, getS o1.d (.at f) = some e := by
        simp only [subOut] at ho
        split at ho
        · cases ho
        · rename_i e he; exact ⟨e, he⟩
      obtain ⟨e, he⟩ := ge
      cases hd : o1.d with
      | ins ow c fs =>
        rw [hd] at he r1 k1
        have ho' : subOut ⟨.ins ow c fs, o1.k, o1.ρ⟩ (.at f) = some o := by rw [← hd]; exact ho
        have r1' := r1
        simp only [Rp, RpF_iff] at r1'
        obtain ⟨b, vs, W, rfl, r, _, ⟨dx, hi⟩, _⟩ := r1'
        simp only [getS] at he
        obtain ⟨n, i1, i2, i3, i4⟩ := lookF_ix he
        obtain ⟨ve, hv, rv⟩ := r.get i1
        have hns : (fs.map fun p => g.an p.1)[n]? = some (g.an f) := by rw [List.getElem?_map, i2]; rfl
        have hfi : ∀ m, m < n → (fs.map fun p => g.an p.1)[m]? ≠ some (g.an f) := fun m hm z => by
          rw [List.getElem?_map] at z
          cases hx : fs[m]? with
          | none => rw [hx] at z; cases z
          | some p =>
            rw [hx] at z
            simp only [Option.map_some, Option.some.injEq] at z
            exact i3 m p hm hx (inj _ _ z)
        obtain ⟨eρ, ko⟩ := sub_ko (s := .at f) k1 (by simpa only [getS] using he) ho' rv (fun hk => by
          rw [hk] at k1
          have k1 : Rp g F1 H1 (.ins ow c fs) (.ref b) T1 := k1
          simp only [Rp, RpF_iff] at k1
          obtain ⟨b', vs', W', eb, r', hW, ⟨dx', hi'⟩, _⟩ := k1
          cases eb
          rw [hi] at hi'
          simp only [Option.some.injEq, HO.ins.injEq] at hi'
          obtain ⟨ve', hv', rv'⟩ := r'.get i1
          have := zip_first hi'.2.2 hns hfi hv hns hfi hv'
          subst this
          exact rv'.mono fun b hb => (hW b hb).1) fun _ => ⟨b, rfl, _, dx, _, vs, n, hi, hns, hfi, hv⟩
        refine ⟨b, _, dx, _, ve, rfl, hi, K ▸ hc c, K ▸ hn c, lookup_ix hns hfi hv, k ve F1 H1 fp1 T1 (by rw [eρ]; exact p1) (by rw [eρ]; exact ko)⟩
      | _ => rw [hd] at he; simp [getS] at he
    · cases ho
/-! ### slices -/
def tO (g : Gk) (call : LP.Cll) (e : Oe) : TO := fun σ H Q => ∃ F ρ fp, St1 g F H ρ σ fp ∧ ∃ d ρ' l, LP.evO call e ρ = some (d, ρ') ∧ optI d = some l ∧ ∀ F' H' fp', Ps g σ F H ρ fp F' H' ρ' fp' e0 → Q l H'
theorem po_no : PO X none (tO g call .no) := ⟨fun pins s σ H Q I ⟨F, ρ, fp, st, d, ρ', l, h, hl, k⟩ => by
  simp only [LP.evO, Option.some.injEq, Prod.mk.injEq] at h
  obtain ⟨rfl, rfl⟩ := h
  simp only [optI, Option.some.injEq] at hl
  subst hl
  exact po_none.run pins s σ H Q I (k F H fp (Ps.refl st))⟩
theorem po_so (inj : ∀ i j, g.an i = g.an j → i = j) {a : Expr} {e : E} (h : PE X a (tE g call e)) : PO X (some a) (tO g call (.so e)) := ⟨fun pins s σ H Q I ⟨F, ρ, fp, st, d, ρ', l, h1, hl, k⟩ => by
  refine (po_some h).run pins s σ H Q I ?_
  simp only [LP.evO] at h1
  split at h1
  · rename_i o ho
    split at h1
    · rename_i d' ρ1 hw
      simp only [Option.some.injEq, Prod.mk.injEq] at h1
      obtain ⟨rfl, rfl⟩ := h1
      have hi : ∃ i, d' = .int i ∧ l = some i := by
        cases d' <;> simp [optI] at hl
        exact ⟨_, rfl, hl.symm⟩
      obtain ⟨i, rfl, rfl⟩ := hi
      refine ⟨F, ρ, fp, st, o, ho, fun v F1 H1 fp1 T1 p1 k1 => ?_⟩
      obtain ⟨F2, fp2, T2, p2, r2⟩ := own_ok inj p1 k1 hw
      exact ⟨i, rp_int r2, k F2 H1 fp2 p2.drop⟩
    · cases h1
  · cases h1⟩
theorem cut_eq {α : Type} (xs : List α) (lo hi : Option Int) : cut xs lo hi = (xs.drop (HT.sIx xs.length 0 lo)).take (HT.sIx xs.length xs.length hi - HT.sIx xs.length 0 lo) := by
  have h1 : ∀ o, cutLo xs.length o = HT.sIx xs.length 0 o := fun o => by cases o <;> rfl
  have h2 : ∀ o, cutHi xs.length o = HT.sIx xs.length xs.length o := fun o => by cases o <;> rfl
  unfold cut
  rw [h1, h2]
theorem slc_rd (inj : ∀ i j, g.an i = g.an j → i = j) (K : X.K = g.K) {ea : E} {lo hi : Oe} {o : Out} {Q : VK} (s : St1 g F H ρ σ fp) (ho : LP.ev call (.slc ea lo hi) ρ = some o)
    (k : ∀ v F' H' fp' T, Ps g σ F H ρ fp F' H' o.ρ fp' T → KO g σ F' H' o.ρ o.d o.k v T → Q v H') :
    tSl rSlS (tE g call ea) (tO g call lo) (tO g call hi) σ H Q ∨ (tSl (rSlL X.K) (tE g call ea) (tO g call lo) (tO g call hi) σ H Q ∨ tSl (rSlA X.K) (tE g call ea) (tO g call lo) (tO g call hi) σ H Q) := by
  simp only [LP.ev] at ho
  split at ho
  · rename_i o1 h1
    split at ho
    · rename_i l ρ1 h2
      split at ho
      · rename_i h ρ2 h3
        split at ho
        · rename_i l' h' hl hh
          split at ho
          · rename_i d hd
            cases ho
            have run : ∀ {r : V → Option Int → Option Int → Hp → VK → Prop}, (∀ v F2 H2 fp2, (∃ U, Rp g F2 H2 o1.d v U) → Ps g σ F H ρ fp F2 H2 (unlock o1.k o1.ρ ρ2) fp2 e0 → r v l' h' H2 Q) → tSl r (tE g call ea) (tO g call lo) (tO g call hi) σ H Q := fun {r} hr =>
              ⟨F, ρ, fp, s, o1, h1, fun v1 F1 H1 fp1 T1 p1 k1 => ⟨F1, _, fp1, p1.st.lock _, l, ρ1, l', h2, hl, fun F2 H2 fp2 p2 => ⟨F2, ρ1, fp2, p2.st, h, ρ2, h', h3, hh, fun F3 H3 fp3 p3 => by
                obtain ⟨T, k1', p⟩ := KO.stay2 inj p1 k1 (p2.trans p3)
                exact hr v1 F3 H3 fp3 (k1'.rp inj p.st) p.drop⟩⟩⟩
            cases hd1 : o1.d with
            | str st =>
              rw [hd1] at hd
              simp only [slc] at hd
              split at hd
              · rename_i hlen
                cases hd
                refine .inl (run fun v F2 H2 fp2 ⟨U, r⟩ p => ?_)
                rw [hd1] at r
                obtain rfl := rp_str r
                refine ⟨sV st, rfl, by rw [sV_len, lim_eq]; omega, ?_⟩
                have e : cutS (sV st) l' h' = sV (cut st l' h') := by
                  rw [cut_eq]
                  unfold cutS
                  rw [sV_len]
                  simp [sV]
                rw [e]
                exact k _ F2 H2 fp2 e0 p (ko_val (mk_str _ _))
              · cases hd
            | tup ds =>
              rw [hd1] at hd
              simp only [slc, Option.some.injEq] at hd
              subst hd
              refine .inr (.inr (run fun v F2 H2 fp2 ⟨U, r⟩ p => ?_))
              rw [hd1] at r
              have r0 := r
              obtain ⟨a, vs, rfl, ha, r⟩ := rp_tup r
              have rc : RpL g F2 H2 (cut ds l' h') (cutV vs l' h') e0 := by
                rw [cut_eq]
                unfold cutV
                rw [r.length]
                exact (r.drop _).take _
              refine ⟨a, vs, rfl, SqT.of ha, fun hw => ?_, fun _ q hq => ?_⟩
              · have e : cut ds l' h' = ds := by
                  rw [cut_eq, r.length, hw.1, hw.2]
                  rw [List.drop_zero, Nat.sub_zero, ← r.length, List.take_length]
                rw [e] at k
                exact k _ F2 H2 fp2 e0 p (ko_val (show Rp g F2 H2 (.tup ds) _ _ from (by simpa only [Rp] using r0)))
              · obtain ⟨T, p', r'⟩ := p.newV (new_tup p.st.fz hq rc)
                exact k _ F2 _ fp2 T p' r'
            | lst ow ds =>
              rw [hd1] at hd
              simp only [slc] at hd
              split at hd
              · rename_i hp
                cases hd
                refine .inr (.inl (run fun v F2 H2 fp2 ⟨U, r⟩ p => ?_))
                rw [hd1] at r
                obtain ⟨a, vs, W, rfl, ha, r⟩ := rp_lst r
                have r := RpL.of_all hp r
                have rc : RpL g F2 H2 (cut ds l' h') (cutV vs l' h') e0 := by
                  rw [cut_eq]
                  unfold cutV
                  rw [r.length]
                  exact (r.drop _).take _
                refine ⟨a, vs, rfl, SqL.of ha, fun q hq => ?_⟩
                obtain ⟨T, p', r'⟩ := p.newV (new_lst p.st.fz hq rc)
                exact k _ F2 _ fp2 T p' r'
              · cases hd
            | _ => rw [hd1] at hd; simp [slc] at hd
          · cases ho
        · cases ho
      · cases ho
    · cases ho
  · cases ho
theorem pe_slcL (inj : ∀ i j, g.an i = g.an j → i = j) (K : X.K = g.K) {a : Expr} {lo hi : Option Expr} {ea : E} {el eh : Oe} {p2 pos : Pos} (ha : PE X a (tE g call ea)) (hl : PO X lo (tO g call el)) (hh : PO X hi (tO g call eh)) : PE X (.Subscript a (.Slice lo hi none p2) pos) (tE g call (.slc ea el eh)) :=
  ((pe_slice sl_str ha hl hh).or ((pe_slice sl_list ha hl hh).or (pe_slice sl_tupA ha hl hh))).imp fun σ H Q ⟨F, ρ, fp, s, o, ho, k⟩ => slc_rd inj K s ho k
end
end LPS

set_option autoImplicit false
set_option linter.all false
set_option maxRecDepth 100000
/-! exchange at a view -/
namespace LPS
open PySem PySem.Spec PyProof.Rows L2 LP
theorem _root_.L2.PS.imp {X : Cx} {e : Stmt} {t t' : TS} (h : PS X e t) (k : ∀ D σ H, t' D σ H → t D σ H) : PS X e t' := ⟨fun pins s σ H D I w => h.run pins s σ H D I (k D σ H w)⟩
theorem _root_.L2.PS.or {X : Cx} {e : Stmt} {t t' : TS} (h : PS X e t) (h' : PS X e t') : PS X e (fun D σ H => t D σ H ∨ t' D σ H) := ⟨fun pins s σ H D I w => w.elim (h.run pins s σ H D I) (h'.run pins s σ H D I)⟩
theorem _root_.L2.PSs.imp {X : Cx} {e : List Stmt} {t t' : TS} (h : PSs X e t) (k : ∀ D σ H, t' D σ H → t D σ H) : PSs X e t' := ⟨fun pins s σ H D I w => h.run pins s σ H D I (k D σ H w)⟩
section
variable {g : Gk} {call : LP.Cll} {σ : L2.St} {F F1 F2 : AS} {H H1 H2 : Hp} {ρ ρ1 ρ2 : LP.Env} {fp fp1 fp2 : Nat → AS} {T T1 T2 : AS} {X : Cx}
theorem mut_view (inj : ∀ i j, g.an i = g.an j → i = j) {i : Nat} {p : List Stp} {r e : D} {ve : V} {T0 : AS} (a : Ps g σ F H ρ fp F1 H1 ρ1 fp1 T1) (hk : KO g σ F1 H1 ρ1 e (.vw i p) ve T0) (hr : ρ1[i]? = some (Sl.ow r)) (hg : getP r p = some e) :
    ∃ U, Rp g F1 H1 e ve U ∧ Gd U F1 H1 ∧ (∀ b, U b → ¬ T1 b) ∧
      ∀ H2 e' U' T2 r', Kp U F1 F1 H1 H2 → Rp g F1 H2 e' ve U' → (∀ b, U' b ∨ T2 b → U b ∨ T1 b ∨ H1 b = none) → (∀ b, U' b → ¬ T2 b) → Gd U' F1 H2 → Gd T2 F1 H2 → modP r p (fun _ => some e') = some r' →
        ∃ fp2, Ps g σ F H ρ fp F1 H2 (ρ1.set i (.ow r')) fp2 T2 := by
  obtain ⟨np, r0, vr, h1, h2, h3, h4⟩ := hk
  rw [slotD_ow hr] at h1; cases h1
  obtain ⟨vr', ev, q⟩ := a.st.rp i r (slotD_ow hr)
  rw [h2] at ev; cases ev
  obtain ⟨v', U, w', q', hU, up⟩ := q.foc inj (fun b hb => a.st.gd i b hb) hg (.inr np)
  obtain rfl := h4.det (w' H1 fun _ _ => rfl)
  refine ⟨U, q', fun b hb => a.st.gd i b (hU b hb), fun b hb => a.td i b (hU b hb), fun H2 e' U' T2 r' k q2 hUT hd gU gT hm => ?_⟩
  have cl : ∀ b, U' b ∨ T2 b → U b ∨ ¬ fp1 i b := fun b hb => by
    rcases hUT b hb with z | z | z
    · exact .inl z
    · exact .inr fun y => a.td i b y z
    · exact .inr fun y => (a.st.gd i b y).2.ne z
  have q3 := up F1 H2 e' U' r' k q2 (fun b hb => cl b (.inl hb)) hm
  refine ⟨_, a.slot hr h2 q3 ⟨fun b o e n => k.keep b o e fun z => n (.inl (hU b z)), k.mono, fun b z => (k.new b z).imp_right fun z => z.imp_left fun z => .inl (hU b z), k.ex⟩ (fun b hb => ?_) (fun b hb z => ?_) (fun b hb => ?_) gT fun b hb hn => absurd hn (a.st.fz b hb)⟩
  · rcases hb with (⟨z, _⟩ | z) | z
    · exact .inl z
    · exact (hUT b (.inl z)).imp_left (hU b)
    · exact (hUT b (.inr z)).imp_left (hU b)
  · rcases hb with ⟨y, n⟩ | y
    · exact (cl b (.inr z)).elim n fun n => n y
    · exact hd b y z
  · rcases hb with ⟨y, n⟩ | y
    · obtain ⟨o, e, m⟩ := (a.st.gd i b y).2
      exact ⟨(a.st.gd i b y).1, o, k.keep b o e n, m⟩
    · exact gU b y
theorem stayD (inj : ∀ i j, g.an i = g.an j → i = j) {d e r : D} {i : Nat} {p : List Stp} {v : V} (a : Ps g σ F H ρ fp F1 H1 ρ1 fp1 T1) (h : KO g σ F1 H1 ρ1 d (.vw i p) v T1) (b : Ps g σ F1 H1 (lockD (.vw i p) ρ1) fp1 F2 H2 ρ2 fp2 T2)
    (hr : (unlockD (.vw i p) ρ1 ρ2)[i]? = some (Sl.ow r)) (hg : getP r p = some e) (np : LP.pers e = false) :
    KO g σ F2 H2 (unlockD (.vw i p) ρ1 ρ2) e (.vw i p) v e0 ∧ Ps g σ F H ρ fp F2 H2 (unlockD (.vw i p) ρ1 ρ2) fp2 T2 := by
  cases p with
  | nil =>
    have b' : Ps g σ F1 H1 ρ1 fp1 F2 H2 ρ2 fp2 T2 := b
    have hr : ρ2[i]? = some (Sl.ow r) := hr
    obtain ⟨_, r0, vr, h1, h2, h3, h4⟩ := h
    exact ⟨⟨np, r, vr, slotD_ow hr, h2, hg, h4⟩, a.trans b'⟩
  | cons s q =>
    obtain ⟨k, p⟩ := KO.stay inj a h b
    refine ⟨?_, p⟩
    obtain ⟨_, r0, vr, h1, h2, h3, h4⟩ := k
    have e1 : slotD (unlock (.vw i (s :: q)) ρ1 ρ2) i = some r := slotD_ow hr
    rw [e1] at h1; cases h1
    exact ⟨np, _, vr, e1, h2, hg, h4⟩
theorem atView_inv {o o' : Out} {f : D → Option (D × D)} (h : atView o f = some o') : ∃ i p r e x e' r', o.k = .vw i p ∧ o.ρ[i]? = some (Sl.ow r) ∧ getP r p = some e ∧ f e = some (x, e') ∧ modP r p (fun _ => some e') = some r' ∧ o' = ⟨x, .val, o.ρ.set i (.ow r')⟩ := by
  unfold atView at h
  split at h
  · cases h
  · rename_i i p hk
    split at h
    · rename_i r hr
      split at h
      · rename_i e he
        split at h
        · rename_i x e' hf
          split at h
          · rename_i r' hm
            cases h
            exact ⟨i, p, r, e, x, e', r', hk, hr, he, hf, hm, rfl⟩
          · cases h
        · cases h
      · cases h
    · cases h
/-- a view's value exchanged: all in one. R: what the rule asks of the two values and the heap -/
theorem mm_rd (inj : ∀ i j, g.an i = g.an j → i = j) {er : E} {es : Es} {m : Mm} {o : Out} {P : V → Hp → Prop} {Q : VK} {R : V → List V → Hp → Prop} (s : St1 g F H ρ σ fp) (ho : LP.ev call (.mm m er es) ρ = some o)
    (hP : ∀ d e x e' ds v F1 H1 U, samK d e = true → mmo m e ds = some (x, e') → Rp g F1 H1 d v U → P v H1)
    (hR : ∀ e ds x e' v vs F1 H1 U T1, mmo m e ds = some (x, e') → Rp g F1 H1 e v U → Gd U F1 H1 → Gd T1 F1 H1 → (∀ b, U b → ¬ T1 b) → RpL g F1 H1 ds vs T1 → (∀ b, F1 b → H1 b ≠ none) →
      (∀ y H2 U' T2, Kp U F1 F1 H1 H2 → Rp g F1 H2 e' v U' → Rp g F1 H2 x y T2 → (∀ b, U' b ∨ T2 b → U b ∨ T1 b ∨ H1 b = none) → (∀ b, U' b → ¬ T2 b) → Gd U' F1 H2 → Gd T2 F1 H2 → Q y H2) → R v vs H1)
    (np : ∀ e ds x e', mmo m e ds = some (x, e') → LP.pers e = false)
    (k : ∀ v F' H' fp' T, Ps g σ F H ρ fp F' H' o.ρ fp' T → KO g σ F' H' o.ρ o.d o.k v T → Q v H') :
    tE g call er σ H fun v H1 => P v H1 ∧ tEs g call es σ H1 fun vs H2 => R v vs H2 := by
  simp only [LP.ev] at ho
  split at ho
  · rename_i o1 h1
    split at ho
    · rename_i ds ρ' h2
      obtain ⟨i, p, r, e, x, e', r', hk, hr, hg, hf, hm, rfl⟩ := atView_inv ho
      simp only at hk hr
      split at hf
      · rename_i hs
        refine ⟨F, ρ, fp, s, o1, h1, fun v1 F1 H1 fp1 T1 p1 k1 => ?_⟩
        obtain ⟨W, r1⟩ := k1.rp inj p1.st
        refine ⟨hP _ _ _ _ _ _ _ _ _ hs hf r1, F1, lockD o1.k o1.ρ, fp1, ?_, ds, ρ', h2, fun vs F2 H2 fp2 T2 p2 r2 => ?_⟩
        · unfold lockD
          split
          · exact p1.st.lock _
          · exact p1.st
        · rw [hk] at k1 p2 hr k
          obtain ⟨k1', p3⟩ := stayD inj p1 k1 p2 hr hg (np _ _ _ _ hf)
          obtain ⟨U, q1, q2, q3, up⟩ := mut_view inj p3 k1' hr hg
          refine hR e ds x e' v1 vs F2 H2 U T2 hf q1 q2 p3.tg q3 r2 p3.st.fz fun y H3 U' T3 kk qe qx hU hd gU gT => ?_
          obtain ⟨fp3, p4⟩ := up H3 e' U' T3 r' kk qe hU hd gU gT hm
          exact k y F2 H3 fp3 T3 p4 qx
      · cases hf
    · cases ho
  · cases ho
theorem Rp.tyL {d e : D} {v : V} {U : AS} {o : Bool} {ds : List D} (h : samK d (.lst o ds) = true) (r : Rp g F H d v U) (K : X.K = g.K) : tyV X.K "list" v H := by
  cases d <;> simp [samK] at h
  obtain ⟨a, vs, W, rfl, ha, _⟩ := rp_lst r
  exact .inl ⟨rfl, vs, SqL.of ha⟩
theorem Kp.upd1 {U : AS} {a : Addr} {o : HO} (hU : U a) (hH : H a ≠ none) : Kp U F F H (upd H a o) :=
  ⟨fun b o' e n => by rw [upd_ne (fun z => n (by rw [z]; exact hU))]; exact e, fun _ z => z, fun _ z => .inl z, fun b hb => by
    by_cases z : b = a
    · subst z; rw [upd_same]; simp
    · rw [upd_ne z]; exact hb⟩
theorem Gd.upd1 {U : AS} {a : Addr} {o : HO} (h : Gd U F H) (m : MuO (upd H a o) a) : Gd U F (upd H a o) := fun b hb => by
  refine ⟨(h b hb).1, ?_⟩
  by_cases z : b = a
  · subst z; exact m
  · obtain ⟨o', e, q⟩ := (h b hb).2
    exact ⟨o', by rw [upd_ne z]; exact e, q⟩
theorem Gd.or {U U' : AS} (h : Gd U F H) (h' : Gd U' F H) : Gd (fun b => U b ∨ U' b) F H := fun b hb => hb.elim (h b) (h' b)
/-- the values of a list stay, its own cell is written -/
theorem RpL.upd1 {ds : List D} {vs : List V} {U W : AS} {a : Addr} {o : HO} (h : RpL g F H ds vs W) (gU : Gd U F H) (hU : U a) (hW : ∀ b, W b → b ≠ a) : RpL g F (upd H a o) ds vs W := by
  have k : Kp (fun b => b = a) F F H (upd H a o) := Kp.upd1 rfl (gU a hU).2.ne
  exact RpL.keep k (fun b hb => by subst hb; exact gU _ hU) ds vs W (fun b hb z => hW b hb z) h
theorem Rp.upd1 {d : D} {v : V} {U W : AS} {a : Addr} {o : HO} (h : Rp g F H d v W) (gU : Gd U F H) (hU : U a) (hW : ∀ b, W b → b ≠ a) : Rp g F (upd H a o) d v W := by
  have k : Kp (fun b => b = a) F F H (upd H a o) := Kp.upd1 rfl (gU a hU).2.ne
  exact Rp.keep k (fun b hb => by subst hb; exact gU _ hU) d v W (fun b hb z => hW b hb z) h
theorem rp_own {ds : List D} {v : V} {U : AS} (h : Rp g F H (.lst true ds) v U) : ∃ a vs W, v = .ref a ∧ H a = some (.lst vs) ∧ RpL g F H ds vs W ∧ U a ∧ ∀ b, W b → U b ∧ b ≠ a := by
  simp only [Rp, if_pos] at h
  obtain ⟨a, vs, W, e, r, s, c, t⟩ := h
  exact ⟨a, vs, W, e, c, r, t, s⟩
theorem mk_own {ds : List D} {a : Addr} {vs : List V} {U W : AS} (ha : H a = some (.lst vs)) (r : RpL g F H ds vs W) (hU : U a) (hW : ∀ b, W b → U b ∧ b ≠ a) : Rp g F H (.lst true ds) (.ref a) U := by
  simp only [Rp]
  exact ⟨a, vs, W, rfl, r, hW, ha, hU⟩
theorem RpL.app2 : ∀ {a b : List D} {vs ws : List V} {W1 W2 : AS}, RpL g F H a vs W1 → RpL g F H b ws W2 → (∀ x, W1 x → ¬ W2 x) → RpL g F H (a ++ b) (vs ++ ws) (fun x => W1 x ∨ W2 x)
  | [], b, vs, ws, W1, W2, h1, h2, dj => by
    simp only [RpL] at h1
    subst h1
    exact h2.mono fun _ z => .inr z
  | d :: a, b, vs, ws, W1, W2, h1, h2, dj => by
    simp only [RpL] at h1
    obtain ⟨v, r, U1, U2, rfl, q1, q2, q3, q4⟩ := h1
    have ih := RpL.app2 q2 h2 fun x hx => dj x (q4 x hx)
    have := RpL.cons q1 ih fun x hx z => z.elim (q3 x hx).2 (dj x (q3 x hx).1)
    exact this.mono fun x hx => hx.elim (fun z => .inl (q3 x z).1) fun z => z.imp_left (q4 x)
theorem pe_appendL (inj : ∀ i j, g.an i = g.an j → i = j) (K : X.K = g.K) {o e : Expr} {es : List Expr} {er : E} {ee : Es} {apos cpos : Pos} (ho : PE X o (tE g call er)) (ha : PA X (e :: es) (tEs g call ee))
    (hbase : attributeBase o "append" X.env (eval o X.env) = eval o X.env)
    (hfew : ((backTo cpos (starEach (e :: es) X.env)).all (fun x => !x.1) && (backToKw cpos (keywordEach [] X.env)).all (fun x => x.1.isSome)
      && decide ((e :: es).length + ([] : List Keyword).length + (if ([] : List Keyword).isEmpty then 0 else 1) < 30)) = true)
    (hline : (apos.endLine == cpos.line) = true) (hs : starEach (e :: es) X.env = (false, eval e X.env) :: starEach es X.env) (hplain : (backTo cpos (starEach es X.env)).any (·.1) = false) :
    PE X (.Call (.Attribute o "append" apos) (e :: es) [] cpos) (tE g call (.mm .append er ee)) :=
  (pe_bm (T := "list") F.plainAttrs_list F.slot_list_append F.type_list_append mt_append ho ha hbase hfew hline hs hplain).imp fun σ H Q ⟨F, ρ, fp, s, oo, he, k⟩ => by
    have inv : ∀ e ds x e', mmo .append e ds = some (x, e') → ∃ l y, e = .lst true l ∧ ds = [y] ∧ l.length + 1 < lim ∧ x = .non ∧ e' = .lst true (l ++ [y]) := fun e ds x e' h => by
      unfold mmo at h
      split at h <;> simp_all
    refine mm_rd inj s he (fun d e x e' ds v F1 H1 U hs hm r => ?_) (fun e ds x e' v vs F1 H1 U T1 hm r gU gT dj ra hF q => ?_) (fun e ds x e' h => ?_) k
    · obtain ⟨l, y, rfl, _⟩ := inv _ _ _ _ hm
      exact r.tyL (e := d) hs K
    · obtain ⟨l, y, rfl, rfl, hl, rfl, rfl⟩ := inv _ _ _ _ hm
      obtain ⟨a, ws, W, rfl, ha, rl, hUa, hW⟩ := rp_own r
      simp only [RpL] at ra
      obtain ⟨vy, r0, Ty, T0, rfl, ry, rfl, hy, _⟩ := ra
      have na : ∀ b, Ty b → b ≠ a := fun b hb z => dj a hUa (z ▸ (hy b hb).1)
      refine ⟨a, ws, vy, rfl, rfl, ha, by rw [← rl.length, lim_eq]; omega, ?_⟩
      have mu : MuO (upd H1 a (.lst (ws ++ [vy]))) a := ⟨_, upd_same, .inl ⟨_, rfl⟩⟩
      refine q .non _ (fun b => U b ∨ Ty b) e0 (Kp.upd1 hUa (gU a hUa).2.ne) ?_ (mk_non _) (fun b hb => ?_) (fun b _ z => z) (Gd.or (gU.upd1 mu) (Gd.upd1 (fun b hb => gT b (hy b hb).1) mu)) fun b z => z.elim
      · refine mk_own (W := fun b => W b ∨ Ty b) upd_same ?_ (.inl hUa) fun b hb => hb.elim (fun z => ⟨.inl (hW b z).1, (hW b z).2⟩) fun z => ⟨.inr z, na b z⟩
        have r2 : RpL g F1 (upd H1 a (.lst (ws ++ [vy]))) [y] [vy] Ty := ((RpL.cons (ry.upd1 gU hUa na) (RpL.nil (T := e0)) fun b _ z => z).mono fun b hb => hb.elim id fun z => z.elim)
        exact RpL.app2 (rl.upd1 gU hUa fun b hb => (hW b hb).2) r2 fun b hb z => dj b (hW b hb).1 (hy b z).1
      · rcases hb with (z | z) | z
        · exact .inl z
        · exact .inr (.inl (hy b z).1)
        · exact z.elim
    · obtain ⟨l, y, rfl, _⟩ := inv _ _ _ _ h
      rfl
end
end LPS

set_option autoImplicit false
set_option linter.all false
set_option maxRecDepth 100000
/-! stores -/
namespace LPS
open PySem PySem.Spec PyProof.Rows L2 LP
/-- the heap behind a[y] = v, a new dict being of either kind -/
def DPutG (H : Hp) (a : Addr) (y v : V) (H' : Hp) : Prop :=
  DPut H a y v H' ∨ (H a = some (.dT []) ∧ DPut (upd H a (.dK [])) a y v H') ∨ (H a = some (.dK []) ∧ DPut (upd H a (.dT [])) a y v H')
section
variable {g : Gk} {call : LP.Cll} {σ : L2.St} {F F1 F2 : AS} {H H1 H2 : Hp} {ρ ρ1 ρ2 : LP.Env} {fp fp1 fp2 : Nat → AS} {T T1 T2 : AS} {X : Cx}
theorem put_new : ∀ {ks : List (D × D)} {k d : D}, look ks k = none → put ks k d = ks ++ [(k, d)]
  | [], k, d, _ => rfl
  | (k0, v) :: ks, k, d, h => by
    simp only [look] at h
    split at h
    · cases h
    · rename_i hn
      simp only [put, if_neg hn, List.cons_append, put_new h]
theorem kD_app : ∀ {ks : List (D × D)} {kk : List Key} {k d : D} {q : Key}, kD ks = some kk → keyD k = some q → kD (ks ++ [(k, d)]) = some (kk ++ [q])
  | [], kk, k, d, q, h, hq => by
    simp only [kD, Option.some.injEq] at h
    subst h
    simp [kD, hq]
  | (k0, v) :: ks, kk, k, d, q, h, hq => by
    simp only [kD] at h
    split at h
    · rename_i a b e1 e2
      cases h
      simp only [List.cons_append, kD, e1, kD_app (d := d) e2 hq]
    · cases h
theorem tD_app : ∀ {ks : List (D × D)} {kk : List (List Key)} {k d : D} {q : List Key}, tD ks = some kk → tkD k = some q → tD (ks ++ [(k, d)]) = some (kk ++ [q])
  | [], kk, k, d, q, h, hq => by
    simp only [tD, Option.some.injEq] at h
    subst h
    simp [tD, hq]
  | (k0, v) :: ks, kk, k, d, q, h, hq => by
    simp only [tD] at h
    split at h
    · rename_i a b e1 e2
      cases h
      simp only [List.cons_append, tD, e1, tD_app (d := d) e2 hq]
    · cases h
theorem RpL.put : ∀ {ds : List D} {vs : List V} {W Td : AS} {n : Nat} {d : D} {v : V}, RpL g F H ds vs W → Rp g F H d v Td → (∀ b, Td b → ¬ W b) → RpL g F H (ds.set n d) (vs.set n v) (fun b => W b ∨ Td b)
  | [], vs, W, Td, n, d, v, h, hd, dj => by
    simp only [RpL] at h
    subst h
    simp [RpL]
  | x :: ds, vs, W, Td, n, d, v, h, hd, dj => by
    simp only [RpL] at h
    obtain ⟨u, r, T1, T2, rfl, h1, h2, h3, h4⟩ := h
    cases n with
    | zero =>
      rw [List.set_cons_zero, List.set_cons_zero]
      refine (RpL.cons hd h2 fun b hb z => dj b hb (h4 b z)).mono fun b hb => hb.elim .inr fun z => .inl (h4 b z)
    | succ n =>
      rw [List.set_cons_succ, List.set_cons_succ]
      refine (RpL.cons h1 (RpL.put (n := n) h2 hd fun b hb z => dj b hb (h4 b z)) fun b hb z => z.elim (h3 b hb).2 fun z => dj b z (h3 b hb).1).mono fun b hb => ?_
      rcases hb with z | z | z
      · exact .inl (h3 b z).1
      · exact .inl (h4 b z)
      · exact .inr z
theorem nodup_snoc {α : Type} {l : List α} {q : α} (h : l.Nodup) (n : ∀ m : Nat, l[m]? ≠ some q) : (l ++ [q]).Nodup := by
  refine List.nodup_append.mpr ⟨h, by simp, fun a ha b hb => ?_⟩
  simp only [List.mem_singleton] at hb
  subst hb
  rintro rfl
  obtain ⟨m, hm⟩ := List.getElem?_of_mem ha
  exact n m hm
theorem rd_mu {a : Addr} {u : HO} (mu : MuO H a) (e : Rd H a u) : H a = some u := by
  rcases e with e | ⟨o, e⟩
  · exact e
  · obtain ⟨_, e', q⟩ := mu
    rw [e] at e'; cases e'
    rcases q with ⟨_, q⟩ | ⟨_, q⟩ | ⟨_, q⟩ | ⟨_, _, _, q⟩ <;> cases q
theorem dc_put {ks : List (D × D)} {vs : List V} {W : AS} {a : Addr} {k d : D} {y vd : V} {U : AS} (mu : MuO H a) (c : DcAt H a ks vs) (r : RpK g F H ks vs W) (hk : kFit ks k = true) (hl : ks.length < lim) (rk : Rp g F H k y U) :
    ∃ o vs', DPutG H a y vd (upd H a o) ∧ ((∃ xs, o = .dK xs) ∨ ∃ xs, o = .dT xs) ∧ DcAt (upd H a o) a (put ks k d) vs' ∧
      ∀ (F' : AS) (H' : Hp) (Td : AS), Rp g F' H' d vd Td → RpK g F' H' ks vs W → (∀ b, Td b → ¬ W b) → RpK g F' H' (put ks k d) vs' (fun b => W b ∨ Td b) := by
  have hlen : ks.length = vs.length := by rw [RpK_iff] at r; simpa using r.length
  have ok := kFit_ok hk
  have zl : ∀ {α : Type} {kk : List α}, kk.length = ks.length → (kk.zip vs).length < sizeLine := fun {α kk} e => by rw [List.length_zip, lim_eq]; omega
  have old : ∀ {n : Nat}, (put ks k d).map (·.2) = (ks.map (·.2)).set n d → ∀ (F' : AS) (H' : Hp) (Td : AS), Rp g F' H' d vd Td → RpK g F' H' ks vs W → (∀ b, Td b → ¬ W b) → RpK g F' H' (put ks k d) (vs.set n vd) (fun b => W b ∨ Td b) := fun {n} e F' H' Td h1 h2 h3 => by
    rw [RpK_iff] at h2 ⊢
    rw [e]
    exact h2.put h1 h3
  have new : look ks k = none → ∀ (F' : AS) (H' : Hp) (Td : AS), Rp g F' H' d vd Td → RpK g F' H' ks vs W → (∀ b, Td b → ¬ W b) → RpK g F' H' (put ks k d) (vs ++ [vd]) (fun b => W b ∨ Td b) := fun e F' H' Td h1 h2 h3 => by
    rw [RpK_iff] at h2 ⊢
    rw [put_new e, List.map_append]
    exact RpL.app2 h2 ((RpL.cons h1 (RpL.nil (T := e0)) fun b _ z => z).mono fun b hb => hb.elim id fun z => z.elim) fun b hb z => h3 b z hb
  simp only [kFit, Bool.or_eq_true, Bool.and_eq_true] at hk
  rcases hk with ⟨h1, h2⟩ | ⟨h1, h2⟩
  · obtain ⟨q, hq⟩ := isK_key h1
    obtain ⟨kk, hkk⟩ := kD_all h2
    have kl := kD_len hkk
    have ey := key_rp rk hq
    subst ey
    rcases c with ⟨kk', e1, nd, e2⟩ | ⟨tt, e1, nd, e2⟩ <;> have e2 := rd_mu mu e2
    · rw [hkk] at e1; cases e1
      cases e : look ks k with
      | none =>
        have hn := (look_kk hkk hq).mp e
        refine ⟨.dK ((kk ++ [q]).zip (vs ++ [vd])), vs ++ [vd], .inl ?_, .inl ⟨_, rfl⟩, .inl ⟨kk ++ [q], ?_, nodup_snoc nd hn, .inl upd_same⟩, new e⟩
        · have := DPut.k (k := q) (v := vd) e2 (zl kl)
          rwa [putK_no hn (by omega)] at this
        · rw [put_new e]; exact kD_app hkk hq
      | some e' =>
        obtain ⟨n, i1, ⟨k', i2, i3⟩, i4, i5⟩ := look_ix e
        obtain ⟨q', q1, q2⟩ := kD_get hkk i2
        have := keyD_of q1 ok i3
        rw [hq] at this; cases this
        refine ⟨.dK (kk.zip (vs.set n vd)), vs.set n vd, .inl ?_, .inl ⟨_, rfl⟩, .inl ⟨kk, by rw [(i5 d).2.1]; exact hkk, nd, .inl upd_same⟩, old (i5 d).1⟩
        have := DPut.k (k := q) (v := vd) e2 (zl kl)
        rwa [putK_at nd q2 (by omega)] at this
    · have := kD_tD hkk e1
      subst this
      simp only [tD, Option.some.injEq] at e1
      subst e1
      have hv : vs = [] := by cases vs with | nil => rfl | cons _ _ => simp at hlen
      subst hv
      refine ⟨.dK [(q, vd)], [vd], .inr (.inl ⟨by simpa using e2, ?_⟩), .inl ⟨_, rfl⟩, .inl ⟨[q], by simp only [put, kD, hq], by simp, .inl upd_same⟩, new rfl⟩
      have := DPut.k (k := q) (v := vd) (upd_same (H := H) (a := a) (o := .dK [])) (by show (0 : Nat) < sizeLine; rw [lim_eq]; decide)
      rwa [upd_upd] at this
  · obtain ⟨q, hq⟩ := isTK_key h1
    obtain ⟨kk, hkk⟩ := tD_all h2
    have kl := tD_len hkk
    obtain ⟨b, ey, hb⟩ := tkey_rp rk hq
    subst ey
    rcases c with ⟨tt, e1, nd, e2⟩ | ⟨kk', e1, nd, e2⟩ <;> have e2 := rd_mu mu e2
    · have := kD_tD e1 hkk
      subst this
      simp only [kD, Option.some.injEq] at e1
      subst e1
      have hv : vs = [] := by cases vs with | nil => rfl | cons _ _ => simp at hlen
      subst hv
      have e2' : H a = some (.dK []) := by simpa using e2
      refine ⟨.dT [(q, vd)], [vd], .inr (.inr ⟨e2', ?_⟩), .inr ⟨_, rfl⟩, .inr ⟨[q], by simp only [put, tD, hq], by simp, .inl upd_same⟩, new rfl⟩
      have nb : b ≠ a := fun z => by rw [z, e2'] at hb; cases hb
      have := DPut.t (k := q) (v := vd) (b := b) (upd_same (H := H) (a := a) (o := .dT [])) (by rw [upd_ne nb]; exact hb) (by show (0 : Nat) < sizeLine; rw [lim_eq]; decide)
      rwa [upd_upd] at this
    · rw [hkk] at e1; cases e1
      cases e : look ks k with
      | none =>
        have hn := (look_tt ok hkk hq).mp e
        refine ⟨.dT ((kk ++ [q]).zip (vs ++ [vd])), vs ++ [vd], .inl ?_, .inr ⟨_, rfl⟩, .inr ⟨kk ++ [q], ?_, nodup_snoc nd hn, .inl upd_same⟩, new e⟩
        · have := DPut.t (k := q) (v := vd) e2 hb (zl kl)
          rwa [putK_no hn (by omega)] at this
        · rw [put_new e]; exact tD_app hkk hq
      | some e' =>
        obtain ⟨n, i1, ⟨k', i2, i3⟩, i4, i5⟩ := look_ix e
        obtain ⟨q', q1, q2⟩ := tD_get hkk i2
        have := tkD_of q1 ok i3
        rw [hq] at this; cases this
        refine ⟨.dT (kk.zip (vs.set n vd)), vs.set n vd, .inl ?_, .inr ⟨_, rfl⟩, .inr ⟨kk, by rw [(i5 d).2.2]; exact hkk, nd, .inl upd_same⟩, old (i5 d).1⟩
        have := DPut.t (k := q) (v := vd) e2 hb (zl kl)
        rwa [putK_at nd q2 (by omega)] at this
theorem rp_dct {ks : List (D × D)} {v : V} {U : AS} (h : Rp g F H (.dct true ks) v U) : ∃ a vs W, v = .ref a ∧ DcAt H a ks vs ∧ RpK g F H ks vs W ∧ U a ∧ ∀ b, W b → U b ∧ b ≠ a := by
  simp only [Rp, if_pos] at h
  obtain ⟨a, vs, W, e, r, s, c, t⟩ := h
  exact ⟨a, vs, W, e, c, r, t.1, s⟩
/-- an owned dict is written -/
theorem put_own {ks : List (D × D)} {k d : D} {v y vd : V} {U Uk Td : AS} (h : Rp g F H (.dct true ks) v U) (gU : Gd U F H) (gT : Gd Td F H) (dj : ∀ b, U b → ¬ Td b) (hk : kFit ks k = true) (hl : ks.length < lim) (rk : Rp g F H k y Uk) (rd : Rp g F H d vd Td) :
    ∃ a o, v = .ref a ∧ U a ∧ H a ≠ none ∧ DPutG H a y vd (upd H a o) ∧ MuO (upd H a o) a ∧ Rp g F (upd H a o) (.dct true (put ks k d)) (.ref a) (fun b => U b ∨ Td b) := by
  obtain ⟨a, vs, W, rfl, c, r, hU, hW⟩ := rp_dct h
  obtain ⟨o, vs', p1, p2, p3, p4⟩ := dc_put (d := d) (vd := vd) (gU a hU).2 c r hk hl rk
  have na : ∀ b, Td b → b ≠ a := fun b hb z => dj a hU (z ▸ hb)
  refine ⟨a, o, rfl, hU, (gU a hU).2.ne, p1, ⟨o, upd_same, .inr (p2.elim .inl fun z => .inr (.inl z))⟩, ?_⟩
  simp only [Rp]
  refine ⟨a, vs', fun b => W b ∨ Td b, rfl, p4 _ _ _ (rd.upd1 gU hU na) ?_ (fun b hb z => dj b (hW b z).1 hb), fun b hb => hb.elim (fun z => ⟨.inl (hW b z).1, (hW b z).2⟩) fun z => ⟨.inr z, na b z⟩, p3, .inl hU, fun ob u z => ?_⟩
  rotate_left
  · rw [upd_same] at z
    rcases p2 with ⟨_, rfl⟩ | ⟨_, rfl⟩ <;> cases z
  rw [RpK_iff] at r ⊢
  exact r.upd1 gU hU fun b hb => (hW b hb).2
end
end LPS

set_option autoImplicit false
set_option linter.all false
set_option maxRecDepth 100000
/-! statements: stores -/
namespace LPS
open PySem PySem.Spec PyProof.Rows L2 LP
section
variable (g : Gk) (call : LP.Cll)
/-- the frame's values are the same but where W lets -/
def Agr (W : Nat → Prop) (σ σ' : L2.St) : Prop := ∀ j, ¬ W j → σ'[j]? = σ[j]?
theorem Agr.refl {W : Nat → Prop} {σ : L2.St} : Agr W σ σ := fun _ _ => rfl
theorem Agr.trans {W : Nat → Prop} {σ σ1 σ2 : L2.St} (a : Agr W σ σ1) (b : Agr W σ1 σ2) : Agr W σ σ2 := fun j h => (b j h).trans (a j h)
variable (W : Nat → Prop)
/-- what a statement's run leaves -/
def EndS (σ : L2.St) (D : Ends) (F : AS) (H : Hp) (ρ : LP.Env) (fp : Nat → AS) : Fl → LP.Env → Prop
  | .nx, ρ' => ∀ σ' F' H' fp', Agr W σ σ' → Ps g σ' F H ρ fp F' H' ρ' fp' e0 → D.nx σ' H'
  | .br, ρ' => ∀ σ' F' H' fp', Agr W σ σ' → Ps g σ' F H ρ fp F' H' ρ' fp' e0 → D.bk σ' H'
  | .ct, ρ' => ∀ σ' F' H' fp', Agr W σ σ' → Ps g σ' F H ρ fp F' H' ρ' fp' e0 → D.ct σ' H'
  | .rt d, ρ' => ∀ v σ' F' H' fp' T, Agr W σ σ' → Ps g σ' F H ρ fp F' H' ρ' fp' T → Rp g F' H' d v T → D.rt v H'
def tS (s : S) : TS := fun D σ H => ∃ F ρ fp, St1 g F H ρ σ fp ∧ ∃ f ρ', LP.ex call s ρ = some (f, ρ') ∧ EndS g W σ D F H ρ fp f ρ'
def tSs (s : Ss) : TS := fun D σ H => ∃ F ρ fp, St1 g F H ρ σ fp ∧ ∃ f ρ', LP.exs call s ρ = some (f, ρ') ∧ EndS g W σ D F H ρ fp f ρ'
end
section
variable {g : Gk} {call : LP.Cll} {σ σ1 σ2 : L2.St} {F F1 F2 : AS} {H H1 H2 : Hp} {ρ ρ1 ρ2 : LP.Env} {fp fp1 fp2 : Nat → AS} {T T1 T2 : AS} {X : Cx} {W : Nat → Prop}
theorem Ps.trans2 (a : Ps g σ1 F H ρ fp F1 H1 ρ1 fp1 T1) (b : Ps g σ2 F1 H1 ρ1 fp1 F2 H2 ρ2 fp2 T2) : Ps g σ2 F H ρ fp F2 H2 ρ2 fp2 T2 where
  st := b.st
  kp := by
    refine ⟨fun c o h n => b.kp.keep c o (a.kp.keep c o h n) fun z => (a.fr c (.inl z)).elim n fun w => (by rw [w] at h; cases h), fun c h => b.kp.mono c (a.kp.mono c h), fun c h => ?_, fun c h => b.kp.ex c (a.kp.ex c h)⟩
    rcases b.kp.new c h with h | h | h
    · exact a.kp.new c h
    · exact .inr (a.fr c (.inl h))
    · exact .inr (.inr (Classical.byContradiction fun z => a.kp.ex c z h))
  fr := fun c h => by
    rcases b.fr c h with h | h
    · exact a.fr c (.inl h)
    · exact .inr (a.kp.nn h)
  ro := fun i d => (a.ro i d).trans (b.ro i d)
  rf := fun i d h c => (b.rf i d ((a.ro i d).mp h) c).trans (a.rf i d h c)
  tg := b.tg
  td := b.td
theorem EndS.then {D : Ends} {f : Fl} (g0 : Agr W σ σ1) (a : Ps g σ1 F H ρ fp F1 H1 ρ1 fp1 T1) (h : EndS g W σ D F H ρ fp f ρ2) : EndS g W σ1 D F1 H1 ρ1 fp1 f ρ2 := by
  cases f with
  | nx => exact fun σ' F' H' fp' g1 p => h σ' F' H' fp' (g0.trans g1) (a.trans2 p)
  | br => exact fun σ' F' H' fp' g1 p => h σ' F' H' fp' (g0.trans g1) (a.trans2 p)
  | ct => exact fun σ' F' H' fp' g1 p => h σ' F' H' fp' (g0.trans g1) (a.trans2 p)
  | rt d => exact fun v σ' F' H' fp' T g1 p => h v σ' F' H' fp' T (g0.trans g1) (a.trans2 p)
/-! ### o[k] = v -/
theorem d_setG {pins : List (Addr × Obj)} {s : Shared} {A : Around} {E : Value → Shared → Prop} {a : Addr} {y v : V} {u r : Value} {H' : Hp} {Q : Unit → Shared → Prop} (hu : A.units + 1 < cLine) (I : Inv X pins σ H s) (h : DPutG H a y v H') (ry : RelV y u) (rv : RelV v r)
    (k : ∀ s', Inv X pins σ H' s' → Q () s') : wpAny (model X.prog X.w) A (setItem (.ref a) u r) Q E s := by
  rcases h with h | ⟨e, h⟩ | ⟨e, h⟩
  · exact d_setItem hu I h ry rv k
  · exact d_setItem hu (Inv.toK I e) h ry rv k
  · exact d_setItem hu (Inv.toT I e) h ry rv k
/-- a store, of a list or a dict -/
def rSto : V → V → V → Hp → (Hp → Prop) → Prop := fun o y v H Q => rSetL o y v H Q ∨ ∃ a H', o = .ref a ∧ DPutG H a y v H' ∧ Q H'
theorem set_sto (hu : X.A.units + 1 < cLine) : PSet X rSto := fun pins s σ H o i v ov iv u Q I ro ri rv h => by
  rcases h with h | ⟨a, H', rfl, h, q⟩
  · exact set_list pins s σ H o i v ov iv u Q I ro ri rv h
  · obtain rfl : ov = Value.ref a := ro
    exact d_setG hu I h ri rv fun s' I' => ⟨H', I', q⟩
theorem stepOf_set {c c' : D} {kd d : D} {st : Stp} (h1 : stepOf c kd = some st) (h2 : setS c st d = some c') :
    (∃ ds i n, c = .lst true ds ∧ kd = .int i ∧ ixOf ds.length i = some n ∧ n < ds.length ∧ c' = .lst true (ds.set n d)) ∨
    ∃ ks, c = .dct true ks ∧ kFit ks kd = true ∧ ks.length < lim ∧ c' = .dct true (put ks kd d) := by
  cases c <;> simp only [stepOf, reduceCtorEq] at h1
  · simp [setS] at h2
  · rename_i o ds
    cases kd <;> simp only [Option.map_eq_some_iff, reduceCtorEq] at h1
    obtain ⟨n, hn, rfl⟩ := h1
    cases o <;> simp only [setS, reduceCtorEq] at h2
    split at h2
    · rename_i hl
      cases h2
      exact .inl ⟨ds, _, n, rfl, rfl, hn, hl, rfl⟩
    · cases h2
  · rename_i o ks
    split at h1
    · rename_i hf
      cases h1
      cases o <;> simp only [setS, reduceCtorEq] at h2
      split at h2
      · rename_i hl
        simp only [Bool.and_eq_true, decide_eq_true_eq] at hl
        cases h2
        exact .inr ⟨ks, rfl, hl.1, hl.2, rfl⟩
      · cases h2
    · cases h1
theorem stepOf_np {c c' : D} {kd d : D} {st : Stp} (h1 : stepOf c kd = some st) (h2 : setS c st d = some c') : LP.pers c = false := by
  rcases stepOf_set h1 h2 with ⟨ds, i, n, rfl, _⟩ | ⟨ks, rfl, _⟩ <;> rfl
/-- a value laid at a view's place -/
theorem sto_do (inj : ∀ i j, g.an i = g.an j → i = j) {i : Nat} {p : List Stp} {r c c' kd d r' : D} {st : Stp} {vo vk v : V} {T0 Uk : AS} {Q : Hp → Prop} (a : Ps g σ F H ρ fp F1 H1 ρ1 fp1 T1) (hk : KO g σ F1 H1 ρ1 c (.vw i p) vo T0) (hr : ρ1[i]? = some (Sl.ow r)) (hg : getP r p = some c)
    (h1 : stepOf c kd = some st) (h2 : setS c st d = some c') (hm : modP r p (fun _ => some c') = some r') (rk : Rp g F1 H1 kd vk Uk) (rd : Rp g F1 H1 d v T1)
    (q : ∀ H2 fp2, Ps g σ F H ρ fp F1 H2 (ρ1.set i (.ow r')) fp2 e0 → Q H2) : rSto vo vk v H1 Q := by
  obtain ⟨U, q1, q2, q3, up⟩ := mut_view inj a hk hr hg
  rcases stepOf_set h1 h2 with ⟨ds, j, n, rfl, rfl, hn, hl, rfl⟩ | ⟨ks, rfl, hf, hl, rfl⟩
  · obtain ⟨b, ws, W, rfl, hb, rl, hUb, hW⟩ := rp_own q1
    obtain rfl := rp_int rk
    have na : ∀ x, T1 x → x ≠ b := fun x hx z => q3 b hUb (z ▸ hx)
    have mu : MuO (upd H1 b (.lst (ws.set n v))) b := ⟨_, upd_same, .inl ⟨_, rfl⟩⟩
    refine .inl ⟨b, ws, j, n, rfl, rfl, hb, by rw [← rl.length]; exact hn, ?_⟩
    have e1 : Rp g F1 (upd H1 b (.lst (ws.set n v))) (.lst true (ds.set n d)) (.ref b) (fun x => U x ∨ T1 x) :=
      mk_own (W := fun x => W x ∨ T1 x) upd_same ((rl.upd1 q2 hUb fun x hx => (hW x hx).2).put (rd.upd1 q2 hUb na) fun x hx z => q3 x (hW x z).1 hx) (.inl hUb) fun x hx => hx.elim (fun z => ⟨.inl (hW x z).1, (hW x z).2⟩) fun z => ⟨.inr z, na x z⟩
    obtain ⟨fp2, p2⟩ := up _ (.lst true (ds.set n d)) (fun x => U x ∨ T1 x) e0 r' (Kp.upd1 hUb (q2 b hUb).2.ne) e1 (fun x hx => hx.elim (fun z => z.elim .inl fun z => .inr (.inl z)) fun z => z.elim) (fun _ _ z => z) (Gd.or (q2.upd1 mu) (a.tg.upd1 mu)) (fun _ z => z.elim) hm
    exact q _ fp2 p2
  · obtain ⟨b, o, rfl, hUb, hne, pg, mu, rq⟩ := put_own (d := d) (vd := v) q1 q2 a.tg q3 hf hl rk rd
    refine .inr ⟨b, _, rfl, pg, ?_⟩
    obtain ⟨fp2, p2⟩ := up _ (.dct true (put ks kd d)) (fun x => U x ∨ T1 x) e0 r' (Kp.upd1 hUb hne) rq (fun x hx => hx.elim (fun z => z.elim .inl fun z => .inr (.inl z)) fun z => z.elim) (fun _ _ z => z) (Gd.or (q2.upd1 mu) (a.tg.upd1 mu)) (fun _ z => z.elim) hm
    exact q _ fp2 p2
theorem evD_rd (inj : ∀ i j, g.an i = g.an j → i = j) {e : E} {d : D} {ρ' : LP.Env} {Q : VK} (s : St1 g F H ρ σ fp) (h : LP.evD call e ρ = some (d, ρ')) (k : ∀ v F' H' fp' T, Ps g σ F H ρ fp F' H' ρ' fp' T → Rp g F' H' d v T → Q v H') : tE g call e σ H Q := by
  simp only [LP.evD] at h
  split at h
  · rename_i o ho
    refine ⟨F, ρ, fp, s, o, ho, fun v F1 H1 fp1 T1 p1 k1 => ?_⟩
    obtain ⟨F2, fp2, T2, p2, r2⟩ := own_ok inj p1 k1 h
    exact k v F2 H1 fp2 T2 p2 r2
  · cases h
theorem ps_stoL (inj : ∀ i j, g.an i = g.an j → i = j) (hu : X.A.units + 66 < cLine) {o i value : Expr} {er ek ev : E} {pos pos' : Pos} (ho : PE X o (tE g call er)) (hi : PE X i (tE g call ek)) (hv : PE X value (tE g call ev))
    (ha : ∀ v, assign (.Subscript o i pos') X.env v = (do
      let ov ← holding [v] (eval o X.env)
      let iv ← holding [v, ov] (eval i X.env)
      standAt pos'
      holding [v, ov, iv] (setItem ov iv v)
      release [v, ov, iv] []))
    (hs : swapsWithSole [.Subscript o i pos'] value pos.line X.env = pure false) (hw : swappedStores [.Subscript o i pos'] value X.env = pure none) (h1 : (assignEach [.Subscript o i pos'] X.env).map (·.2) = [assign (.Subscript o i pos') X.env]) :
    PS X (.Assign [.Subscript o i pos'] value pos) (tS g call W (.sto er ek ev)) :=
  (ps_asg hv (pg_sub ho hi (set_sto (by omega)) ha) hs hw h1).imp fun D σ H ⟨F, ρ, fp, s, f, ρ', he, k⟩ => by
    simp only [LP.ex] at he
    split at he
    · rename_i d ρ1 hd
      split at he
      · rename_i o1 h1
        split at he
        · rename_i o2 h2
          split at he
          · rename_i o3 h3
            simp only [Option.some.injEq, Prod.mk.injEq] at he
            obtain ⟨rfl, rfl⟩ := he
            obtain ⟨j, p, r, c, x, c', r', hk, hr, hg, hf, hm, rfl⟩ := atView_inv h3
            simp only at hk hr k
            split at hf
            · rename_i st hst
              simp only [Option.map_eq_some_iff, Prod.mk.injEq] at hf
              obtain ⟨c'', hset, rfl, rfl⟩ := hf
              refine evD_rd inj s hd fun v F1 H1 fp1 T1 p1 r1 => ?_
              refine ⟨F1, ρ1, fp1, p1.st, o1, h1, fun vo F2 H2 fp2 T2 p2 k2 => ⟨F2, lockD o1.k o1.ρ, fp2, ?_, o2, h2, fun vk F3 H3 fp3 T3 p3 k3 => ?_⟩⟩
              · unfold lockD
                split
                · exact p2.st.lock _
                · exact p2.st
              · rw [hk] at k2 p3 hr k
                obtain ⟨k2', p4⟩ := stayD inj p2 k2 p3 hr hg (stepOf_np hst hset)
                obtain ⟨r1', p5, _⟩ := p1.hold p4 r1
                obtain ⟨Uk, rk⟩ := k3.rp inj p3.st
                exact sto_do inj (p5.weak fun _ z => .inl z) k2' hr hg hst hset hm rk r1' fun H4 fp4 p6 => k σ F3 H4 fp4 .refl p6
            · cases hf
          · cases he
        · cases he
      · cases he
    · cases he
end
end LPS

set_option autoImplicit false
set_option linter.all false
set_option maxRecDepth 100000
/-! targets, simple statements -/
namespace LPS
open PySem PySem.Spec PyProof.Rows L2 LP
mutual
def slots : Tg → List Nat
  | .nm i => [i]
  | .tp ts => slotsL ts
def slotsL : List Tg → List Nat
  | [] => []
  | t :: ts => slots t ++ slotsL ts
end
/-- the frame's values are the same but at is -/
def SmE (σ σ' : L2.St) (is : List Nat) : Prop := σ'.length = σ.length ∧ ∀ j, j ∉ is → σ'[j]? = σ[j]?
theorem SmE.trans {σ σ1 σ2 : L2.St} {is js : List Nat} (a : SmE σ σ1 is) (b : SmE σ1 σ2 js) : SmE σ σ2 (is ++ js) :=
  ⟨b.1.trans a.1, fun j h => (b.2 j fun z => h (List.mem_append_right _ z)).trans (a.2 j fun z => h (List.mem_append_left _ z))⟩
theorem SmE.set {σ : L2.St} {i : Nat} {v : Option V} : SmE σ (σ.set i v) [i] := ⟨List.length_set, fun j h => List.getElem?_set_ne fun e => h (by simp [e])⟩
section
variable (g : Gk) (call : LP.Cll)
def gT (t : Tg) : TG := fun v σ H Q => ∃ F0 H0 ρ0 fp0 F ρ fp T R d ρ', Ps g σ F0 H0 ρ0 fp0 F H ρ fp (fun b => T b ∨ R b) ∧ Rp g F H d v T ∧ (∀ b, T b → ¬ R b) ∧ asgT t d ρ = some ρ' ∧ ∀ σ' fp', SmE σ σ' (slots t) → Ps g σ' F0 H0 ρ0 fp0 F H ρ' fp' R → Q σ' H
def gTs (ts : List Tg) : TGs := fun vs σ H Q => ∃ F0 H0 ρ0 fp0 F ρ fp T R ds ρ', Ps g σ F0 H0 ρ0 fp0 F H ρ fp (fun b => T b ∨ R b) ∧ RpL g F H ds vs T ∧ (∀ b, T b → ¬ R b) ∧ asgTs ts ds ρ = some ρ' ∧ ∀ σ' fp', SmE σ σ' (slotsL ts) → Ps g σ' F0 H0 ρ0 fp0 F H ρ' fp' R → Q σ' H
end
section
variable {g : Gk} {call : LP.Cll} {σ σ1 σ2 : L2.St} {F F1 F2 : AS} {H H1 H2 : Hp} {ρ ρ1 ρ2 : LP.Env} {fp fp1 fp2 : Nat → AS} {T T1 T2 R : AS} {X : Cx} {W : Nat → Prop}
theorem SmE.agr {is : List Nat} (h : SmE σ σ1 is) (hw : ∀ i, i ∈ is → W i) : Agr W σ σ1 := fun j hj => h.2 j fun z => hj (hw j z)
theorem Agr.set {i : Nat} {v : Option V} (h : W i) : Agr W σ (σ.set i v) := fun j hj => List.getElem?_set_ne fun e => hj (by rw [← e]; exact h)
theorem Ps.asg {i : Nat} {d : D} {v : V} (a : Ps g σ F H ρ fp F1 H1 ρ1 fp1 (fun b => T b ∨ R b)) (r : Rp g F1 H1 d v T) (dj : ∀ b, T b → ¬ R b) (hi : i < ρ1.length) (nro : ∀ d, ρ1[i]? ≠ some (Sl.ro d)) :
    Ps g (σ.set i (some v)) F H ρ fp F1 H1 (ρ1.set i (.ow d)) (fun j => if j = i then T else fp1 j) R := by
  have hσ : i < σ.length := by rw [← a.st.len]; exact hi
  refine ⟨⟨by simpa using a.st.len, fun j e he => ?_, fun j l b hj hl => ?_, fun j b hj => ?_, fun j b hj => ?_, a.st.fz⟩, a.kp, fun b hb => ?_, fun j e => ?_, fun j e he b => ?_, fun b hb => a.tg b (.inr hb), fun j b hj z => ?_⟩
  · by_cases hji : j = i
    · subst hji
      rw [slotD_set hi] at he
      cases he
      exact ⟨v, by rw [List.getElem?_set_self hσ], by simpa using r⟩
    · rw [slotD_set_ne hji] at he
      obtain ⟨u, hu, ru⟩ := a.st.rp j e he
      exact ⟨u, by rw [List.getElem?_set_ne (Ne.symm hji)]; exact hu, by simpa only [if_neg hji] using ru⟩
  · by_cases hji : j = i
    · by_cases hli : l = i
      · rw [hji, hli]
      · simp only [if_pos hji, if_neg hli] at hj hl
        exact absurd (.inl hj) (a.td l b hl)
    · by_cases hli : l = i
      · simp only [if_pos hli, if_neg hji] at hj hl
        exact absurd (.inl hl) (a.td j b hj)
      · simp only [if_neg hli, if_neg hji] at hj hl
        exact a.st.dis j l b hj hl
  · by_cases hji : j = i
    · simp only [if_pos hji] at hj
      exact a.tg b (.inl hj)
    · simp only [if_neg hji] at hj
      exact a.st.gd j b hj
  · by_cases hji : j = i
    · subst hji; exact ⟨d, slotD_set hi⟩
    · simp only [if_neg hji] at hj
      rw [slotD_set_ne hji]
      exact a.st.lv j b hj
  · rcases hb with ⟨j, e, he, hj⟩ | hb
    · by_cases hji : j = i
      · simp only [if_pos hji] at hj
        exact a.fr b (.inr (.inl hj))
      · simp only [if_neg hji] at hj
        rw [List.getElem?_set_ne (Ne.symm hji)] at he
        exact a.fr b (.inl ⟨j, e, he, hj⟩)
    · exact a.fr b (.inr (.inr hb))
  · by_cases hji : j = i
    · subst hji
      rw [List.getElem?_set_self hi]
      constructor
      · intro z; exact absurd ((a.ro j e).mp z) (nro e)
      · intro z; cases z
    · rw [List.getElem?_set_ne (Ne.symm hji)]
      exact a.ro j e
  · have hji : j ≠ i := fun z => by subst z; exact nro e ((a.ro j e).mp he)
    simp only [if_neg hji]
    exact a.rf j e he b
  · by_cases hji : j = i
    · simp only [if_pos hji] at hj
      exact dj b hj z
    · simp only [if_neg hji] at hj
      exact a.td j b hj (.inr z)
theorem _root_.L2.PG.imp {e : Expr} {t t' : TG} (h : PG X e t) (k : ∀ v σ H Q, t' v σ H Q → t v σ H Q) : PG X e t' := ⟨fun pins s σ H v u Q I r w => h.run pins s σ H v u Q I r (k v σ H Q w)⟩
theorem _root_.L2.PGs.imp {e : List Expr} {t t' : TGs} (h : PGs X e t) (k : ∀ v σ H Q, t' v σ H Q → t v σ H Q) : PGs X e t' := ⟨fun pins s σ H v u Q I r w => h.run pins s σ H v u Q I r (k v σ H Q w)⟩
theorem asg_nm {i : Nat} {d : D} {ρ' : LP.Env} (h : asgT (.nm i) d ρ = some ρ') : i < ρ.length ∧ (∀ d, ρ[i]? ≠ some (Sl.ro d)) ∧ ρ' = ρ.set i (.ow d) := by
  simp only [asgT] at h
  split at h
  · cases h
  · rename_i s hs hn
    cases h
    exact ⟨(List.getElem?_eq_some_iff.mp hn).1, fun d z => hs d (by rw [hn] at z; exact Option.some.inj z), rfl⟩
  · cases h
theorem pg_nmL {i : Nat} {x : PySem.Str} {pos : Pos} (h : PG X (.Name x pos) (gName i)) : PG X (.Name x pos) (gT g (.nm i)) := h.imp fun v σ H Q ⟨F0, H0, ρ0, fp0, F, ρ, fp, T, R, d, ρ', p, r, dj, ha, k⟩ => by
  obtain ⟨h1, h2, rfl⟩ := asg_nm ha
  exact k _ _ SmE.set (p.asg r dj h1 h2)
theorem pgs_nilL : PGs X [] (gTs g []) := pgs_nil.imp fun v σ H Q ⟨F0, H0, ρ0, fp0, F, ρ, fp, T, R, ds, ρ', p, r, dj, ha, k⟩ => by
  cases ds with
  | nil =>
    simp only [asgTs, Option.some.injEq] at ha
    subst ha
    simp only [RpL] at r
    exact ⟨r, k _ _ ⟨rfl, fun _ _ => rfl⟩ (p.weak fun b z => .inr z)⟩
  | cons _ _ => simp [asgTs] at ha
theorem pgs_consL {e : Expr} {es : List Expr} {t : Tg} {ts : List Tg} (h1 : PG X e (gT g t)) (h2 : PGs X es (gTs g ts)) (hs : (assignEach (e :: es) X.env).map (·.2) = assign e X.env :: (assignEach es X.env).map (·.2)) : PGs X (e :: es) (gTs g (t :: ts)) :=
  (pgs_cons h1 h2 hs).imp fun v σ H Q ⟨F0, H0, ρ0, fp0, F, ρ, fp, T, R, ds, ρ', p, r, dj, ha, k⟩ => by
    cases ds with
    | nil => simp [asgTs] at ha
    | cons d ds =>
      simp only [asgTs] at ha
      split at ha
      · rename_i ρ1 h1
        simp only [RpL] at r
        obtain ⟨u, vs, T1, T2, rfl, r1, r2, d1, d2⟩ := r
        refine ⟨u, vs, rfl, F0, H0, ρ0, fp0, F, ρ, fp, T1, fun b => T2 b ∨ R b, d, ρ1, p.weak fun b hb => ?_, r1, fun b hb z => z.elim (d1 b hb).2 (dj b (d1 b hb).1), h1, fun σ' fp' sm p' => ?_⟩
        · rcases hb with z | z | z
          · exact .inl (d1 b z).1
          · exact .inl (d2 b z)
          · exact .inr z
        · exact ⟨F0, H0, ρ0, fp0, F, ρ1, fp', T2, R, ds, ρ', p', r2, fun b hb => dj b (d2 b hb), ha, fun σ2 fp2 sm2 p2 => k σ2 fp2 (sm.trans sm2) p2⟩
      · cases ha
theorem asgTs_len : ∀ {ts : List Tg} {ds : List D} {ρ ρ' : LP.Env}, asgTs ts ds ρ = some ρ' → ts.length = ds.length
  | [], [], _, _, _ => rfl
  | [], _ :: _, _, _, h => by simp [asgTs] at h
  | _ :: _, [], _, _, h => by simp [asgTs] at h
  | t :: ts, d :: ds, _, _, h => by
    simp only [asgTs] at h
    split at h
    · simp [asgTs_len h]
    · cases h
theorem pg_tpL {es : List Expr} {k : Nat} {ts : List Tg} {pos : Pos} (K : X.K = g.K) (hc : X.calm = true) (h : PGs X es (gTs g ts)) (hn : (assignEach es X.env).length = ts.length) (hst : (assignEach es X.env).findIdx? (·.1) = none) : PG X (.Tuple es k pos) (gT g (.tp ts)) :=
  (pg_tup hc h hn hst).imp fun v σ H Q ⟨F0, H0, ρ0, fp0, F, ρ, fp, T, R, d, ρ', p, r, dj, ha, k⟩ => by
    cases d <;> simp only [asgT, reduceCtorEq] at ha
    obtain ⟨a, vs, rfl, hv, r⟩ := rp_tup r
    refine ⟨a, vs, rfl, SqT.of hv, by rw [← r.length, asgTs_len ha], F0, H0, ρ0, fp0, F, ρ, fp, e0, R, _, ρ', p.weak fun b z => z.elim (fun z => z.elim) .inr, r, fun _ z => z.elim, ha, k⟩
/-! ### statements -/
theorem ps_exprL {e : Expr} {ee : E} {pos : Pos} (he : PE X e (tE g call ee)) (hs : swapsWith e none pos.line X.env = pure false) : PS X (.Expr e pos) (tS g call W (.expr ee)) := (ps_expr he hs).imp fun D σ H ⟨F, ρ, fp, s, f, ρ', h, k⟩ => by
  simp only [LP.ex] at h
  split at h
  · rename_i o ho
    simp only [Option.some.injEq, Prod.mk.injEq] at h
    obtain ⟨rfl, rfl⟩ := h
    exact ⟨F, ρ, fp, s, o, ho, fun v F' H' fp' T p _ => k σ F' H' fp' .refl p.drop⟩
  · cases h
theorem ps_asgL (inj : ∀ i j, g.an i = g.an j → i = j) {tg e : Expr} {t : Tg} {ee : E} {pos : Pos} (he : PE X e (tE g call ee)) (hg : PG X tg (gT g t)) (hs : swapsWithSole [tg] e pos.line X.env = pure false) (hw : swappedStores [tg] e X.env = pure none)
    (h1 : (assignEach [tg] X.env).map (·.2) = [assign tg X.env]) (hW : ∀ i, i ∈ slots t → W i) : PS X (.Assign [tg] e pos) (tS g call W (.asg t ee)) := (ps_asg he hg hs hw h1).imp fun D σ H ⟨F, ρ, fp, s, f, ρ', h, k⟩ => by
  simp only [LP.ex] at h
  split at h
  · rename_i d ρ1 hd
    split at h
    · rename_i ρ2 h2
      simp only [Option.some.injEq, Prod.mk.injEq] at h
      obtain ⟨rfl, rfl⟩ := h
      refine evD_rd inj s hd fun v F1 H1 fp1 T1 p1 r1 => ?_
      exact ⟨F, H, ρ, fp, F1, ρ1, fp1, T1, e0, d, ρ2, p1.weak fun b z => z.elim id fun z => z.elim, r1, fun _ _ z => z, h2, fun σ' fp' sm p' => k σ' F1 H1 fp' (sm.agr hW) p'⟩
    · cases h
  · cases h
theorem ps_par2L {i j : Nat} {x y : PySem.Str} {a b : Expr} {es : Es} {px py pt : Pos} {kt k2 pt2} {pos : Pos} (hi : W i) (hj : W j) (h : PS X (.Assign [.Tuple [.Name x px, .Name y py] kt pt] (.Tuple [a, b] k2 pt2) pos) (tPar i j (tEs g call es))) :
    PS X (.Assign [.Tuple [.Name x px, .Name y py] kt pt] (.Tuple [a, b] k2 pt2) pos) (tS g call W (.par [.nm i, .nm j] es)) := h.imp fun D σ H ⟨F, ρ, fp, s, f, ρ', h, k⟩ => by
  simp only [LP.ex] at h
  split at h
  · rename_i ds ρ1 h1
    split at h
    · rename_i ρ2 h2
      simp only [Option.some.injEq, Prod.mk.injEq] at h
      obtain ⟨rfl, rfl⟩ := h
      refine ⟨F, ρ, fp, s, ds, ρ1, h1, fun vs F1 H1 fp1 T1 p1 r1 => ?_⟩
      have hl := asgTs_len h2
      match ds, hl, r1, h2 with
      | [d1, d2], _, r1, h2 =>
        simp only [RpL] at r1
        obtain ⟨u, vs, U1, U2, rfl, q1, ⟨w, ws, W1, W2, rfl, q2, rfl, e1, e2⟩, e3, e4⟩ := r1
        simp only [asgTs] at h2
        split at h2
        · rename_i ρ3 h3
          split at h2
          · rename_i ρ4 h4
            cases h2
            obtain ⟨a1, a2, rfl⟩ := asg_nm h3
            obtain ⟨b1, b2, rfl⟩ := asg_nm h4
            have p2 := (p1.weak (T := fun b => U1 b ∨ W1 b) fun b z => z.elim (fun z => (e3 b z).1) fun z => e4 b (e1 b z).1).asg q1 (fun b z y => (e3 b z).2 (e1 b y).1) a1 a2
            have p3 := (p2.weak (T := fun b => W1 b ∨ e0 b) fun b z => z.elim id fun z => z.elim).asg q2 (fun _ _ z => z) b1 b2
            exact ⟨u, w, rfl, k _ _ _ _ ((Agr.set hi).trans (Agr.set hj)) p3⟩
          · cases h2
        · cases h2
    · cases h
  · cases h
theorem ps_par3L {i j l : Nat} {x y z : PySem.Str} {a b c : Expr} {es : Es} {px py pz pt : Pos} {kt k2 pt2} {pos : Pos} (hi : W i) (hj : W j) (hl' : W l) (h : PS X (.Assign [.Tuple [.Name x px, .Name y py, .Name z pz] kt pt] (.Tuple [a, b, c] k2 pt2) pos) (tPar3 i j l (tEs g call es))) :
    PS X (.Assign [.Tuple [.Name x px, .Name y py, .Name z pz] kt pt] (.Tuple [a, b, c] k2 pt2) pos) (tS g call W (.par [.nm i, .nm j, .nm l] es)) := h.imp fun D σ H ⟨F, ρ, fp, s, f, ρ', h, k⟩ => by
  simp only [LP.ex] at h
  split at h
  · rename_i ds ρ1 h1
    split at h
    · rename_i ρ2 h2
      simp only [Option.some.injEq, Prod.mk.injEq] at h
      obtain ⟨rfl, rfl⟩ := h
      refine ⟨F, ρ, fp, s, ds, ρ1, h1, fun vs F1 H1 fp1 T1 p1 r1 => ?_⟩
      have hl := asgTs_len h2
      match ds, hl, r1, h2 with
      | [d1, d2, d3], _, r1, h2 =>
        simp only [RpL] at r1
        obtain ⟨u, vs, U1, U2, rfl, q1, ⟨w, ws, W1, W2, rfl, q2, ⟨t, ts, V1, V2, rfl, q3, rfl, f1, f2⟩, e1, e2⟩, e3, e4⟩ := r1
        simp only [asgTs] at h2
        split at h2
        · rename_i ρ3 h3
          split at h2
          · rename_i ρ4 h4
            split at h2
            · rename_i ρ5 h5
              cases h2
              obtain ⟨a1, a2, rfl⟩ := asg_nm h3
              obtain ⟨b1, b2, rfl⟩ := asg_nm h4
              obtain ⟨c1, c2, rfl⟩ := asg_nm h5
              have p2 := (p1.weak (T := fun b => U1 b ∨ (W1 b ∨ V1 b)) fun b z => z.elim (fun z => (e3 b z).1) fun z => z.elim (fun z => e4 b (e1 b z).1) fun z => e4 b (e2 b (f1 b z).1)).asg q1 (fun b z y => (e3 b z).2 (y.elim (fun y => (e1 b y).1) fun y => e2 b (f1 b y).1)) a1 a2
              have p3 := p2.asg q2 (fun b z y => (e1 b z).2 (f1 b y).1) b1 b2
              have p4 := (p3.weak (T := fun b => V1 b ∨ e0 b) fun b z => z.elim id fun z => z.elim).asg q3 (fun _ _ z => z) c1 c2
              exact ⟨u, w, t, rfl, k _ _ _ _ (((Agr.set hi).trans (Agr.set hj)).trans (Agr.set hl')) p4⟩
            · cases h2
          · cases h2
        · cases h2
    · cases h
  · cases h
theorem ps_retL (inj : ∀ i j, g.an i = g.an j → i = j) {e : Expr} {ee : E} {pos : Pos} (he : PE X e (tE g call ee)) : PS X (.Return (some e) pos) (tS g call W (.ret ee)) := (ps_ret he).imp fun D σ H ⟨F, ρ, fp, s, f, ρ', h, k⟩ => by
  simp only [LP.ex] at h
  split at h
  · rename_i d ρ1 hd
    simp only [Option.some.injEq, Prod.mk.injEq] at h
    obtain ⟨rfl, rfl⟩ := h
    exact evD_rd inj s hd fun v F1 H1 fp1 T1 p1 r1 => k v σ F1 H1 fp1 T1 .refl p1 r1
  · cases h
theorem ps_retNL {pos : Pos} : PS X (.Return none pos) (tS g call W .retN) := ps_retN.imp fun D σ H ⟨F, ρ, fp, s, f, ρ', h, k⟩ => by
  simp only [LP.ex, Option.some.injEq, Prod.mk.injEq] at h
  obtain ⟨rfl, rfl⟩ := h
  exact k _ σ F H fp e0 .refl (Ps.refl s) (mk_non _)
theorem ps_passL {pos : Pos} : PS X (.Pass pos) (tS g call W .pass) := ps_pass.imp fun D σ H ⟨F, ρ, fp, s, f, ρ', h, k⟩ => by
  simp only [LP.ex, Option.some.injEq, Prod.mk.injEq] at h
  obtain ⟨rfl, rfl⟩ := h
  exact k σ F H fp .refl (Ps.refl s)
theorem ps_brkL {pos : Pos} : PS X (.Break pos) (tS g call W .brk) := ps_break.imp fun D σ H ⟨F, ρ, fp, s, f, ρ', h, k⟩ => by
  simp only [LP.ex, Option.some.injEq, Prod.mk.injEq] at h
  obtain ⟨rfl, rfl⟩ := h
  exact k σ F H fp .refl (Ps.refl s)
theorem ps_contL {pos : Pos} : PS X (.Continue pos) (tS g call W .cont) := ps_continue.imp fun D σ H ⟨F, ρ, fp, s, f, ρ', h, k⟩ => by
  simp only [LP.ex, Option.some.injEq, Prod.mk.injEq] at h
  obtain ⟨rfl, rfl⟩ := h
  exact k σ F H fp .refl (Ps.refl s)
theorem pss_nilL : PSs X [] (tSs g call W .nil) := pss_nil.imp fun D σ H ⟨F, ρ, fp, s, f, ρ', h, k⟩ => by
  simp only [LP.exs, Option.some.injEq, Prod.mk.injEq] at h
  obtain ⟨rfl, rfl⟩ := h
  exact k σ F H fp .refl (Ps.refl s)
theorem pss_consL {st : Stmt} {rest : List Stmt} {s : S} {ss : Ss} (h1 : PS X st (tS g call W s)) (h2 : PSs X rest (tSs g call W ss)) : PSs X (st :: rest) (tSs g call W (.cons s ss)) := (pss_cons h1 h2).imp fun D σ H ⟨F, ρ, fp, s, f, ρ', h, k⟩ => by
  simp only [LP.exs] at h
  split at h
  · rename_i ρ1 h1
    exact ⟨F, ρ, fp, s, .nx, ρ1, h1, fun σ1 F1 H1 fp1 g1 p1 => ⟨F1, ρ1, fp1, p1.st, f, ρ', h, k.then g1 p1⟩⟩
  · rename_i hn
    refine ⟨F, ρ, fp, s, f, ρ', h, ?_⟩
    cases f with
    | nx => exact absurd h (hn ρ')
    | br => exact k
    | ct => exact k
    | rt d => exact k
theorem evB_rd {e : E} {b : Bool} {ρ' : LP.Env} {Q : Bool → Hp → Prop} (s : St1 g F H ρ σ fp) (h : LP.evB call e ρ = some (b, ρ')) (k : ∀ F' H' fp', Ps g σ F H ρ fp F' H' ρ' fp' e0 → Q b H') : tT g call e σ H Q := by
  simp only [LP.evB] at h
  split at h
  · rename_i o ho
    split at h
    · rename_i t ht
      simp only [Option.some.injEq, Prod.mk.injEq] at h
      obtain ⟨rfl, rfl⟩ := h
      exact ⟨F, ρ, fp, s, o, t, ho, ht, k⟩
    · cases h
  · cases h
theorem ps_ifL {c : Expr} {a b : List Stmt} {ec : E} {sa sb : Ss} {pos : Pos} (hc : PT X c (tT g call ec)) (ha : PSs X a (tSs g call W sa)) (hb : PSs X b (tSs g call W sb)) : PS X (.If c a b pos) (tS g call W (.ifs ec sa sb)) := (ps_if hc ha hb).imp fun D σ H ⟨F, ρ, fp, s, f, ρ', h, k⟩ => by
  simp only [LP.ex] at h
  split at h
  · rename_i ρ1 h1
    refine evB_rd s h1 fun F1 H1 fp1 p1 => ?_
    try dsimp only
    rw [if_pos rfl]
    exact ⟨F1, ρ1, fp1, p1.st, f, ρ', h, k.then .refl p1⟩
  · rename_i ρ1 h1
    refine evB_rd s h1 fun F1 H1 fp1 p1 => ?_
    try dsimp only
    rw [if_neg Bool.false_ne_true]
    exact ⟨F1, ρ1, fp1, p1.st, f, ρ', h, k.then .refl p1⟩
  · cases h
end
end LPS

set_option autoImplicit false
set_option linter.all false
set_option maxRecDepth 100000
/-! loops -/
namespace LPS
open PySem PySem.Spec PyProof.Rows L2 LP
theorem _root_.L2.PI.imp {X : Cx} {tg e : Expr} {t t' : TI} (h : PI X tg e t) (k : ∀ σ H Q, t' σ H Q → t σ H Q) : PI X tg e t' := ⟨fun pins s σ H Q I w => h.run pins s σ H Q I (k σ H Q w)⟩
theorem _root_.L2.PI.or {X : Cx} {tg e : Expr} {t t' : TI} (h : PI X tg e t) (h' : PI X tg e t') : PI X tg e (fun σ H Q => t σ H Q ∨ t' σ H Q) := ⟨fun pins s σ H Q I w => w.elim (h.run pins s σ H Q I) (h'.run pins s σ H Q I)⟩
/-- an iterator that gives ds, whatever is done within A -/
def ItOk (g : Gk) (J : It) (ds : List D) (A F : AS) (H : Hp) : Prop :=
  ∀ F' H', Kp A F F' H H' → (∀ b, F' b → H' b ≠ none) → J.stop ds.length H' ∧ ∀ i d, ds[i]? = some d → J.go i H' ∧ ∀ x H2, J.yld i H' x H2 → NewV g F' H' d x H2
def tI (g : Gk) (call : LP.Cll) (it : E) : TI := fun σ H R => ∃ F ρ fp, St1 g F H ρ σ fp ∧ ∃ ds k ρ1, LP.walk (LP.ev call it ρ) = some (ds, k, ρ1) ∧
  ∀ J F' H' fp', Ps g σ F H ρ fp F' H' ρ1 fp' e0 → ItOk g J ds (Ow (lock k ρ1) fp') F' H' → R J H'
section
variable {g : Gk} {call : LP.Cll} {σ σ1 σ2 : L2.St} {F F1 F2 : AS} {H H1 H2 : Hp} {ρ ρ1 ρ2 : LP.Env} {fp fp1 fp2 : Nat → AS} {T T1 T2 R : AS} {X : Cx} {W : Nat → Prop}
theorem it_list {A : AS} {a : Addr} {ds : List D} {vs : List V} (gd : Gd A F H) (na : ¬ A a) (ha : H a = some (.lst vs)) (r : RpL g F H ds vs e0) : ItOk g (Itl g.K a) ds A F H := fun F' H' k hF => by
  have ha' := k.keep _ _ ha na
  have r' := RpL.keep k gd ds vs e0 (fun _ z => z.elim) r
  refine ⟨⟨vs, SqL.of ha', by rw [r.length]; exact Nat.le_refl _⟩, fun i d hi => ?_⟩
  obtain ⟨v, hv, rv⟩ := r'.get hi
  refine ⟨⟨vs, v, SqL.of ha', hv⟩, fun x H2 ⟨e, y⟩ => ?_⟩
  subst e
  have := y vs (SqL.of ha')
  rw [hv] at this; cases this
  exact new_old rv
theorem it_tup {A : AS} {a : Addr} {ds : List D} {vs : List V} (gd : Gd A F H) (ha : H a = some (.tup vs)) (r : RpL g F H ds vs e0) : ItOk g (Itt g.K a) ds A F H := fun F' H' k hF => by
  have ha' := k.tup gd ha
  have r' := RpL.keep k gd ds vs e0 (fun _ z => z.elim) r
  refine ⟨⟨vs, SqT.of ha', by rw [r.length]; exact Nat.le_refl _⟩, fun i d hi => ?_⟩
  obtain ⟨v, hv, rv⟩ := r'.get hi
  refine ⟨⟨vs, v, SqT.of ha', hv⟩, fun x H2 ⟨e, y⟩ => ?_⟩
  subst e
  have := y vs (SqT.of ha')
  rw [hv] at this; cases this
  exact new_old rv
theorem ow_gd (s : St1 g F H ρ σ fp) (k : Kd) : Gd (Ow (lock k ρ) fp) F H := fun b hb => s.own_gd b (Ow_lock hb)
/-! ### a dict that is walked -/
theorem key_mk {d : D} {q : Key} (h : keyD d = some q) (T : AS) : Rp g F H d (kV q) T := by
  cases d <;> simp only [keyD, reduceCtorEq, Option.some.injEq] at h <;> subst h <;> simp only [Rp, kV]
theorem keys_mk : ∀ {ds : List D} {q : List Key}, keysD ds = some q → RpL g F H ds (q.map kV) e0
  | [], q, h => by simp only [keysD, Option.some.injEq] at h; subst h; exact RpL.nil
  | d :: ds, q, h => by
    simp only [keysD] at h
    split at h
    · rename_i k ks h1 h2
      cases h
      exact (RpL.cons (key_mk h1 e0) (keys_mk h2) fun _ z => z.elim).mono fun b z => z.elim (fun z => z) fun z => z
    · cases h
theorem it_keyK {A : AS} {a : Addr} {ob : Obj} {ks : List (D × D)} {kk : List Key} {vs : List V} (na : ¬ A a) (ha : H a = some (.frz ob (.dK (kk.zip vs)))) (hk : kD ks = some kk) (hl : ks.length = vs.length) : ItOk g (Itk a ob (kk.zip vs)) (ks.map (·.1)) A F H := fun F' H' k hF => by
  have ha' := k.keep _ _ ha na
  have kl := kD_len hk
  refine ⟨⟨ha', by rw [List.length_zip, List.length_map]; omega⟩, fun i d hi => ?_⟩
  rw [List.getElem?_map] at hi
  obtain ⟨⟨p1, p2⟩, hp, rfl⟩ := Option.map_eq_some_iff.mp hi
  have hlt := (List.getElem?_eq_some_iff.mp hp).1
  obtain ⟨q, q1, q2⟩ := kD_get hk hp
  refine ⟨⟨ha', by rw [List.length_zip]; omega⟩, fun x H2 ⟨e, k', v, hkv, hx⟩ => ?_⟩
  subst e hx
  have := (List.getElem?_zip_eq_some.mp hkv).1
  rw [q2] at this; cases this
  exact new_old (key_mk q1 e0)
theorem it_keyT {A : AS} {a : Addr} {ob : Obj} {ks : List (D × D)} {kk : List (List Key)} {vs : List V} (na : ¬ A a) (ha : H a = some (.frz ob (.dT (kk.zip vs)))) (hk : tD ks = some kk) (hl : ks.length = vs.length) : ItOk g (Itkt a ob (kk.zip vs)) (ks.map (·.1)) A F H := fun F' H' k hF => by
  have ha' := k.keep _ _ ha na
  have kl := tD_len hk
  refine ⟨⟨ha', by rw [List.length_zip, List.length_map]; omega⟩, fun i d hi => ?_⟩
  rw [List.getElem?_map] at hi
  obtain ⟨⟨p1, p2⟩, hp, rfl⟩ := Option.map_eq_some_iff.mp hi
  have hlt := (List.getElem?_eq_some_iff.mp hp).1
  obtain ⟨q, q1, q2⟩ := tD_get hk hp
  refine ⟨⟨ha', by rw [List.length_zip]; omega⟩, fun x H2 ⟨e, k', v, b, hkv, hx, hb⟩ => ?_⟩
  subst e hx
  have := (List.getElem?_zip_eq_some.mp hkv).1
  rw [q2] at this; cases this
  refine new_old ?_
  cases p1 <;> simp only [tkD, reduceCtorEq] at q1
  simp only [Rp]
  exact ⟨b, _, rfl, hb, keys_mk q1⟩
def iKeysF (td : TE) : TI := fun σ H R => td σ H fun x H1 => ∃ d u, x = .ref d ∧ ((∃ kvs, u = HO.dK kvs) ∨ ∃ kvs, u = HO.dT kvs) ∧ Rd H1 d u ∧ ∀ ob H2, H2 d = some (.frz ob u) → (∀ b, b ≠ d → H2 b = H1 b) → (H1 d = some u ∨ H2 = H1) →
  (∃ kvs, u = HO.dK kvs ∧ R (Itk d ob kvs) H2) ∨ ∃ kvs, u = HO.dT kvs ∧ R (Itkt d ob kvs) H2
theorem pi_keysF {tg e : Expr} {td : TE} (he : PE X e td) : PI X tg e (iKeysF td) := by
  refine ⟨fun pins s σ H R I h => ?_⟩
  refine thn (he.run pins s σ H _ I h) fun uv s1 ⟨x, H1, I1, rx, d, u, ex, hk, hr, q⟩ => ?_
  subst ex
  obtain rfl : uv = Value.ref d := rx
  have key : ∀ ob H2, L2.Inv X pins σ H2 s1 → H2 d = some (.frz ob u) → ((∃ kvs, u = HO.dK kvs ∧ R (Itk d ob kvs) H2) ∨ ∃ kvs, u = HO.dT kvs ∧ R (Itkt d ob kvs) H2) → wpAny (model X.prog X.w) X.A (pyIter (.ref d)) (PIE X pins σ tg R) X.xe s1 := fun ob H2 I2 hd q2 => by
    rcases q2 with ⟨kvs, rfl, q2⟩ | ⟨kvs, rfl, q2⟩
    · obtain ⟨hs, hgd, hx, es, ep, vs, hdt, hsz, kv, hm⟩ := I2.frzK hd
      refine iter_keys hs hgd hx hdt (pi_one (tk := s1.toks) I2 _ (turn_keys _ hdt) ⟨_, Heap.get?_push_size _ rfl, rfl, ?_⟩ q2)
      rw [hsz] <;> rfl
    · obtain ⟨hs, hgd, hx, es, ep, hdt, hsz, ent⟩ := I2.frzT hd
      refine iter_keys hs hgd hx hdt (pi_one (tk := s1.toks) I2 _ (turn_keysT _ hdt) ⟨_, Heap.get?_push_size _ rfl, rfl, ?_⟩ q2)
      rw [hsz] <;> rfl
  rcases hr with hr | ⟨ob, hr⟩
  · have mu : Mut (some u) := by rcases hk with ⟨_, rfl⟩ | ⟨_, rfl⟩ <;> trivial
    obtain ⟨od, I2⟩ := I1.lock hr mu
    exact key od _ I2 upd_same (q od _ upd_same (fun b hb => upd_ne hb) (.inl hr))
  · exact key ob H1 I1 hr (q ob H1 hr (fun _ _ => rfl) (.inr rfl))
/-- what is in hand is changed, and frozen -/
theorem Ps.chg {F' : AS} {H' : Hp} (a : Ps g σ F H ρ fp F1 H1 ρ1 fp1 T) (k : Kp T F1 F' H1 H') (fz : ∀ b, F' b → H' b ≠ none) : Ps g σ F H ρ fp F' H' ρ1 fp1 e0 := by
  have nt : ∀ j b, fp1 j b → ¬ T b := a.td
  refine ⟨⟨a.st.len, fun j d h => ?_, a.st.dis, fun j b hb => ?_, a.st.lv, fz⟩, ⟨fun b o e n => ?_, fun b h => k.mono b (a.kp.mono b h), fun b h => ?_, fun b h => k.ex b (a.kp.ex b h)⟩, fun b h => ?_, a.ro, a.rf, fun _ z => z.elim, fun j b hb z => z.elim⟩
  · obtain ⟨v, hv, r⟩ := a.st.rp j d h
    exact ⟨v, hv, Rp.keep k a.tg d v _ (nt j) r⟩
  · obtain ⟨n, o, e, m⟩ := a.st.gd j b hb
    refine ⟨fun z => ?_, o, k.keep b o e (nt j b hb), m⟩
    rcases k.new b z with z | z | z
    · exact n z
    · exact nt j b hb z
    · rw [e] at z; cases z
  · refine k.keep b o (a.kp.keep b o e n) fun z => ?_
    exact (a.fr b (.inr z)).elim n fun z => by rw [z] at e; cases e
  · rcases k.new b h with z | z | z
    · exact a.kp.new b z
    · exact .inr (a.fr b (.inr z))
    · exact .inr (.inr (a.kp.nn z))
  · exact h.elim (fun h => a.fr b (.inl h)) fun z => z.elim
theorem frz_no {a : Addr} {u u' : HO} {ob : Obj} (h : H a = some (.frz ob u')) (h' : H a = some u) (hu : (∃ kvs, u = HO.dK kvs) ∨ ∃ kvs, u = HO.dT kvs) : False := by
  rw [h] at h'
  rcases hu with ⟨_, rfl⟩ | ⟨_, rfl⟩ <;> cases h'
theorem walkD (inj : ∀ i j, g.an i = g.an j → i = j) {o : Bool} {ks : List (D × D)} {k : Kd} {oρ ρ' : LP.Env} {ad : Addr} {ob : Obj} {u : HO} (a : Ps g σ F H ρ fp F1 H1 oρ fp1 T1) (h : KO g σ F1 H1 oρ (.dct o ks) k (.ref ad) T1) (hp : persK ks = true) (e : ownD k ks oρ = some ρ')
    (hu : (∃ kvs, u = HO.dK kvs) ∨ ∃ kvs, u = HO.dT kvs) (hr : Rd H1 ad u) (e1 : H2 ad = some (.frz ob u)) (e2 : ∀ b, b ≠ ad → H2 b = H1 b) (e3 : H1 ad = some u ∨ H2 = H1) :
    ∃ F2 fp2, Ps g σ F H ρ fp F2 H2 ρ' fp2 e0 ∧ F2 ad := by
  cases k with
  | val =>
    simp only [ownD, Option.some.injEq] at e
    subst e
    have h : Rp g F1 H1 (.dct o ks) (.ref ad) T1 := h
    simp only [Rp] at h
    obtain ⟨a', vs, U, ea, r, s, c, t⟩ := h
    cases ea
    cases o with
    | false =>
      obtain ⟨⟨hF, ob', u', hf⟩, _⟩ := t
      rcases e3 with e3 | rfl
      · exact (frz_no hf e3 hu).elim
      · exact ⟨F1, fp1, a.drop, hF⟩
    | true =>
      have t : T1 ad := t.1
      have ex : ∀ b, H1 b ≠ none → H2 b ≠ none := fun b hb => by
        by_cases z : b = ad
        · rw [z, e1]; simp
        · rw [e2 b z]; exact hb
      refine ⟨fun b => F1 b ∨ T1 b, fp1, a.chg ⟨fun b o e n => (e2 b fun z => n (z ▸ t)).trans e, fun _ z => .inl z, fun b z => z.imp_right .inl, ex⟩ fun b z => ?_, .inr t⟩
      exact ex b (z.elim (a.st.fz b) fun z => (a.tg b z).2.ne)
  | vw i p =>
    simp only [ownD] at e
    split at e
    case h_2 => cases e
    rename_i r hrow
    split at e
    case h_2 => cases e
    rename_i d' hm
    cases e
    obtain ⟨np, r', vr, h1, h2, h3, h4⟩ := h
    have er : r' = r := by
      rw [slotD_ow hrow] at h1; cases h1; rfl
    subst er
    cases o with
    | false => simp only [LP.pers, Bool.not_false, Bool.true_and, hp] at np; cases np
    | true =>
      obtain ⟨vr', ev, q⟩ := a.st.rp i r' (slotD_ow hrow)
      rw [h2] at ev; cases ev
      obtain ⟨v', U, w', q', hU, up⟩ := q.foc inj (fun b hb => a.st.gd i b hb) h3 (.inr np)
      obtain rfl := h4.det (w' H1 fun _ _ => rfl)
      simp only [Rp, if_true] at q'
      obtain ⟨a', vs, U', ea, rk, s, c, t, _⟩ := q'
      cases ea
      have ex : ∀ b, H1 b ≠ none → H2 b ≠ none := fun b hb => by
        by_cases z : b = ad
        · rw [z, e1]; simp
        · rw [e2 b z]; exact hb
      have kU : Kp U F1 (fun b => F1 b ∨ U b) H1 H2 := ⟨fun b o e n => (e2 b fun z => n (z ▸ t)).trans e, fun _ z => .inl z, fun b z => z.imp_right .inl, ex⟩
      have rk0 : RpK g F1 H1 ks vs e0 := by
        rw [RpK_iff] at rk ⊢
        refine RpL.pers _ _ _ e0 ?_ rk
        clear rk c q h3 hm np up h4 w'
        induction ks with
        | nil => rfl
        | cons x ks ih =>
          obtain ⟨x1, x2⟩ := x
          simp only [persK, Bool.and_eq_true] at hp
          simp only [List.map_cons, persL, Bool.and_eq_true]
          exact ⟨hp.1.2, ih hp.2⟩
      have c2 : DcAt H2 ad ks vs := by
        rcases c with ⟨kk, c1, c2, c3⟩ | ⟨kk, c1, c2, c3⟩
        · have : u = _ := rd_one hr c3 (by rcases hu with ⟨_, rfl⟩ | ⟨_, rfl⟩ <;> intro _ _ z <;> cases z)
          subst this
          exact .inl ⟨kk, c1, c2, .inr ⟨ob, e1⟩⟩
        · have : u = _ := rd_one hr c3 (by rcases hu with ⟨_, rfl⟩ | ⟨_, rfl⟩ <;> intro _ _ z <;> cases z)
          subst this
          exact .inr ⟨kk, c1, c2, .inr ⟨ob, e1⟩⟩
      have qf : Rp g (fun b => F1 b ∨ U b) H2 (.dct false ks) (.ref ad) e0 := by
        simp only [Rp, Bool.false_eq_true, if_false]
        exact ⟨ad, vs, e0, rfl, RpK.keep kU (fun b hb => a.st.gd i b (hU b hb)) ks vs e0 (fun _ z => z.elim) rk0, fun _ z => z.elim, c2, ⟨.inr t, ob, u, e1⟩, fun _ z => z⟩
      have q2 := up _ H2 _ e0 d' kU qf (fun _ z => z.elim) hm
      refine ⟨fun b => F1 b ∨ U b, _, (a.drop).slot hrow h2 q2 ⟨fun b o e n => (e2 b fun z => n (.inl (z ▸ hU _ t))).trans e, fun _ z => .inl z, fun b z => ?_, ex⟩ (fun b z => ?_) (fun b _ z => z) (fun b z => ?_) (fun b z => z.elim) (fun b z y => ?_), .inr t⟩
      · exact z.imp_right fun y => .inl (.inl (hU b y))
      · rcases z with (⟨z, _⟩ | z) | z
        · exact .inl z
        · exact z.elim
        · exact z.elim
      · rcases z with ⟨z, y⟩ | z
        · obtain ⟨n, o, eo, m⟩ := a.st.gd i b z
          exact ⟨fun w => w.elim n y, o, (e2 b fun zz => y (zz ▸ t)).trans eo, m⟩
        · exact z.elim
      · exact ex b ((z.elim (a.st.fz b) fun z => (a.st.gd i b (hU b z)).2.ne))
theorem rp_lstF {o : Bool} {ds : List D} {v : V} {U : AS} (h : Rp g F H (.lst o ds) v U) : ∃ a vs W, v = .ref a ∧ H a = some (.lst vs) ∧ RpL g F H ds vs W ∧ (∀ b, W b → U b) ∧ (if o = true then U a else F a) := by
  simp only [Rp] at h
  obtain ⟨a, vs, W, e, r, s, c, t⟩ := h
  refine ⟨a, vs, W, e, c, r, fun b hb => (s b hb).1, ?_⟩
  cases o
  · exact t.1
  · exact t
theorem pi_seqL (inj : ∀ i j, g.an i = g.an j → i = j) (K : X.K = g.K) {tg l : Expr} {it : E} (hl : PE X l (tE g call it)) : PI X tg l (tI g call it) :=
  ((pi_keysF hl).or ((pi_list hl).or (pi_tup hl))).imp fun σ H Q ⟨F, ρ, fp, s, ds, k, ρ1, hw, q⟩ => by
    rw [K]
    cases ho : LP.ev call it ρ with
    | none => rw [ho] at hw; simp [walk] at hw
    | some o =>
      rw [ho] at hw
      obtain ⟨od, ok, oρ⟩ := o
      simp only [walk] at hw
      cases od <;> simp only [reduceCtorEq] at hw
      · rename_i es
        simp only [Option.some.injEq, Prod.mk.injEq] at hw
        obtain ⟨rfl, rfl, rfl⟩ := hw
        refine .inr (.inr ⟨F, ρ, fp, s, _, ho, fun v F1 H1 fp1 T1 p1 k1 => ?_⟩)
        obtain ⟨U, r1⟩ := k1.rp inj p1.st
        obtain ⟨a, vs, rfl, ha, r⟩ := rp_tup r1
        exact ⟨a, rfl, ⟨vs, SqT.of ha⟩, q _ F1 H1 fp1 p1.drop (it_tup (ow_gd p1.st _) ha r)⟩
      · rename_i ow es
        refine .inr (.inl ⟨F, ρ, fp, s, _, ho, fun v F1 H1 fp1 T1 p1 k1 => ?_⟩)
        -- what an owned value gives
        have owned : ∀ (ρ' : LP.Env) (kd : Nat × List Stp), LP.own ⟨.lst ow es, .vw kd.1 kd.2, oρ⟩ = some (frz (.lst ow es), ρ') → (∀ J F' H' fp', Ps g σ F H ρ fp F' H' ρ' fp' e0 → ItOk g J (frzL es) (Ow (lock .val ρ') fp') F' H' → Q J H') → KO g σ F1 H1 oρ (.lst ow es) (.vw kd.1 kd.2) v T1 → ∃ a, v = .ref a ∧ (∃ xs, SqL g.K H1 a xs) ∧ Q (Itl g.K a) H1 := fun ρ' kd hown q k1 => by
          obtain ⟨F2, fp2, T2, p2, r2⟩ := own_ok inj (o := ⟨.lst ow es, .vw kd.1 kd.2, oρ⟩) p1 k1 hown
          simp only [frz] at r2
          obtain ⟨a, vs, W, rfl, ha, r, hW, hF⟩ := rp_lstF r2
          have hF : F2 a := hF
          have r0 : RpL g F2 H1 (frzL es) vs e0 := by
            simp only [Rp] at r2
            obtain ⟨a', vs', U, e', r', _, c', t'⟩ := r2
            cases e'
            rw [ha] at c'; cases c'
            exact r'.mono fun b hb => t'.2 b hb
          exact ⟨a, rfl, ⟨vs, SqL.of ha⟩, q _ F2 H1 fp2 p2.drop (it_list (ow_gd p2.st _) (fun z => (ow_gd p2.st _ a z).1 hF) ha r0)⟩
        have hfrz : ∀ (ρ' : LP.Env) (d : D) (kd : Nat × List Stp), LP.own ⟨.lst ow es, .vw kd.1 kd.2, oρ⟩ = some (d, ρ') → LP.own ⟨.lst ow es, .vw kd.1 kd.2, oρ⟩ = some (frz (.lst ow es), ρ') := fun ρ' d kd h => by
          have h' := h
          simp only [LP.own] at h'
          split at h'
          · split at h'
            case isFalse => cases h'
            split at h'
            · simp only [Option.some.injEq, Prod.mk.injEq] at h'
              obtain ⟨rfl, rfl⟩ := h'
              exact h
            · cases h'
          · cases h'
        split at hw
        · rename_i hp
          cases ok with
          | val =>
            simp only [Option.some.injEq, Prod.mk.injEq] at hw
            obtain ⟨rfl, rfl, rfl⟩ := hw
            have r1 : Rp g F1 H1 (.lst ow es) v T1 := k1
            obtain ⟨a, vs, W, rfl, ha, r, hW, hF⟩ := rp_lstF r1
            refine ⟨a, rfl, ⟨vs, SqL.of ha⟩, q _ F1 H1 fp1 p1.drop (it_list (ow_gd p1.st _) (fun z => ?_) ha (RpL.of_all hp r))⟩
            cases ow
            · exact (ow_gd p1.st _ a z).1 hF
            · obtain ⟨i, d, _, y⟩ := Ow_lock z
              exact p1.td i a y hF
          | vw i p =>
            cases p with
            | nil =>
              simp only [Option.some.injEq, Prod.mk.injEq] at hw
              obtain ⟨rfl, rfl, rfl⟩ := hw
              obtain ⟨np, r0, vr, e1, e2, e3, e4⟩ := k1
              simp only [getP, Option.some.injEq] at e3
              subst e3
              have e4 : vr = v := e4
              subst e4
              obtain ⟨v', e5, r1⟩ := p1.st.rp i _ e1
              rw [e2] at e5; cases e5
              obtain ⟨a, vs, W, rfl, ha, r, hW, hF⟩ := rp_lstF r1
              refine ⟨a, rfl, ⟨vs, SqL.of ha⟩, q _ F1 H1 fp1 p1.drop (it_list (ow_gd p1.st _) (fun z => ?_) ha (RpL.of_all hp r))⟩
              cases ow
              · exact (ow_gd p1.st _ a z).1 hF
              · obtain ⟨j, d, y1, y2⟩ := z
                have := p1.st.dis i j a hF y2
                subst this
                by_cases hh : ∃ d, oρ[i]? = some (Sl.ow d)
                · obtain ⟨d', hh⟩ := hh
                  rw [get_lock hh] at y1; cases y1
                · rw [lock_same fun d y => hh ⟨d, y⟩] at y1
                  exact hh ⟨d, y1⟩
            | cons st p =>
              simp only at hw
              split at hw
              · rename_i d ρ' hown
                simp only [Option.some.injEq, Prod.mk.injEq] at hw
                obtain ⟨rfl, rfl, rfl⟩ := hw
                exact owned ρ' (i, st :: p) (hfrz _ _ (i, st :: p) hown) q k1
              · cases hw
        · cases ok with
          | val =>
            try simp only at hw
            split at hw
            case isFalse => cases hw
            rename_i nd
            simp only [Option.some.injEq, Prod.mk.injEq] at hw
            obtain ⟨rfl, rfl, rfl⟩ := hw
            have r1 : Rp g F1 H1 (.lst ow es) v T1 := k1
            have p2 := p1.frzT
            have r2 := Rp.frz (F' := fun b => F1 b ∨ T1 b) (fun _ z => .inl z) _ v T1 (by simpa only [noD] using nd) (fun _ z => .inr z) r1
            simp only [frz, Rp] at r2
            obtain ⟨a, vs, U, rfl, r, _, ha, hF, hU⟩ := r2
            exact ⟨a, rfl, ⟨vs, SqL.of ha⟩, q _ _ H1 fp1 p2 (it_list (ow_gd p2.st _) (fun z => (ow_gd p2.st _ a z).1 hF) ha (r.mono hU))⟩
          | vw i p =>
            simp only at hw
            split at hw
            · rename_i d ρ' hown
              simp only [Option.some.injEq, Prod.mk.injEq] at hw
              obtain ⟨rfl, rfl, rfl⟩ := hw
              exact owned ρ' (i, p) (hfrz _ _ (i, p) hown) q k1
            · cases hw
      · rename_i ow ks
        split at hw
        case isFalse => cases hw
        rename_i hp
        split at hw
        case h_2 => cases hw
        rename_i ρ' hown
        simp only [Option.some.injEq, Prod.mk.injEq] at hw
        obtain ⟨rfl, rfl, rfl⟩ := hw
        refine .inl ⟨F, ρ, fp, s, _, ho, fun v F1 H1 fp1 T1 p1 k1 => ?_⟩
        obtain ⟨U, r1⟩ := k1.rp inj p1.st
        simp only [Rp] at r1
        obtain ⟨a, vs, W, rfl, rr, _, c, _⟩ := r1
        have hlen : ks.length = vs.length := by rw [RpK_iff] at rr; simpa using rr.length
        rcases c with ⟨kk, c1, c2, c3⟩ | ⟨kk, c1, c2, c3⟩
        · refine ⟨a, _, rfl, .inl ⟨_, rfl⟩, c3, fun ob H2 e1 e2 e3 => ?_⟩
          obtain ⟨F2, fp2, p2, hF2⟩ := walkD inj p1 k1 hp hown (.inl ⟨_, rfl⟩) c3 e1 e2 e3
          exact .inl ⟨_, rfl, q _ F2 H2 fp2 p2 (it_keyK (fun z => (ow_gd p2.st _ a z).1 hF2) e1 c1 hlen)⟩
        · refine ⟨a, _, rfl, .inr ⟨_, rfl⟩, c3, fun ob H2 e1 e2 e3 => ?_⟩
          obtain ⟨F2, fp2, p2, hF2⟩ := walkD inj p1 k1 hp hown (.inr ⟨_, rfl⟩) c3 e1 e2 e3
          exact .inr ⟨_, rfl, q _ F2 H2 fp2 p2 (it_keyT (fun z => (ow_gd p2.st _ a z).1 hF2) e1 c1 hlen)⟩
theorem ps_forL {tg iter : Expr} {body : List Stmt} {t : Tg} {it : E} {b : Ss} {pos : Pos} (hp : PassesOwn (model X.prog X.w) X.A X.env X.xe) (hc : X.calm = true) (hi : PI X tg iter (tI g call it)) (hg : PG X tg (gT g t)) (hb : PSs X body (tSs g call W b))
    (hs : ∀ x, foldedSetIterable iter X.env x = pure x) (hW : ∀ i, i ∈ slots t → W i) : PS X (.For tg iter body [] pos) (tS g call W (.for_ t it b)) :=
  (ps_for hp hc hi hg hb hs).imp fun D σ H ⟨F, ρ, fp, s, f, ρ', h, kk⟩ => by
    simp only [LP.ex] at h
    split at h
    · rename_i ds k ρ1 hw
      split at h
      · rename_i f' ρ4 hf
        simp only [Option.some.injEq, Prod.mk.injEq] at h
        obtain ⟨rfl, rfl⟩ := h
        refine ⟨F, ρ, fp, s, ds, k, ρ1, hw, fun J F1 H1 fp1 p1 hJ => ?_⟩
        have gA := ow_gd (k := k) p1.st
        refine ⟨fun i m σ' H' => m = ds.length - i ∧ i ≤ ds.length ∧ ∃ F' ρ' fp', Agr W σ σ' ∧ Ps g σ' F1 H1 (lock k ρ1) fp1 F' H' ρ' fp' e0 ∧ LP.forO _ (ds.drop i) ρ' = some (f', ρ4), ⟨_, rfl, Nat.zero_le _, F1, _, fp1, .refl, Ps.refl (p1.st.lock k), hf⟩, ?_⟩
        rintro i m σ2 H2 ⟨rfl, hi, F2, ρ2, fp2, g2, p2, hr⟩
        obtain ⟨J1, J2⟩ := hJ F2 H2 p2.kp p2.st.fz
        by_cases hlt : i < ds.length
        · obtain ⟨d, hd⟩ := some_of_lt hlt
          obtain ⟨j1, j2⟩ := J2 i d hd
          have ed : ds.drop i = d :: ds.drop (i + 1) := by
            rw [List.drop_eq_getElem_cons hlt]
            rw [List.getElem?_eq_getElem hlt] at hd
            rw [Option.some.inj hd]
          rw [ed] at hr
          simp only [LP.forO] at hr
          refine .inr ⟨j1, fun σ' H' => ∃ F' ρ' fp', Agr W σ σ' ∧ Ps g σ' F1 H1 (lock k ρ1) fp1 F' H' ρ' fp' e0 ∧ LP.forO _ (ds.drop (i + 1)) ρ' = some (f', ρ4), fun σ' H' ⟨F', ρ', fp', g', p', h'⟩ => ⟨ds.length - (i + 1), by omega, rfl, hlt, F', ρ', fp', g', p', h'⟩, fun x H3 y => ?_⟩
          obtain ⟨T, p3, r3⟩ := p2.newV (j2 x H3 y)
          cases ha : asgT t d ρ2 with
          | none => simp [ha] at hr
          | some ρ3 =>
            simp only [ha] at hr
            refine ⟨F1, H1, lock k ρ1, fp1, F2, ρ2, fp2, T, e0, d, ρ3, p3.weak fun b z => z.elim id fun z => z.elim, r3, fun _ _ z => z, ha, fun σ4 fp4 sm p4 => ?_⟩
            have g4 := g2.trans (sm.agr hW)
            cases hx : LP.exs call b ρ3 with
            | none => simp [hx] at hr
            | some o =>
              obtain ⟨fl, ρ5⟩ := o
              simp only [hx] at hr
              refine ⟨F2, ρ3, fp4, p4.st, fl, ρ5, hx, ?_⟩
              have fin : ∀ {σ' F' H' fp'}, Ps g σ' F2 H3 ρ3 fp4 F' H' ρ5 fp' e0 → Ps g σ' F H ρ fp F' H' (unlock k ρ1 ρ5) fp' e0 := fun p => p1.trans2 (p4.trans2 p).unlock
              cases fl with
              | nx => exact fun σ' F' H' fp' g5 p => ⟨F', ρ5, fp', g4.trans g5, p4.trans2 p, hr⟩
              | ct => exact fun σ' F' H' fp' g5 p => ⟨F', ρ5, fp', g4.trans g5, p4.trans2 p, hr⟩
              | br =>
                simp only [Option.some.injEq, Prod.mk.injEq] at hr
                obtain ⟨rfl, rfl⟩ := hr
                exact fun σ' F' H' fp' g5 p => kk σ' F' H' fp' (g4.trans g5) (fin p)
              | rt v =>
                simp only [Option.some.injEq, Prod.mk.injEq] at hr
                obtain ⟨rfl, rfl⟩ := hr
                exact fun u σ' F' H' fp' T g5 p r => kk u σ' F' H' fp' T (g4.trans g5) (p1.trans2 (p4.trans2 p).unlock) r
        · have e : i = ds.length := by omega
          subst e
          rw [List.drop_length] at hr
          simp only [LP.forO, Option.some.injEq, Prod.mk.injEq] at hr
          obtain ⟨rfl, rfl⟩ := hr
          exact .inl ⟨J1, kk σ2 F2 H2 fp2 g2 (p1.trans2 p2.unlock)⟩
      · cases h
    · cases h
theorem ps_whileL {c : Expr} {body : List Stmt} {ec : E} {b : Ss} {pos : Pos} (hp : PassesOwn (model X.prog X.w) X.A X.env X.xe) (hc : PT X c (tT g call ec)) (hb : PSs X body (tSs g call W b)) : PS X (.While c body [] pos) (tS g call W (.while_ ec b)) :=
  (ps_while hp hc hb).imp fun D σ H ⟨F, ρ, fp, s, f, ρ', h, kk⟩ => by
    simp only [LP.ex] at h
    generalize turns = n at h
    refine ⟨fun m σ' H' => ∃ F' ρ1 fp', Agr W σ σ' ∧ Ps g σ' F H ρ fp F' H' ρ1 fp' e0 ∧ LP.whileO (evB call ec) (exs call b) m ρ1 = some (f, ρ'), ⟨n, F, ρ, fp, .refl, Ps.refl s, h⟩, ?_⟩
    rintro m σ1 H1 ⟨F1, ρ1, fp1, g1, p1, h1⟩
    cases m with
    | zero => simp [LP.whileO] at h1
    | succ m =>
      simp only [LP.whileO] at h1
      split at h1
      · rename_i ρ2 h2
        simp only [Option.some.injEq, Prod.mk.injEq] at h1
        obtain ⟨rfl, rfl⟩ := h1
        refine evB_rd p1.st h2 fun F2 H2 fp2 p2 => ?_
        try dsimp only
        rw [if_neg Bool.false_ne_true]
        exact kk σ1 F2 H2 fp2 g1 (p1.trans2 p2)
      · rename_i ρ2 h2
        refine evB_rd p1.st h2 fun F2 H2 fp2 p2 => ?_
        try dsimp only
        rw [if_pos rfl]
        refine ⟨fun σ' H' => ∃ F' ρ3 fp', Agr W σ σ' ∧ Ps g σ' F H ρ fp F' H' ρ3 fp' e0 ∧ LP.whileO (evB call ec) (exs call b) m ρ3 = some (f, ρ'), fun σ' H' h' => ⟨m, Nat.lt_succ_self _, h'⟩, ?_⟩
        have p12 := p1.trans2 p2
        cases hx : LP.exs call b ρ2 with
        | none => simp [hx] at h1
        | some o =>
          obtain ⟨fl, ρ5⟩ := o
          simp only [hx] at h1
          refine ⟨F2, ρ2, fp2, p2.st, fl, ρ5, hx, ?_⟩
          cases fl with
          | nx => exact fun σ' F' H' fp' g5 p => ⟨F', ρ5, fp', g1.trans g5, p12.trans2 p, h1⟩
          | ct => exact fun σ' F' H' fp' g5 p => ⟨F', ρ5, fp', g1.trans g5, p12.trans2 p, h1⟩
          | br =>
            simp only [Option.some.injEq, Prod.mk.injEq] at h1
            obtain ⟨rfl, rfl⟩ := h1
            exact fun σ' F' H' fp' g5 p => kk σ' F' H' fp' (g1.trans g5) (p12.trans2 p)
          | rt v =>
            simp only [Option.some.injEq, Prod.mk.injEq] at h1
            obtain ⟨rfl, rfl⟩ := h1
            exact fun u σ' F' H' fp' T g5 p r => kk u σ' F' H' fp' T (g1.trans g5) (p12.trans2 p) r
      · cases h1
end
end LPS

set_option autoImplicit false
set_option linter.all false
set_option maxRecDepth 100000
/-! list comprehensions of one clause -/
namespace LPS
open PySem PySem.Spec PyProof.Rows L2 LP
theorem unset_at : ∀ {is : List Nat} {ρ : LP.Env} {j : Nat}, (unsetAll is ρ)[j]? = if j ∈ is then (ρ[j]?).map (fun _ => Sl.no) else ρ[j]?
  | [], ρ, j => by simp [unsetAll]
  | i :: is, ρ, j => by
    simp only [unsetAll]
    by_cases h : i = j
    · subst h
      by_cases hl : i < ρ.length
      · rw [List.getElem?_set_self (by
          have : (unsetAll is ρ).length = ρ.length := by
            clear hl
            induction is with
            | nil => rfl
            | cons _ _ ih => simp [unsetAll, ih]
          omega)]
        simp [List.getElem?_eq_getElem hl]
      · have : (unsetAll is ρ).length = ρ.length := by
          clear hl
          induction is with
          | nil => rfl
          | cons _ _ ih => simp [unsetAll, ih]
        rw [List.getElem?_eq_none (by simp; omega)]
        simp [List.getElem?_eq_none (by omega : ρ.length ≤ i)]
    · rw [List.getElem?_set_ne h, unset_at]
      simp [Ne.symm h]
theorem unset_len : ∀ {is : List Nat} {ρ : LP.Env}, (unsetAll is ρ).length = ρ.length
  | [], ρ => rfl
  | i :: is, ρ => by simp [unsetAll, unset_len]
theorem reset_len : ∀ {is : List Nat} {ρ0 ρ : LP.Env}, (resetAll is ρ0 ρ).length = ρ.length
  | [], _, ρ => rfl
  | i :: is, ρ0, ρ => by
    simp only [resetAll]
    split
    · simp [reset_len]
    · exact reset_len
theorem reset_at : ∀ {is : List Nat} {ρ0 ρ : LP.Env} {j : Nat}, ρ0.length = ρ.length → (resetAll is ρ0 ρ)[j]? = if j ∈ is then ρ0[j]? else ρ[j]?
  | [], ρ0, ρ, j, _ => by simp [resetAll]
  | i :: is, ρ0, ρ, j, hl => by
    simp only [resetAll]
    by_cases h : i = j
    · subst h
      split
      · rename_i s hs
        rw [List.getElem?_set_self (by rw [reset_len, ← hl]; exact (List.getElem?_eq_some_iff.mp hs).1)]
        simp [hs]
      · rename_i hs
        rw [List.getElem?_eq_none (by rw [reset_len, ← hl]; simpa using hs)]
        simp [hs]
    · split
      · rw [List.getElem?_set_ne h, reset_at hl]
        simp [Ne.symm h]
      · rw [reset_at hl]
        simp [Ne.symm h]
theorem wipe_in {σ : L2.St} {i : Nat} : ∀ {vs : List Nat}, i ∈ vs → (wipe σ vs)[i]? = (σ[i]?).map fun _ => none
  | [], h => by simp at h
  | v :: vs, h => by
    unfold wipe
    by_cases e : v = i
    · subst e
      by_cases hl : v < σ.length
      · rw [List.getElem?_set_self (by rw [wipe_length]; exact hl)]
        simp [List.getElem?_eq_getElem hl]
      · rw [List.getElem?_eq_none (by rw [List.length_set, wipe_length]; omega)]
        simp [List.getElem?_eq_none (by omega : σ.length ≤ v)]
    · rw [List.getElem?_set_ne e]
      exact wipe_in ((List.mem_cons.mp h).resolve_left (Ne.symm e))
theorem wipe_sm {σ σ2 : L2.St} {is vs : List Nat} (h : SmE (wipe σ vs) σ2 is) (hs : ∀ i, i ∈ is → i ∈ vs) : wipe σ2 vs = wipe σ vs := by
  apply List.ext_getElem?
  intro j
  have hl : σ2.length = σ.length := by rw [h.1, wipe_length]
  by_cases hj : j ∈ vs
  · rw [wipe_in hj, wipe_in hj]
    by_cases hk : j < σ.length
    · rw [List.getElem?_eq_getElem hk, List.getElem?_eq_getElem (by omega)]
      rfl
    · rw [List.getElem?_eq_none (by omega), List.getElem?_eq_none (by omega)]
  · rw [wipe_out hj, h.2 j fun z => hj (hs j z)]
theorem wipe_two {σ : L2.St} {vs : List Nat} : wipe (wipe σ vs) vs = wipe σ vs := wipe_sm (is := []) ⟨rfl, fun _ _ => rfl⟩ fun _ z => by simp at z
section
variable {g : Gk} {call : LP.Cll} {σ σ1 σ2 : L2.St} {F F1 F2 : AS} {H H1 H2 : Hp} {ρ ρ1 ρ2 : LP.Env} {fp fp1 fp2 : Nat → AS} {T T1 T2 R : AS} {X : Cx}
theorem slotD_unset {is : List Nat} {j : Nat} : slotD (unsetAll is ρ) j = if j ∈ is then none else slotD ρ j := by
  unfold slotD
  rw [unset_at]
  by_cases h : j ∈ is
  · rw [if_pos h, if_pos h]
    cases ρ[j]? <;> rfl
  · rw [if_neg h, if_neg h]
/-- slots wiped -/
theorem Ps.unset {is : List Nat} (a : Ps g σ F H ρ fp F1 H1 ρ1 fp1 T) (nro : ∀ i d, i ∈ is → ρ[i]? ≠ some (Sl.ro d)) : Ps g (wipe σ is) F H ρ fp F1 H1 (unsetAll is ρ1) (fun j b => j ∉ is ∧ fp1 j b) T := by
  have at_ne : ∀ {j : Nat}, j ∉ is → (unsetAll is ρ1)[j]? = ρ1[j]? := fun h => by rw [unset_at, if_neg h]
  refine ⟨⟨by rw [unset_len, wipe_length]; exact a.st.len, fun j d h => ?_, fun i j b h1 h2 => a.st.dis i j b h1.2 h2.2, fun i b h => a.st.gd i b h.2, fun i b h => ?_, a.st.fz⟩, a.kp, fun b h => ?_, fun j d => ?_, fun j d h b => ?_, a.tg, fun i b h => a.td i b h.2⟩
  · rw [slotD_unset] at h
    split at h
    · cases h
    · rename_i hj
      obtain ⟨v, hv, r⟩ := a.st.rp j d h
      exact ⟨v, by rw [wipe_out hj]; exact hv, r.mono fun b hb => ⟨hj, hb⟩⟩
  · rw [slotD_unset, if_neg h.1]
    exact a.st.lv i b h.2
  · rcases h with ⟨j, d, e, hj, hb⟩ | h
    · rw [at_ne hj] at e
      exact a.fr b (.inl ⟨j, d, e, hb⟩)
    · exact a.fr b (.inr h)
  · by_cases hj : j ∈ is
    · constructor
      · intro z; exact absurd z (nro j d hj)
      · intro z
        rw [unset_at, if_pos hj] at z
        cases e : ρ1[j]? with
        | none => rw [e] at z; cases z
        | some s => rw [e] at z; cases z
    · rw [at_ne hj]
      exact a.ro j d
  · have hj : j ∉ is := fun z => nro j d z h
    rw [← a.rf j d h b]
    exact ⟨fun z => z.2, fun z => ⟨hj, z⟩⟩
theorem St1.unset (s : St1 g F H ρ σ fp) (is : List Nat) : St1 g F H (unsetAll is ρ) σ (fun j b => j ∉ is ∧ fp j b) := by
  refine ⟨by rw [unset_len]; exact s.len, fun j d h => ?_, fun i j b h1 h2 => s.dis i j b h1.2 h2.2, fun i b h => s.gd i b h.2, fun i b h => ?_, s.fz⟩
  · rw [slotD_unset] at h
    split at h
    · cases h
    · rename_i hj
      obtain ⟨v, hv, r⟩ := s.rp j d h
      exact ⟨v, hv, r.mono fun b hb => ⟨hj, hb⟩⟩
  · rw [slotD_unset, if_neg h.1]
    exact s.lv i b h.2
/-- a block's end: its own slots are as they were -/
theorem Ps.reset {is : List Nat} (s : St1 g F H ρ σ fp) (p : Ps g σ2 F H (unsetAll is ρ) (fun j b => j ∉ is ∧ fp j b) F1 H1 ρ1 fp1 T) (hw : wipe σ2 is = wipe σ is) : Ps g σ F H ρ fp F1 H1 (resetAll is ρ ρ1) (fun j b => (j ∈ is ∧ fp j b) ∨ (j ∉ is ∧ fp1 j b)) T := by
  have hl : ρ.length = ρ1.length := by
    rw [s.len, p.st.len, ← wipe_length σ is, ← wipe_length σ2 is, hw]
  have atI : ∀ {j : Nat}, j ∈ is → (resetAll is ρ ρ1)[j]? = ρ[j]? := fun h => by rw [reset_at hl, if_pos h]
  have atO : ∀ {j : Nat}, j ∉ is → (resetAll is ρ ρ1)[j]? = ρ1[j]? := fun h => by rw [reset_at hl, if_neg h]
  have sdI : ∀ {j : Nat}, j ∈ is → slotD (resetAll is ρ ρ1) j = slotD ρ j := fun h => by unfold slotD; rw [atI h]
  have sdO : ∀ {j : Nat}, j ∉ is → slotD (resetAll is ρ ρ1) j = slotD ρ1 j := fun h => by unfold slotD; rw [atO h]
  have uO : ∀ {j : Nat}, j ∉ is → (unsetAll is ρ)[j]? = ρ[j]? := fun h => by rw [unset_at, if_neg h]
  -- what the block owns is not of its own names
  have ow : ∀ {b}, Ow (unsetAll is ρ) (fun j b => j ∉ is ∧ fp j b) b → ∃ i d, i ∉ is ∧ ρ[i]? = some (Sl.ow d) ∧ fp i b := fun {b} ⟨i, d, e, hi, hb⟩ => ⟨i, d, hi, by rwa [uO hi] at e, hb⟩
  have apart : ∀ {j : Nat} {b}, j ∈ is → fp j b → ¬ Ow (unsetAll is ρ) (fun j b => j ∉ is ∧ fp j b) b := fun {j b} hj hb z => by
    obtain ⟨i, d, hi, _, hb'⟩ := ow z
    have := s.dis j i b hb hb'
    exact hi (this ▸ hj)
  have gO : Gd (Ow (unsetAll is ρ) (fun j b => j ∉ is ∧ fp j b)) F H := fun b z => by
    obtain ⟨i, d, _, _, hb⟩ := ow z
    exact s.gd i b hb
  have apart2 : ∀ {j l : Nat} {b}, j ∈ is → fp j b → l ∉ is → ¬ fp1 l b := fun {j l b} hj hb hl z => by
    obtain ⟨d, hd⟩ := p.st.lv l b z
    have fin : ¬ (Ow (unsetAll is ρ) (fun j b => j ∉ is ∧ fp j b) b ∨ H b = none) := fun y => y.elim (apart hj hb) (s.gd j b hb).2.ne
    unfold slotD at hd
    split at hd
    · rename_i d0 e
      exact fin (p.fr b (.inl ⟨l, d0, e, z⟩))
    · rename_i d0 e
      have e1 := (p.ro l d0).mpr e
      have := ((p.rf l d0 e1 b).mp z).2
      exact hl ((s.dis j l b hb this) ▸ hj)
    · cases hd
  refine ⟨⟨by rw [reset_len, ← hl]; exact s.len, fun j d h => ?_, fun i j b h1 h2 => ?_, fun i b h => ?_, fun i b h => ?_, p.st.fz⟩, ⟨fun b o e n => p.kp.keep b o e fun z => ?_, p.kp.mono, fun b h => ?_, p.kp.ex⟩, fun b h => ?_, fun j d => ?_, fun j d h b => ?_, p.tg, fun i b h z => ?_⟩
  · by_cases hj : j ∈ is
    · rw [sdI hj] at h
      obtain ⟨v, hv, r⟩ := s.rp j d h
      exact ⟨v, hv, (Rp.keep p.kp gO d v _ (fun b hb => apart hj hb) r).mono fun b hb => .inl ⟨hj, hb⟩⟩
    · rw [sdO hj] at h
      obtain ⟨v, hv, r⟩ := p.st.rp j d h
      refine ⟨v, ?_, r.mono fun b hb => .inr ⟨hj, hb⟩⟩
      rw [← hv, ← wipe_out (σ := σ) hj, ← wipe_out (σ := σ2) hj, hw]
  · rcases h1 with ⟨a1, a2⟩ | ⟨a1, a2⟩
    · rcases h2 with ⟨b1, b2⟩ | ⟨b1, b2⟩
      · exact s.dis i j b a2 b2
      · exact absurd b2 (apart2 a1 a2 b1)
    · rcases h2 with ⟨b1, b2⟩ | ⟨b1, b2⟩
      · exact absurd a2 (apart2 b1 b2 a1)
      · exact p.st.dis i j b a2 b2
  · rcases h with ⟨a1, a2⟩ | ⟨a1, a2⟩
    · obtain ⟨n, o, e, m⟩ := s.gd i b a2
      refine ⟨fun z => ?_, o, p.kp.keep b o e (apart a1 a2), m⟩
      rcases p.kp.new b z with z | z | z
      · exact n z
      · exact apart a1 a2 z
      · rw [e] at z; cases z
    · exact p.st.gd i b a2
  · rcases h with ⟨a1, a2⟩ | ⟨a1, a2⟩
    · rw [sdI a1]; exact s.lv i b a2
    · rw [sdO a1]; exact p.st.lv i b a2
  · obtain ⟨i, d, _, hi, hb⟩ := ow z
    exact n ⟨i, d, hi, hb⟩
  · rcases p.kp.new b h with z | z | z
    · exact .inl z
    · obtain ⟨i, d, _, hi, hb⟩ := ow z
      exact .inr (.inl ⟨i, d, hi, hb⟩)
    · exact .inr (.inr z)
  · have go : Ow (unsetAll is ρ) (fun j b => j ∉ is ∧ fp j b) b ∨ H b = none → Ow ρ fp b ∨ H b = none := fun z => z.imp_left fun z => by
      obtain ⟨i, d, _, hi, hb⟩ := ow z
      exact ⟨i, d, hi, hb⟩
    rcases h with ⟨j, d, e, ⟨a1, a2⟩ | ⟨a1, a2⟩⟩ | h
    · rw [atI a1] at e
      exact .inl ⟨j, d, e, a2⟩
    · rw [atO a1] at e
      exact go (p.fr b (.inl ⟨j, d, e, a2⟩))
    · exact go (p.fr b (.inr h))
  · by_cases hj : j ∈ is
    · rw [atI hj]
    · rw [atO hj, ← p.ro j d, uO hj]
  · by_cases hj : j ∈ is
    · constructor
      · intro z; exact z.elim (fun z => z.2) fun z => absurd hj z.1
      · intro z; exact .inl ⟨hj, z⟩
    · have e1 : (unsetAll is ρ)[j]? = some (Sl.ro d) := by rw [uO hj]; exact h
      have := p.rf j d e1 b
      constructor
      · intro z
        rcases z with z | z
        · exact absurd z.1 hj
        · exact (this.mp z.2).2
      · intro z; exact .inr ⟨hj, this.mpr ⟨hj, z⟩⟩
  · rcases h with ⟨a1, a2⟩ | ⟨a1, a2⟩
    · exact (p.fr b (.inr z)).elim (apart a1 a2) (s.gd i b a2).2.ne
    · exact p.td i b a2 z
/-- a write at an object in hand -/
theorem Ps.inhand {D : Addr} {o : HO} (p : Ps g σ F H ρ fp F1 H1 ρ1 fp1 T) (hD : T D) (m : MuO (upd H1 D o) D) : Ps g σ F H ρ fp F1 (upd H1 D o) ρ1 fp1 T := by
  have ne1 : H1 D ≠ none := (p.tg D hD).2.ne
  have k : Kp (fun b => b = D) F1 F1 H1 (upd H1 D o) := Kp.upd1 rfl ne1
  have gA : Gd (fun b => b = D) F1 H1 := fun b hb => by subst hb; exact p.tg b hD
  have ng : ∀ j, ¬ fp1 j D := fun j z => p.td j D z hD
  have back := p.fr D (.inr hD)
  refine ⟨⟨p.st.len, fun j d h => ?_, p.st.dis, fun i b h => ?_, p.st.lv, fun b h => k.ex b (p.st.fz b h)⟩, ⟨fun b o' e n => ?_, p.kp.mono, p.kp.new, fun b h => k.ex b (p.kp.ex b h)⟩, p.fr, p.ro, p.rf, p.tg.upd1 m, p.td⟩
  · obtain ⟨v, hv, r⟩ := p.st.rp j d h
    exact ⟨v, hv, Rp.keep k gA d v _ (fun b hb z => ng j (z ▸ hb)) r⟩
  · obtain ⟨n, o', e, q⟩ := p.st.gd i b h
    exact ⟨n, o', by rw [upd_ne (fun z => ng i (by rw [← z]; exact h))]; exact e, q⟩
  · have : b ≠ D := fun z => by
      subst z
      exact back.elim n fun z => by rw [z] at e; cases e
    rw [upd_ne this]
    exact p.kp.keep b o' e n
def tC (g : Gk) (call : LP.Cll) (c : Oe) : TT := fun σ H Q => ∃ F ρ fp, St1 g F H ρ σ fp ∧ ∃ b ρ', LP.evC call c ρ = some (b, ρ') ∧ ∀ F' H' fp', Ps g σ F H ρ fp F' H' ρ' fp' e0 → Q b H'
theorem _root_.L2.PTs.imp {e : List Expr} {t t' : TT} (h : PTs X e t) (k : ∀ σ H Q, t' σ H Q → t σ H Q) : PTs X e t' := ⟨fun pins s σ H Q I w => h.run pins s σ H Q I (k σ H Q w)⟩
theorem pts_nilL : PTs X [] (tC g call .no) := pts_nil.imp fun σ H Q ⟨F, ρ, fp, s, b, ρ', h, k⟩ => by
  simp only [LP.evC, Option.some.injEq, Prod.mk.injEq] at h
  obtain ⟨rfl, rfl⟩ := h
  exact k F H fp (Ps.refl s)
theorem pts_oneL {c : Expr} {ec : E} (h : PT X c (tT g call ec)) : PTs X [c] (tC g call (.so ec)) := (pts_one h).imp fun σ H Q ⟨F, ρ, fp, s, b, ρ', h, k⟩ => by
  simp only [LP.evC] at h
  split at h
  · rename_i o ho
    split at h
    · rename_i t ht
      simp only [Option.some.injEq, Prod.mk.injEq] at h
      obtain ⟨rfl, rfl⟩ := h
      exact ⟨F, ρ, fp, s, o, t, ho, ht, k⟩
    · cases h
  · cases h
theorem lc_rd (inj : ∀ i j, g.an i = g.an j → i = j) {e it : E} {is : List Nat} {t : Tg} {c : Oe} {o : Out} {Q : VK} (s : St1 g F H ρ σ fp) (hsub : ∀ i, i ∈ slots t → i ∈ is) (ho : LP.ev call (.lc1 e is t it c) ρ = some o)
    (kk : ∀ v F' H' fp' T, Ps g σ F H ρ fp F' H' o.ρ fp' T → KO g σ F' H' o.ρ o.d o.k v T → Q v H') : tLc (tI g call it) (gT g t) (tC g call c) (tE g call e) is σ H Q := by
  simp only [LP.ev] at ho
  split at ho
  · rename_i ds k ρ1 hw
    split at ho
    · rename_i r ρ4 hf
      cases ho
      refine ⟨F, ρ, fp, s, ds, k, ρ1, hw, fun J F1 H1 fp1 p1 hJ D hD => ?_⟩
      have sL := p1.st.lock k
      have sB := sL.unset is
      have nroB : ∀ i d, i ∈ is → (unsetAll is (lock k ρ1))[i]? ≠ some (Sl.ro d) := fun i d hi z => by
        rw [unset_at, if_pos hi] at z
        cases e : (lock k ρ1)[i]? with
        | none => rw [e] at z; cases z
        | some s => rw [e] at z; cases z
      have pB := ((Ps.refl sB).alloc (o := .lst []) hD (T := fun b => b = D) (fun b z => .inr z) fun b _ z => by subst z; exact ⟨_, upd_same, .inl ⟨_, rfl⟩⟩).1
      have rB : Rp g F1 (upd H1 D (.lst [])) (.lst true []) (.ref D) (fun b => b = D) := by
        simp only [Rp]
        exact ⟨D, [], e0, rfl, RpL.nil, fun _ z => z.elim, upd_same, rfl⟩
      refine ⟨fun i m H' => m = ds.length - i ∧ i ≤ ds.length ∧ ∃ σ2 F' ρ' fp' T acc, wipe σ2 is = wipe σ is ∧ Ps g σ2 F1 H1 (unsetAll is (lock k ρ1)) (fun j b => j ∉ is ∧ fp1 j b) F' H' ρ' fp' T ∧ Rp g F' H' (.lst true acc) (.ref D) T ∧ T D ∧ LP.foldO _ (ds.drop i) (acc, ρ') = some (r, ρ4), ⟨_, rfl, Nat.zero_le _, σ, F1, _, _, _, [], rfl, pB, rB, rfl, hf⟩, ?_⟩
      rintro i m H2 ⟨rfl, hi, σ2, F2, ρ2, fp2, T, acc, hws, p2, rA, hTD, hr⟩
      have kpJ : Kp (Ow (lock k ρ1) fp1) F1 F2 H1 H2 := ⟨fun b o e n => p2.kp.keep b o e fun ⟨j, d, e1, hj, hb⟩ => n ⟨j, d, by rwa [unset_at, if_neg hj] at e1, hb⟩, p2.kp.mono, fun b h => (p2.kp.new b h).imp_right fun z => z.imp_left fun ⟨j, d, e1, hj, hb⟩ => ⟨j, d, by rwa [unset_at, if_neg hj] at e1, hb⟩, p2.kp.ex⟩
      obtain ⟨J1, J2⟩ := hJ F2 H2 kpJ p2.st.fz
      by_cases hlt : i < ds.length
      · obtain ⟨d, hd⟩ := some_of_lt hlt
        obtain ⟨j1, j2⟩ := J2 i d hd
        have ed : ds.drop i = d :: ds.drop (i + 1) := by
          rw [List.drop_eq_getElem_cons hlt]
          rw [List.getElem?_eq_getElem hlt] at hd
          rw [Option.some.inj hd]
        rw [ed] at hr
        simp only [LP.foldO] at hr
        refine .inr ⟨j1, fun H' => ∃ σ2 F' ρ' fp' T acc, wipe σ2 is = wipe σ is ∧ Ps g σ2 F1 H1 (unsetAll is (lock k ρ1)) (fun j b => j ∉ is ∧ fp1 j b) F' H' ρ' fp' T ∧ Rp g F' H' (.lst true acc) (.ref D) T ∧ T D ∧ LP.foldO _ (ds.drop (i + 1)) (acc, ρ') = some (r, ρ4), fun H' h' => ⟨ds.length - (i + 1), by omega, rfl, hlt, h'⟩, fun x H3 y => ?_⟩
        -- the turn's start
        have p3 := p2.unset nroB
        rw [hws] at p3
        have q0 := Ps.refl p3.st
        obtain ⟨Tx, q1, rx⟩ := q0.newV (j2 x H3 y)
        obtain ⟨rA1, p4, dj⟩ := p3.hold q1 rA
        cases ha : asgT t d (unsetAll is ρ2) with
        | none => simp [ha] at hr
        | some ρ3 =>
          simp only [ha] at hr
          refine ⟨F1, H1, _, _, F2, unsetAll is ρ2, _, Tx, T, d, ρ3, p4.weak fun b z => z.symm, rx, fun b hb z => dj b z hb, ha, fun σ4 fp4 sm p5 => ⟨wipe_sm sm hsub, ?_⟩⟩
          have hws4 : wipe σ4 is = wipe σ is := by rw [wipe_sm sm hsub]
          cases hc : LP.evC call c ρ3 with
          | none => simp [hc] at hr
          | some bc =>
            obtain ⟨b, ρ5⟩ := bc
            simp only [hc] at hr
            refine ⟨F2, ρ3, fp4, p5.st, b, ρ5, hc, fun F6 H6 fp6 p6 => ?_⟩
            obtain ⟨rA2, p7, _⟩ := p5.hold p6 rA1
            have p7 := p7.weak (T := T) fun _ z => .inl z
            cases b with
            | false =>
              simp only [Bool.false_eq_true, if_false] at hr ⊢
              exact ⟨σ4, F6, ρ5, fp6, T, acc, hws4, p7, rA2, hTD, hr⟩
            | true =>
              simp only [if_true] at hr ⊢
              cases he : LP.ev call e ρ5 with
              | none => simp [he] at hr
              | some oe =>
                simp only [he] at hr
                cases hw2 : own oe with
                | none => simp [hw2] at hr
                | some xo =>
                  obtain ⟨dx, ρ6⟩ := xo
                  simp only [hw2] at hr
                  refine ⟨F6, ρ5, fp6, p7.st, oe, he, fun v F7 H7 fp7 T7 p8 k8 => ?_⟩
                  obtain ⟨F8, fp8, T8, p9, r9⟩ := own_ok inj p8 k8 hw2
                  obtain ⟨rA3, pA, dA⟩ := p7.hold p9 rA2
                  split at hr
                  · rename_i b' hb'
                    obtain ⟨a, ws, W, ea, hD7, rl, hTa, hW⟩ := rp_own rA3
                    cases ea
                    split at hb'
                    · rename_i hlen
                      cases hb'
                      refine ⟨ws, hD7, by rw [← rl.length, lim_eq]; omega, ?_⟩
                      have mu : MuO (upd H7 D (.lst (ws ++ [v]))) D := ⟨_, upd_same, .inl ⟨_, rfl⟩⟩
                      have pB := pA.inhand (o := .lst (ws ++ [v])) (.inl hTD) mu
                      have na : ∀ b, T8 b → b ≠ D := fun b hb z => dA D hTD (z ▸ hb)
                      have gU : Gd (fun b => T b ∨ T8 b) F8 H7 := pA.tg
                      refine ⟨σ4, F8, ρ6, fp8, _, acc ++ [dx], hws4, pB, ?_, .inl hTD, hr⟩
                      refine mk_own (W := fun b => W b ∨ T8 b) upd_same (RpL.app2 (rl.upd1 gU (.inl hTD) fun b hb => (hW b hb).2) ((RpL.cons (r9.upd1 gU (.inl hTD) na) (RpL.nil (T := e0)) fun b _ z => z).mono fun b hb => hb.elim id fun z => z.elim) fun b hb z => dA b (hW b hb).1 z) (.inl hTD) fun b hb => hb.elim (fun z => ⟨.inl (hW b z).1, (hW b z).2⟩) fun z => ⟨.inr z, na b z⟩
                    · cases hb'
                  · cases hr
      · have e : i = ds.length := by omega
        subst e
        rw [List.drop_length] at hr
        simp only [LP.foldO, Option.some.injEq, Prod.mk.injEq] at hr
        obtain ⟨rfl, rfl⟩ := hr
        refine .inl ⟨J1, kk _ F2 H2 _ T (p1.trans2 (Ps.reset sL p2 hws).unlock) rA⟩
    · cases ho
  · cases ho
theorem pe_lcL (inj : ∀ i j, g.an i = g.an j → i = j) {elt tg iter : Expr} {ifs : List Expr} {scope : Scope} {own : List (PySem.Str × Nat)} {pos : Pos} {e it : E} {is : List Nat} {t : Tg} {c : Oe} (hc : X.calm = true) (hN : X.N.Nodup) (hi : PI X tg iter (tI g call it)) (ok : BlkOk X.N X.env.scope scope own)
    (hg : ∀ (s : Shared) (H : Hp) (C : Addr) (cl : List (PySem.Str × Addr)) (fp : List Addr), PG (X.blk s H scope (compEnvC scope cl C X.env) fp) tg (gT g t)) (ht : ∀ (s : Shared) (H : Hp) (C : Addr) (cl : List (PySem.Str × Addr)) (fp : List Addr), PTs (X.blk s H scope (compEnvC scope cl C X.env) fp) ifs (tC g call c))
    (he : ∀ (s : Shared) (H : Hp) (C : Addr) (cl : List (PySem.Str × Addr)) (fp : List Addr), PE (X.blk s H scope (compEnvC scope cl C X.env) fp) elt (tE g call e)) (hs : ∀ x, foldedSetIterable iter X.env x = pure x) (hw : own.map (·.2) = is) (hsub : ∀ i, i ∈ slots t → i ∈ is) :
    PE X (.ListComp elt [⟨tg, iter, ifs, 0⟩] scope pos) (tE g call (.lc1 e is t it c)) :=
  (pe_lc hc hN hi ok hg ht he hs).imp fun σ H Q ⟨F, ρ, fp, s, o, ho, k⟩ => by
    rw [hw]
    exact lc_rd inj s hsub ho k
end
end LPS

set_option autoImplicit false
set_option linter.all false
set_option maxRecDepth 100000
/-! x op= y, dict displays -/
namespace LPS
open PySem PySem.Spec PyProof.Rows L2 LP
/-- an augmented operator by LP's -/
def rI (g : Gk) (f : Bop) : V → V → Hp → VK → Prop := fun x y H Q => ∃ F d1 d2 U1 U2 d, Rp g F H d1 x U1 ∧ Rp g F H d2 y U2 ∧ augOp f d1 d2 = some d ∧ ∀ v, Rp g F H d v e0 → Q v H
def rDGet : V → V → Hp → VK → Prop := fun o i H Q => ∃ a v, o = .ref a ∧ DGet H a i (some v) ∧ Q v H
section
variable {g : Gk} {call : LP.Cll} {σ σ1 σ2 : L2.St} {F F1 F2 : AS} {H H1 H2 : Hp} {ρ ρ1 ρ2 : LP.Env} {fp fp1 fp2 : Nat → AS} {T T1 T2 R : AS} {X : Cx} {W : Nat → Prop}
theorem augOp_inv {f : Bop} {a b d : D} (h : augOp f a b = some d) : (∃ i j, f = .add ∧ a = .int i ∧ b = .int j ∧ d = .int (i + j)) ∨ (∃ i j, f = .sub ∧ a = .int i ∧ b = .int j ∧ d = .int (i - j)) ∨ ∃ s t, f = .add ∧ a = .str s ∧ b = .str t ∧ s.length + t.length < lim ∧ d = .str (s ++ t) := by
  unfold augOp at h
  split at h
  · cases h; exact .inl ⟨_, _, rfl, rfl, rfl, rfl⟩
  · cases h; exact .inr (.inl ⟨_, _, rfl, rfl, rfl, rfl⟩)
  · split at h
    · rename_i hl
      cases h; exact .inr (.inr ⟨_, _, rfl, rfl, rfl, hl, rfl⟩)
    · cases h
  · cases h
theorem ia_add : InOp X .Add (rI g .add) := by
  rintro pins s σ H x y u v Q I rx ry ⟨F, d1, d2, U1, U2, d, h1, h2, h, q⟩
  rcases augOp_inv h with ⟨i, j, _, rfl, rfl, rfl⟩ | ⟨i, j, e, _⟩ | ⟨a, b, _, rfl, rfl, hl, rfl⟩
  · obtain rfl := rp_int h1
    obtain rfl := rp_int h2
    exact in_add pins s σ H _ _ u v Q I rx ry ⟨i, j, rfl, rfl, q _ (mk_int _ _)⟩
  · cases e
  · obtain rfl := rp_str h1
    obtain rfl := rp_str h2
    refine in_addS pins s σ H _ _ u v Q I rx ry ⟨_, _, rfl, rfl, by rw [sV_len, sV_len, lim_eq]; omega, ?_⟩
    rw [sV_app]
    exact q _ (mk_str _ _)
theorem ia_sub : InOp X .Sub (rI g .sub) := by
  rintro pins s σ H x y u v Q I rx ry ⟨F, d1, d2, U1, U2, d, h1, h2, h, q⟩
  rcases augOp_inv h with ⟨i, j, e, _⟩ | ⟨i, j, _, rfl, rfl, rfl⟩ | ⟨a, b, e, _⟩
  · cases e
  · obtain rfl := rp_int h1
    obtain rfl := rp_int h2
    exact in_sub pins s σ H _ _ u v Q I rx ry ⟨i, j, rfl, rfl, q _ (mk_int _ _)⟩
  · cases e
theorem get_dct (hu : X.A.units + 1 < cLine) : PGet X rDGet := by
  rintro pins s σ H o i ov iv Q I ro ri ⟨a, v, rfl, h, q⟩
  obtain rfl : ov = Value.ref a := ro
  exact d_getItem hu I h ri fun w' s' I' r => ⟨v, H, I', r, q⟩
theorem augOp_pers {f : Bop} {a b d : D} (h : augOp f a b = some d) : LP.pers d = true := by
  rcases augOp_inv h with ⟨i, j, _, _, _, rfl⟩ | ⟨i, j, _, _, _, rfl⟩ | ⟨a, b, _, _, _, _, rfl⟩ <;> rfl
theorem ps_augL (inj : ∀ i j, g.an i = g.an j → i = j) {i : Nat} {x : PySem.Str} {e : Expr} {ee : E} {op : Operator} {bo : Bop} {pos pos' : Pos} (hW : W i) (h : PS X (.AugAssign (.Name x pos') op e pos) (tAug i (tE g call ee) (rI g bo))) : PS X (.AugAssign (.Name x pos') op e pos) (tS g call W (.aug i bo ee)) := h.imp fun D σ H ⟨F, ρ, fp, s, f, ρ', h, k⟩ => by
  simp only [LP.ex] at h
  split at h
  · rename_i o1 h1
    split at h
    · rename_i o2 h2
      split at h
      · rename_i d hd
        split at h
        · rename_i ρ3 h3
          simp only [Option.some.injEq, Prod.mk.injEq] at h
          obtain ⟨rfl, rfl⟩ := h
          obtain ⟨v, hv, e1, sd, k1⟩ := rd_ok s h1
          have s1 : St1 g F H o1.ρ σ fp := by rw [e1]; exact s
          have p1 : Ps g σ F H ρ fp F H o1.ρ fp e0 := by rw [e1]; exact Ps.refl s
          rw [← e1] at k1
          refine ⟨v, hv, F, _, fp, s1.lock o1.k, o2, h2, fun y F2 H2 fp2 T2 p2 k2 => ?_⟩
          obtain ⟨T, k1', p⟩ := KO.stay2 inj p1 k1 p2
          obtain ⟨U1, r1⟩ := k1'.rp inj p.st
          obtain ⟨U2, r2⟩ := k2.rp inj p2.st
          refine ⟨F2, _, _, U1, U2, d, r1, r2, hd, fun z rz => ?_⟩
          obtain ⟨a1, a2, rfl⟩ := asg_nm h3
          exact k _ F2 H2 _ (Agr.set hW) ((p.weak (T := fun b => e0 b ∨ e0 b) fun b z => z.elim (fun z => z.elim) fun z => z.elim).asg rz (fun _ z _ => z) a1 a2)
        · cases h
      · cases h
    · cases h
  · cases h
theorem kFit_np {ks : List (D × D)} {k : D} (h : kFit ks k = true) : LP.pers k = true := by
  have aux : ∀ d, isK d = true → LP.pers d = true := fun d h => by cases d <;> simp [isK] at h <;> rfl
  simp only [kFit, Bool.or_eq_true, Bool.and_eq_true] at h
  rcases h with ⟨h, _⟩ | ⟨h, _⟩
  · exact aux k h
  · cases k <;> simp only [isTK, Bool.false_eq_true] at h
    rename_i ds
    simp only [LP.pers]
    induction ds with
    | nil => rfl
    | cons d ds ih =>
      simp only [List.all_cons, Bool.and_eq_true] at h
      simp only [LP.persL, aux d h.1, ih h.2, Bool.and_self]
theorem ps_augSL (inj : ∀ i j, g.an i = g.an j → i = j) (hu : X.A.units + 66 < cLine) {o i e : Expr} {er ek ee : E} {op : Operator} {bo : Bop} {tpos pos : Pos} (ho : PE X o (tE g call er)) (hi : PE X i (tE g call ek)) (he : PE X e (tE g call ee)) (hop : InOp X op (rI g bo))
    (ha : ∀ ov iv new, augStore i ov iv new = (do holding [new, ov, iv] (setItem ov iv new); release [new, ov, iv] []; pure .next)) : PS X (.AugAssign (.Subscript o i tpos) op e pos) (tS g call W (.augS er ek bo ee)) :=
  (ps_augS ho hi (get_dct (by omega)) he hop (set_sto (by omega)) ha).imp fun D σ H ⟨F, ρ, fp, s, f, ρ', h, k⟩ => by
    simp only [LP.ex] at h
    split at h
    · rename_i o1 h1
      split at h
      · rename_i o2 h2
        split at h
        · rename_i hdct
          split at h
          · rename_i st hst
            split at h
            · rename_i old hold
              split at h
              · rename_i oe h3
                split at h
                · rename_i d hd
                  split at h
                  · rename_i o4 h4
                    simp only [Option.some.injEq, Prod.mk.injEq] at h
                    obtain ⟨rfl, rfl⟩ := h
                    obtain ⟨j, p, r, c, x, c', r', hk, hr, hg, hf, hm, rfl⟩ := atView_inv h4
                    simp only at hk hr k
                    refine seq2 inj s h1 h2 fun vo vk F2 H2 fp2 T1 T2 p12 k1 k2 ⟨U1, r1⟩ ⟨U2, r2⟩ => ?_
                    cases hd1 : o1.d <;> rw [hd1] at hdct <;> simp [isDct] at hdct
                    rename_i ow ks
                    rw [hd1] at hst hold r1
                    simp only [stepOf] at hst
                    split at hst
                    · rename_i hfit
                      cases hst
                      simp only [getS, if_pos hfit] at hold
                      obtain ⟨e, hle, hpe⟩ : ∃ e, look ks o2.d = some e ∧ LP.pers e = true ∧ old = e := by
                        unfold perO at hold
                        split at hold
                        · rename_i e he
                          split at hold
                          · rename_i hp; cases hold; exact ⟨_, he, hp, rfl⟩
                          · cases hold
                        · cases hold
                      obtain ⟨hpe, rfl⟩ := hpe
                      have r1' := r1
                      simp only [Rp] at r1'
                      obtain ⟨a, vs, W, rfl, rv, _, cd, _⟩ := r1'
                      rcases dc_get cd rv hfit r2 with ⟨hn, _⟩ | ⟨e', ve, he', hge, rve, _⟩
                      · rw [hn] at hle; cases hle
                      · rw [hle] at he'; cases he'
                        refine ⟨a, ve, rfl, hge, ?_⟩
                        -- the right side
                        have sD : St1 g F2 H2 (lockD o1.k (unlock o1.k o1.ρ o2.ρ)) σ fp2 := by
                          unfold lockD
                          split
                          · exact p12.st.lock _
                          · exact p12.st
                        refine ⟨F2, _, fp2, sD, oe, h3, fun y F3 H3 fp3 T3 p3 k3 => ?_⟩
                        obtain ⟨Uy, ry⟩ := k3.rp inj p3.st
                        have rve' : Rp g F3 H3 old ve e0 := Rp.keep p3.kp sD.own_gd old ve e0 (fun _ z => z.elim) (Rp.pers _ _ _ _ hpe rve)
                        refine ⟨F3, old, oe.d, e0, Uy, d, rve', ry, hd, fun z rz => ?_⟩
                        have rk' : Rp g F3 H3 o2.d vk e0 := Rp.keep p3.kp sD.own_gd o2.d vk e0 (fun _ z => z.elim) (Rp.pers _ _ _ _ (kFit_np hfit) r2)
                        split at hf
                        · rename_i st hst
                          simp only [Option.map_eq_some_iff, Prod.mk.injEq] at hf
                          obtain ⟨c'', hset, rfl, rfl⟩ := hf
                          rw [hk] at k1 p3 hr k p12
                          obtain ⟨k1', p4⟩ := stayD inj (p12.weak (T := T1) fun _ z => .inl z) k1 p3 hr hg (stepOf_np hst hset)
                          exact sto_do inj p4.drop k1' hr hg hst hset hm rk' rz fun H4 fp4 p6 => k σ F3 H4 fp4 .refl p6
                        · cases hf
                    · cases hst
                  · cases h
                · cases h
              · cases h
            · cases h
          · cases h
        · cases h
      · cases h
    · cases h
/-! ### dict displays -/
theorem mergeK_nd : ∀ (more acc : List (Key × V)), ((acc ++ more).map (·.1)).Nodup → mergeK acc more = acc ++ more
  | [], acc, _ => by simp [mergeK]
  | p :: more, acc, h => by
    have hn : valV acc p.1 = none := by
      cases e : valV acc p.1 with
      | none => rfl
      | some v =>
        have hm := valV_in e
        rw [List.map_append, List.nodup_append] at h
        exact absurd rfl (h.2.2 p.1 hm p.1 (by simp))
    have e := L2.putK_new p.2 hn
    show mergeK (L2.putK acc p.1 p.2) more = _
    rw [e, mergeK_nd more _ (by simpa using h)]
    simp
/-- the readings of a display's pairs -/
def trs (g : Gk) (call : LP.Cll) : Ks → List (TE × TE)
  | .nil => []
  | .cons k v ks => (tE g call k, tE g call v) :: trs g call ks
theorem pairs_rd (inj : ∀ i j, g.an i = g.an j → i = j) {p : Addr} {F0 : AS} {H0 : Hp} {ρ0 : LP.Env} {fp0 : Nat → AS} : ∀ (ks : Ks) (F : AS) (H : Hp) (ρ : LP.Env) (fp : Nat → AS) (T : AS) (kv kv' : List (D × D)) (ρ' : LP.Env) (kk : List Key) (vs : List V) (W : AS) (Q : List (V × V) → Hp → Prop),
    LP.evKs call ks ρ kv = some (kv', ρ') → Ps g σ F0 H0 ρ0 fp0 F H ρ fp T → H p = some (.dK []) → T p → kD kv = some kk → kk.Nodup → RpK g F H kv vs W → (∀ b, W b → T b ∧ b ≠ p) → kv.length ≤ 15 →
    (∀ F' H' fp' T' W' kk' vs', Ps g σ F0 H0 ρ0 fp0 F' H' ρ' fp' T' → H' p = some (.dK []) → T' p → kD kv' = some (kk ++ kk') → (kk ++ kk').Nodup → RpK g F' H' kv' (vs ++ vs') W' → (∀ b, W' b → T' b ∧ b ≠ p) → kv'.length ≤ 15 → kk'.length = vs'.length →
      Q ((kk'.zip vs').map fun q => (kV q.1, q.2)) H') → tPairs (trs g call ks) σ H Q
  | .nil, F, H, ρ, fp, T, kv, kv', ρ', kk, vs, W, Q, h, a, hp, hT, hk, nd, r, hW, hl, q => by
    simp only [LP.evKs, Option.some.injEq, Prod.mk.injEq] at h
    obtain ⟨rfl, rfl⟩ := h
    have := q F H fp T W [] [] a hp hT (by simpa using hk) (by simpa using nd) (by simpa using r) hW hl rfl
    simpa [trs, tPairs] using this
  | .cons ek ev ks, F, H, ρ, fp, T, kv, kv', ρ', kk, vs, W, Q, h, a, hp, hT, hk, nd, r, hW, hl, q => by
    simp only [LP.evKs] at h
    split at h
    · rename_i ok hok
      split at h
      · rename_i hc
        simp only [Bool.and_eq_true, decide_eq_true_eq, Option.isNone_iff_eq_none] at hc
        obtain ⟨⟨hik, hln⟩, hl15⟩ := hc
        split at h
        · rename_i ov hov
          split at h
          · rename_i d ρ2 hown
            obtain ⟨qk, hqk⟩ := isK_key hik
            have hnew := (look_kk hk hqk).mp hln
            have pd : ∀ {F1 H1 ρ1 fp1 F2 H2 ρ2 fp2 T1 T2}, Ps g σ F0 H0 ρ0 fp0 F1 H1 ρ1 fp1 T1 → Ps g σ F1 H1 ρ1 fp1 F2 H2 ρ2 fp2 T2 → H1 p = some (.dK []) → T1 p → RpK g F1 H1 kv vs W → (∀ b, W b → T1 b ∧ b ≠ p) → H2 p = some (.dK []) ∧ RpK g F2 H2 kv vs W := fun {F1 H1 ρ1 fp1 F2 H2 ρ2 fp2 T1 T2} a b hp hT r hW => by
              have no : ∀ x, T1 x → ¬ Ow ρ1 fp1 x := fun x hx ⟨j, dd, _, z⟩ => a.td j x z hx
              refine ⟨b.kp.keep _ _ hp (no _ hT), ?_⟩
              rw [RpK_iff] at r ⊢
              exact RpL.keep b.kp a.st.own_gd _ _ _ (fun x hx => no x (hW x hx).1) r
            have hold : ∀ {F1 H1 ρ1 fp1 F2 H2 ρ2 fp2 T1 T2}, Ps g σ F0 H0 ρ0 fp0 F1 H1 ρ1 fp1 T1 → Ps g σ F1 H1 ρ1 fp1 F2 H2 ρ2 fp2 T2 → Ps g σ F0 H0 ρ0 fp0 F2 H2 ρ2 fp2 (fun x => T1 x ∨ T2 x) ∧ ∀ x, T1 x → ¬ T2 x := fun {F1 H1 ρ1 fp1 F2 H2 ρ2 fp2 T1 T2} a b => by
              have hr : Rp g F1 H1 .non .non T1 := mk_non _
              obtain ⟨_, h2, h3⟩ := a.hold b hr
              exact ⟨h2, h3⟩
            refine ⟨F, ρ, fp, a.st, ok, hok, fun xk F1 H1 fp1 T1 p1 k1 => ?_⟩
            obtain ⟨Uk, rk⟩ := k1.rp inj p1.st
            have exk := key_rp rk hqk
            obtain ⟨hp1, r1⟩ := pd a p1 hp hT r hW
            have a1 := (hold a p1).1.weak (T := T) fun _ z => .inl z
            refine ⟨F1, ok.ρ, fp1, a1.st, ov, hov, fun xv F2 H2 fp2 T2 p2 k2 => ?_⟩
            obtain ⟨F3, fp3, T3, p3, r3⟩ := own_ok inj p2 k2 hown
            obtain ⟨hp2, r2⟩ := pd a1 p3 hp1 hT r1 hW
            obtain ⟨a2, dj⟩ := hold a1 p3
            refine pairs_rd inj ks F3 H2 ρ2 fp3 _ (kv ++ [(ok.d, d)]) kv' ρ' (kk ++ [qk]) (vs ++ [xv]) (fun x => W x ∨ T3 x) _ h a2 hp2 (.inl hT) (kD_app hk hqk) (nodup_snoc nd hnew) ?_ (fun b hb => hb.elim (fun z => ⟨.inl (hW b z).1, (hW b z).2⟩) fun z => ⟨.inr z, fun e => dj p hT (e ▸ z)⟩) (by simp; omega) fun F' H' fp' T' W' kk' vs' q1 q2 q3 q4 q5 q6 q7 q8 q9 => ?_
            · rw [RpK_iff] at r2 ⊢
              rw [List.map_append]
              exact RpL.app2 r2 ((RpL.cons r3 (RpL.nil (T := e0)) fun b _ z => z).mono fun b hb => hb.elim id fun z => z.elim) fun b hb z => dj b (hW b hb).1 z
            · have := q F' H' fp' T' W' (qk :: kk') (xv :: vs') q1 q2 q3 (by simpa using q4) (by simpa using q5) (by simpa using q6) q7 q8 (by simp [q9])
              rw [exk]
              simpa using this
          · cases h
        · cases h
      · cases h
    · cases h
theorem pe_dctL (inj : ∀ i j, g.an i = g.an j → i = j) {keys : List (Option Expr)} {values : List Expr} {ks : Ks} {pos : Pos} (h : PPs X pos keys values (trs g call ks)) (hall : keys.all (·.isSome) = true) (hl : keys.length = values.length) (h0 : keys ≠ []) (h15 : keys.length ≤ 15) :
    PE X (.Dict keys values pos) (tE g call (.dct ks)) := (pe_disp h hall hl h0 h15).imp fun σ H Q ⟨F, ρ, fp, s, o, ho, k⟩ => by
  simp only [LP.ev] at ho
  split at ho
  · rename_i kv ρ' hk
    cases ho
    intro p hp
    have a := ((Ps.refl s).alloc (o := .dK []) hp (T := fun b => b = p) (fun b z => .inr z) fun b _ z => by subst z; exact ⟨_, upd_same, .inr (.inl ⟨_, rfl⟩)⟩).1
    refine pairs_rd inj ks F _ ρ fp _ [] kv ρ' [] [] e0 _ hk a upd_same rfl rfl List.nodup_nil (by simp [RpK]) (fun _ z => z.elim) (by simp) fun F' H' fp' T' W' kk' vs' q1 q2 q3 q4 q5 q6 q7 q8 q9 => ?_
    simp only [List.nil_append] at q4 q5 q6
    refine ⟨q2, kk'.zip vs', rfl, ?_, ?_⟩
    · rw [List.length_zip, kD_len q4]; omega
    · have hm : (List.map (·.1) (kk'.zip vs')) = kk' := List.map_fst_zip (by omega)
      rw [mergeK_nd _ _ (by simpa [hm] using q5), List.nil_append]
      have mu : MuO (upd H' p (.dK (kk'.zip vs'))) p := ⟨_, upd_same, .inr (.inl ⟨_, rfl⟩)⟩
      refine k _ F' _ fp' T' (q1.inhand q3 mu) ?_
      show Rp g F' _ (.dct true kv) _ _
      simp only [Rp]
      refine ⟨p, vs', W', rfl, ?_, q7, .inl ⟨kk', q4, q5, .inl upd_same⟩, q3, fun ob u z => by rw [upd_same] at z; cases z⟩
      rw [RpK_iff] at q6 ⊢
      exact q6.upd1 q1.tg q3 fun b hb => (q7 b hb).2
  · cases ho
theorem pe_dct0L {pos : Pos} : PE X (.Dict [] [] pos) (tE g call (.dct .nil)) := pe_dnewK.imp fun σ H Q ⟨F, ρ, fp, s, o, ho, k⟩ => by
  simp only [LP.ev, LP.evKs, Option.some.injEq] at ho
  subst ho
  intro p hp
  have a := ((Ps.refl s).alloc (o := .dK []) hp (T := fun b => b = p) (fun b z => .inr z) fun b _ z => by subst z; exact ⟨_, upd_same, .inr (.inl ⟨_, rfl⟩)⟩).1
  refine k _ F _ fp _ a ?_
  show Rp g F _ (.dct true []) _ _
  simp only [Rp]
  exact ⟨p, [], e0, rfl, by simp [RpK], fun _ z => z.elim, .inl ⟨[], rfl, List.nodup_nil, .inl upd_same⟩, rfl, fun ob u z => by rw [upd_same] at z; cases z⟩
end
end LPS

set_option autoImplicit false
set_option linter.all false
set_option maxRecDepth 100000
/-! built-in functions -/
namespace LPS
open PySem PySem.Spec PyProof.Rows L2 LP
section
variable {g : Gk} {call : LP.Cll} {σ σ1 σ2 : L2.St} {F F1 F2 : AS} {H H1 H2 : Hp} {ρ ρ1 ρ2 : LP.Env} {fp fp1 fp2 : Nat → AS} {T T1 T2 R : AS} {X : Cx}
theorem tCB_imp {b : Blt} {as : Es} {σ : L2.St} {H : Hp} {Q : VK} (h : tE g call (.blt b as) σ H Q) : tCB (rC g (blt b)) (tV g call as) σ H Q := by
  obtain ⟨F, ρ, fp, s, o, ho, k⟩ := h
  simp only [LP.ev] at ho
  split at ho
  · rename_i ds ρ' h1
    split at ho
    · rename_i d hd
      cases ho
      refine ⟨F, ρ, fp, s, ds, ρ', h1, fun vs F1 H1 fp1 p1 r1 => ⟨F1, ds, d, r1, hd, p1.st.fz, fun v H' n => ?_⟩⟩
      obtain ⟨T, p', r⟩ := p1.newV n
      exact k v F1 H' fp1 T p' r
    · cases ho
  · cases ho
theorem pe_bltL {b : Blt} {id : String} {x : PySem.Str} {p pos : Pos} {e : Expr} {es : List Expr} {as : Es} (hc : CallR X (.builtin id) (rC g (blt b))) (hg : Gl X x) (hm : X.mg x = none) (hv : bootBuiltins x = some (.builtin id)) (ha : PA X (e :: es) (tV g call as)) (hn : x ≠ "__name__") (hdb : (x == ("__debug__" : PySem.Str)) = false)
    (he : starEach (e :: es) X.env = (false, eval e X.env) :: starEach es X.env) (hpl : (backTo pos (starEach es X.env)).any (·.1) = false) : PE X (.Call (.Name x p) (e :: es) [] pos) (tE g call (.blt b as)) :=
  (pe_callB hc hg hm hv ha hn hdb he hpl).imp fun σ H Q h => tCB_imp h
theorem pe_bltTL {b : Blt} {ty : String} {x : PySem.Str} {p pos : Pos} {e : Expr} {es : List Expr} {as : Es} (hc : CallR X (.type ty) (rC g (blt b))) (hg : Gl X x) (hm : X.mg x = none) (hv : bootBuiltins x = some (.type ty)) (ha : PA X (e :: es) (tV g call as)) (hn : x ≠ "__name__") (hdb : (x == ("__debug__" : PySem.Str)) = false)
    (he : starEach (e :: es) X.env = (false, eval e X.env) :: starEach es X.env) (hpl : (backTo pos (starEach es X.env)).any (·.1) = false) : PE X (.Call (.Name x p) (e :: es) [] pos) (tE g call (.blt b as)) :=
  (pe_callTy hc hg hm hv ha hn hdb he hpl).imp fun σ H Q h => tCB_imp h
theorem CallR.or {f : Value} {r r' : List V → Hp → VK → Prop} (h : CallR X f r) (h' : CallR X f r') : CallR X f (fun xs H Q => r xs H Q ∨ r' xs H Q) := fun pins s σ H xs us Q I rx q => q.elim (h pins s σ H xs us Q I rx) (h' pins s σ H xs us Q I rx)
theorem rdl1 {a : D} {vs : List V} (h : RdL g F H [a] vs) : ∃ v U, vs = [v] ∧ Rp g F H a v U := by
  simp only [RdL] at h
  obtain ⟨v, r, U, rfl, h1, rfl⟩ := h
  exact ⟨v, U, rfl, h1⟩
theorem rdl2 {a b : D} {vs : List V} (h : RdL g F H [a, b] vs) : ∃ v w U W, vs = [v, w] ∧ Rp g F H a v U ∧ Rp g F H b w W := by
  simp only [RdL] at h
  obtain ⟨v, r, U, rfl, h1, w, r2, W, rfl, h2, rfl⟩ := h
  exact ⟨v, w, U, W, rfl, h1, h2⟩
theorem len_inv {ds : List D} {d : D} (h : blt .len ds = some d) : (∃ s, ds = [.str s] ∧ s.length < lim ∧ d = .int s.length) ∨ (∃ es, ds = [.tup es] ∧ d = .int es.length) ∨ (∃ o es, ds = [.lst o es] ∧ d = .int es.length) ∨
    (∃ o ks, ds = [.dct o ks] ∧ d = .int ks.length) ∨ ∃ ns, ds = [.scr ns] ∧ d = .int ns.length := by
  cases ds with
  | nil => simp [blt] at h
  | cons a r =>
    cases r with
    | cons _ _ => simp [blt] at h
    | nil =>
      cases a <;> simp only [blt, reduceCtorEq, Option.some.injEq] at h
      · split at h
        · rename_i hl; cases h; exact .inl ⟨_, rfl, hl, rfl⟩
        · cases h
      · subst h; exact .inr (.inl ⟨_, rfl, rfl⟩)
      · subst h; exact .inr (.inr (.inl ⟨_, _, rfl, rfl⟩))
      · subst h; exact .inr (.inr (.inr (.inl ⟨_, _, rfl, rfl⟩)))
      · subst h; exact .inr (.inr (.inr (.inr ⟨_, rfl, rfl⟩)))
theorem call_lenR : CallR X (.builtin "len") (fun xs H Q => ∃ a kvs, xs = [V.ref a] ∧ Rd H a (.dK kvs) ∧ Q (.int kvs.length) H) := by
  intro pins s σ H xs us Q I r h
  obtain ⟨a, kvs, rfl, ha, q⟩ := h
  obtain ⟨u, rfl, ru⟩ := vals1 r
  cases ru
  exact d_len I ha fun t s' I' => ⟨.int kvs.length, H, I', ⟨t, rfl⟩, q⟩
theorem call_lenT : CallR X (.builtin "len") (fun xs H Q => ∃ a kvs, xs = [V.ref a] ∧ Rd H a (.dT kvs) ∧ Q (.int kvs.length) H) := by
  intro pins s σ H xs us Q I r h
  obtain ⟨a, kvs, rfl, ha, q⟩ := h
  obtain ⟨u, rfl, ru⟩ := vals1 r
  cases ru
  obtain ⟨z, hd, ys, rel, dd⟩ := dt_rd I.hok ha
  have hl : kvs.length = ys.length := Paired.length rel
  refine call_len_dictH hd dd (by rw [← hl]; rw [sizeLine_eq] at z; omega) ?_
  rw [← hl]
  exact ⟨.int ((kvs.length : Nat) : Int), H, I.tok _, ⟨_, rfl⟩, q⟩
theorem cr_len (K : X.K = g.K) : CallR X (.builtin "len") (rC g (blt .len)) := by
  rintro pins s σ H xs us Q I r ⟨F, ds, d, rd, hb, hF, q⟩
  rcases len_inv hb with ⟨z, rfl, hl, rfl⟩ | ⟨es, rfl, rfl⟩ | ⟨o, es, rfl, rfl⟩ | ⟨o, ks, rfl, rfl⟩ | ⟨ns, rfl, rfl⟩
  all_goals obtain ⟨v, U, rfl, r1⟩ := rdl1 rd
  · obtain rfl := rp_str r1
    refine call_len_str pins s σ H _ us Q I r ⟨_, rfl, by rw [sV_len, lim_eq]; omega, ?_⟩
    rw [sV_len]
    exact q _ _ (new_old (mk_int _ _))
  · obtain ⟨a, vs, rfl, ha, rr⟩ := rp_tup r1
    refine call_len_seq pins s σ H _ us Q I r ⟨a, vs, rfl, .inr (SqT.of ha), ?_⟩
    rw [← rr.length]
    exact q _ _ (new_old (mk_int _ _))
  · obtain ⟨a, vs, W, rfl, ha, rr⟩ := rp_lst r1
    refine call_len_seq pins s σ H _ us Q I r ⟨a, vs, rfl, .inl (SqL.of ha), ?_⟩
    rw [← rr.length]
    exact q _ _ (new_old (mk_int _ _))
  · simp only [Rp] at r1
    obtain ⟨a, vs, W, rfl, rr, _, c, _⟩ := r1
    have hlen : ks.length = vs.length := by rw [RpK_iff] at rr; simpa using rr.length
    rcases c with ⟨kk, e1, _, e2⟩ | ⟨tt, e1, _, e2⟩
    · refine call_lenR pins s σ H _ us Q I r ⟨a, _, rfl, e2, ?_⟩
      have := kD_len e1
      rw [List.length_zip, show min kk.length vs.length = ks.length by omega]
      exact q _ _ (new_old (mk_int _ _))
    · refine call_lenT pins s σ H _ us Q I r ⟨a, _, rfl, e2, ?_⟩
      have := tD_len e1
      rw [List.length_zip, show min tt.length vs.length = ks.length by omega]
      exact q _ _ (new_old (mk_int _ _))
  · simp only [Rp] at r1
    obtain ⟨a, rfl, sc⟩ := r1
    have hs : SqL X.K H a (ns.map V.int) := by
      rw [K]
      rcases sc with ⟨h, _⟩ | ⟨o, h⟩ | h
      · exact SqL.of h
      · exact .inl (.inr ⟨o, h⟩)
      · exact h H
    refine call_len_seq pins s σ H _ us Q I r ⟨a, _, rfl, .inl hs, ?_⟩
    rw [List.length_map]
    exact q _ _ (new_old (mk_int _ _))
theorem cr_abs : CallR X (.builtin "abs") (rC g (blt .abs)) := by
  rintro pins s σ H xs us Q I r ⟨F, ds, d, rd, hb, hF, q⟩
  have : ∃ i, ds = [.int i] ∧ d = .int i.natAbs := by
    match ds, hb with
    | [.int i], h => simp only [blt, Option.some.injEq] at h; exact ⟨i, rfl, h.symm⟩
  obtain ⟨i, rfl, rfl⟩ := this
  obtain ⟨v, U, rfl, r1⟩ := rdl1 rd
  obtain rfl := rp_int r1
  refine call_abs pins s σ H _ us Q I r ⟨i, rfl, ?_⟩
  have e : (if i < 0 then -i else i) = (i.natAbs : Int) := by split <;> omega
  rw [e]
  exact q _ _ (new_old (mk_int _ _))
theorem cr_int : CallR X (.type "int") (rC g (blt .int)) := by
  rintro pins s σ H xs us Q I r ⟨F, ds, d, rd, hb, hF, q⟩
  have : (∃ i, ds = [.int i] ∧ d = .int i) ∨ ∃ b, ds = [.bl b] ∧ d = .int (LP.b2i b) := by
    match ds, hb with
    | [.int i], h => simp only [blt, Option.some.injEq] at h; exact .inl ⟨i, rfl, h.symm⟩
    | [.bl i], h => simp only [blt, Option.some.injEq] at h; exact .inr ⟨i, rfl, h.symm⟩
  rcases this with ⟨i, rfl, rfl⟩ | ⟨b, rfl, rfl⟩
  · obtain ⟨v, U, rfl, r1⟩ := rdl1 rd
    obtain rfl := rp_int r1
    exact call_int1 pins s σ H _ us Q I r (.inl ⟨i, rfl, q _ _ (new_old (mk_int _ _))⟩)
  · obtain ⟨v, U, rfl, r1⟩ := rdl1 rd
    obtain rfl := rp_bl r1
    exact call_int1 pins s σ H _ us Q I r (.inr ⟨b, rfl, q _ _ (new_old (mk_int _ _))⟩)
theorem cr_tuple (K : X.K = g.K) : CallR X (.type "tuple") (rC g (blt .tuple)) := by
  rintro pins s σ H xs us Q I r ⟨F, ds, d, rd, hb, hF, q⟩
  have : (∃ es, ds = [.tup es] ∧ d = .tup es) ∨ ∃ o es, ds = [.lst o es] ∧ persL es = true ∧ d = .tup es := by
    match ds, hb with
    | [.tup es], h => simp only [blt, Option.some.injEq] at h; exact .inl ⟨es, rfl, h.symm⟩
    | [.lst o es], h =>
      simp only [blt] at h
      split at h
      · rename_i hp; cases h; exact .inr ⟨o, es, rfl, hp, rfl⟩
      · cases h
  rcases this with ⟨es, rfl, rfl⟩ | ⟨o, es, rfl, hp, rfl⟩
  all_goals obtain ⟨v, U, rfl, r1⟩ := rdl1 rd
  · have r0 := r1
    obtain ⟨a, vs, rfl, ha, rr⟩ := rp_tup r1
    exact call_tuple_of pins s σ H _ us Q I r ⟨a, vs, rfl, .inr ⟨SqT.of ha, q _ _ (new_old (by simpa only [Rp] using r0))⟩⟩
  · obtain ⟨a, vs, W, rfl, ha, rr⟩ := rp_lst r1
    exact call_tuple_of pins s σ H _ us Q I r ⟨a, vs, rfl, .inl ⟨SqL.of ha, fun l hl => q _ _ (new_tup hF hl (RpL.of_all hp rr))⟩⟩
theorem call_list_dR (hc : X.calm = true) : CallR X (.type "list") (fun xs H Q => ∃ p kvs, xs = [V.ref p] ∧ Rd H p (.dK kvs) ∧ ∀ q, H q = none → Q (.ref q) (upd H q (.lst (kvs.map fun kv => kV kv.1)))) := by
  intro pins s σ H xs us Q I r h
  obtain ⟨p, kvs, e, hk, q⟩ := h
  subst e
  obtain ⟨u, eu, rx⟩ := vals1 r
  subst eu
  obtain rfl : u = Value.ref p := rx
  obtain ⟨z, lo, vs, rk, hd⟩ := dk_rd I.hok hk
  obtain ⟨ep, hat⟩ := hd.dictAt
  have hl : kvs.length = vs.length := Paired.length rk
  refine PySem.W.kdl_call (PySem.W.kdl_dict (knd := mixKind X.prog X.w) (kvs := vs) (ep := ep) lo) (I.ok.hd hc) hat (by rw [← hl]; exact z) fun h' tk acc' c' hkeep hS hacc => ?_
  refine ⟨.ref s.heap.objs.size, upd H s.heap.objs.size (.lst (kvs.map fun kv => kV kv.1)), I.laid hkeep (Nat.le_refl _) (show ObjOk X.prog X.w _ _ _ (.lst (kvs.map fun kv => kV kv.1)) from ⟨?_, acc'.toList, c', ?_, ?_⟩), rfl, q _ (I.hok.fresh (Nat.le_refl _))⟩
  · rw [List.length_map]; exact z
  · have el : acc'.toList.length = acc'.size := by simp
    refine vals_of_at (by rw [List.length_map, el, hacc.1, hl]) fun j x w h1 h2 => ?_
    obtain ⟨k, y, hky, hi⟩ := hacc.2 j w (by rw [← Array.getElem?_toList]; exact h2)
    have e1 : (kvs.map (·.1))[j]? = some k := by
      rw [KV.keys rk, List.getElem?_map, hky] <;> rfl
    have e2 : (kvs.map fun kv => kV kv.1)[j]? = some (kV k) := by
      have e3 : (kvs.map fun kv => kV kv.1) = (kvs.map (·.1)).map kV := by rw [List.map_map] <;> rfl
      rw [e3, List.getElem?_map, e1] <;> rfl
    rw [e2] at h1
    cases h1
    exact keyIs_rel hi
  · rw [Array.toArray_toList]; exact hS
theorem kD_rp : ∀ {ks : List (D × D)} {kk : List Key}, kD ks = some kk → RpL g F H (ks.map (·.1)) (kk.map kV) e0
  | [], kk, h => by simp only [kD, Option.some.injEq] at h; subst h; exact RpL.nil
  | (k, d) :: ks, kk, h => by
    simp only [kD] at h
    split at h
    · rename_i q qs h1 h2
      cases h
      exact (RpL.cons (key_mk h1 e0) (kD_rp h2) fun _ z => z.elim).mono fun b z => z.elim (fun z => z) fun z => z
    · cases h
theorem tD_rp : ∀ {ks : List (D × D)} {tt : List (List Key)} {vs : List V} {bs : List Addr}, tD ks = some tt → tt.length = vs.length → IsKeys H (tt.zip vs) bs → RpL g F H (ks.map (·.1)) (bs.map V.ref) e0
  | [], tt, vs, bs, h, hl, hk => by
    simp only [tD, Option.some.injEq] at h
    subst h
    cases hk
    exact RpL.nil
  | (k, d) :: ks, tt, vs, bs, h, hl, hk => by
    simp only [tD] at h
    split at h
    · rename_i q qs h1 h2
      cases h
      cases vs with
      | nil => simp at hl
      | cons v vs =>
        rw [List.zip_cons_cons] at hk
        cases hk with
        | cons a b =>
          refine (RpL.cons (T1 := e0) ?_ (tD_rp h2 (by simpa using hl) b) fun _ z => z.elim).mono fun b z => z.elim (fun z => z) fun z => z
          cases k <;> simp only [tkD, reduceCtorEq] at h1
          simp only [Rp]
          exact ⟨_, _, rfl, a, keys_mk h1⟩
    · cases h
theorem cr_list (K : X.K = g.K) (hc : X.calm = true) : CallR X (.type "list") (rC g (blt .list)) := by
  rintro pins s σ H xs us Q I r ⟨F, ds, d, rd, hb, hF, q⟩
  have : (∃ es, ds = [.tup es] ∧ d = .lst true es) ∨ (∃ o es, ds = [.lst o es] ∧ persL es = true ∧ d = .lst true es) ∨ ∃ o ks, ds = [.dct o ks] ∧ d = .lst true (ks.map (·.1)) := by
    match ds, hb with
    | [.tup es], h => simp only [blt, Option.some.injEq] at h; exact .inl ⟨es, rfl, h.symm⟩
    | [.lst o es], h =>
      simp only [blt] at h
      split at h
      · rename_i hp; cases h; exact .inr (.inl ⟨o, es, rfl, hp, rfl⟩)
      · cases h
    | [.dct o ks], h => simp only [blt, Option.some.injEq] at h; exact .inr (.inr ⟨o, ks, rfl, h.symm⟩)
  rcases this with ⟨es, rfl, rfl⟩ | ⟨o, es, rfl, hp, rfl⟩ | ⟨o, ks, rfl, rfl⟩
  all_goals obtain ⟨v, U, rfl, r1⟩ := rdl1 rd
  · obtain ⟨a, vs, rfl, ha, rr⟩ := rp_tup r1
    exact call_list_of pins s σ H _ us Q I r ⟨a, vs, rfl, .inr (SqT.of ha), fun l hl => q _ _ (new_lst hF hl rr)⟩
  · obtain ⟨a, vs, W, rfl, ha, rr⟩ := rp_lst r1
    exact call_list_of pins s σ H _ us Q I r ⟨a, vs, rfl, .inl (SqL.of ha), fun l hl => q _ _ (new_lst hF hl (RpL.of_all hp rr))⟩
  · simp only [Rp] at r1
    obtain ⟨a, vs, W, rfl, rr, _, c, _⟩ := r1
    have hlen : ks.length = vs.length := by rw [RpK_iff] at rr; simpa using rr.length
    rcases c with ⟨kk, e1, _, e2⟩ | ⟨tt, e1, _, e2⟩
    · refine call_list_dR hc pins s σ H _ us Q I r ⟨a, _, rfl, e2, fun l hl => q _ _ (new_lst hF hl ?_)⟩
      have : (kk.zip vs).map (fun kv => kV kv.1) = kk.map kV := by
        have h2 : (kk.zip vs).map (fun kv => kV kv.1) = ((kk.zip vs).map (·.1)).map kV := by rw [List.map_map]; rfl
        rw [h2, List.map_fst_zip (by have := kD_len e1; omega)]
      rw [this]
      exact kD_rp e1
    · refine call_list_dT hc pins s σ H _ us Q I r ⟨a, _, rfl, e2, fun l bs hl hk => q _ _ (new_lst hF hl ?_)⟩
      exact tD_rp e1 (by have := tD_len e1; omega) hk
theorem bls_of : ∀ {ds : List D} {bs : List Bool} {vs : List V} {W : AS}, blsOf ds = some bs → RpL g F H ds vs W → vs = bs.map V.bl
  | [], bs, vs, W, h, r => by
    simp only [blsOf, Option.some.injEq] at h
    simp only [RpL] at r
    subst h r; rfl
  | d :: ds, bs, vs, W, h, r => by
    simp only [RpL] at r
    obtain ⟨v, rr, T1, T2, rfl, h1, h2, _⟩ := r
    cases d <;> simp only [blsOf, reduceCtorEq] at h
    split at h
    · rename_i b' hb
      cases h
      rw [bls_of hb h2, rp_bl h1]; rfl
    · cases h
theorem ints_of : ∀ {ds : List D} {bs : List Int} {vs : List V} {W : AS}, intsOf ds = some bs → RpL g F H ds vs W → vs = bs.map V.int
  | [], bs, vs, W, h, r => by
    simp only [intsOf, Option.some.injEq] at h
    simp only [RpL] at r
    subst h r; rfl
  | d :: ds, bs, vs, W, h, r => by
    simp only [RpL] at r
    obtain ⟨v, rr, T1, T2, rfl, h1, h2, _⟩ := r
    cases d <;> simp only [intsOf, reduceCtorEq] at h
    split at h
    · rename_i b' hb
      cases h
      rw [ints_of hb h2, rp_int h1]; rfl
    · cases h
theorem cr_allL (K : X.K = g.K) (hc : X.calm = true) : CallR X (.builtin "all") (rC g (blt .all)) := by
  rintro pins s σ H xs us Q I r ⟨F, ds, d, rd, hb, hF, q⟩
  have : ∃ o es bs, ds = [.lst o es] ∧ blsOf es = some bs ∧ d = .bl (bs.all id) := by
    match ds, hb with
    | [.lst o es], h =>
      simp only [blt, Option.map_eq_some_iff] at h
      obtain ⟨bs, h1, h2⟩ := h
      exact ⟨o, es, bs, rfl, h1, h2.symm⟩
  obtain ⟨o, es, bs, rfl, hbs, rfl⟩ := this
  obtain ⟨v, U, rfl, r1⟩ := rdl1 rd
  obtain ⟨a, vs, W, rfl, ha, rr⟩ := rp_lst r1
  have ev := bls_of hbs rr
  subst ev
  exact L2.cr_all hc pins s σ H _ us Q I r ⟨a, bs, rfl, SqL.of ha, q _ _ (new_old (mk_bl _ _))⟩
theorem cr_anyL (K : X.K = g.K) (hc : X.calm = true) : CallR X (.builtin "any") (rC g (blt .any)) := by
  rintro pins s σ H xs us Q I r ⟨F, ds, d, rd, hb, hF, q⟩
  have : ∃ o es bs, ds = [.lst o es] ∧ blsOf es = some bs ∧ d = .bl (bs.any id) := by
    match ds, hb with
    | [.lst o es], h =>
      simp only [blt, Option.map_eq_some_iff] at h
      obtain ⟨bs, h1, h2⟩ := h
      exact ⟨o, es, bs, rfl, h1, h2.symm⟩
  obtain ⟨o, es, bs, rfl, hbs, rfl⟩ := this
  obtain ⟨v, U, rfl, r1⟩ := rdl1 rd
  obtain ⟨a, vs, W, rfl, ha, rr⟩ := rp_lst r1
  have ev := bls_of hbs rr
  subst ev
  exact L2.cr_any hc pins s σ H _ us Q I r ⟨a, bs, rfl, SqL.of ha, q _ _ (new_old (mk_bl _ _))⟩
theorem cr_sumL (K : X.K = g.K) (hc : X.calm = true) : CallR X (.builtin "sum") (rC g (blt .sum)) := by
  rintro pins s σ H xs us Q I r ⟨F, ds, d, rd, hb, hF, q⟩
  have : ∃ o es bs, ds = [.lst o es] ∧ intsOf es = some bs ∧ d = .int bs.sum := by
    match ds, hb with
    | [.lst o es], h =>
      simp only [blt, Option.map_eq_some_iff] at h
      obtain ⟨bs, h1, h2⟩ := h
      exact ⟨o, es, bs, rfl, h1, h2.symm⟩
  obtain ⟨o, es, bs, rfl, hbs, rfl⟩ := this
  obtain ⟨v, U, rfl, r1⟩ := rdl1 rd
  obtain ⟨a, vs, W, rfl, ha, rr⟩ := rp_lst r1
  have ev := ints_of hbs rr
  subst ev
  exact L2.cr_sum hc pins s σ H _ us Q I r ⟨a, bs, rfl, SqL.of ha, q _ _ (new_old (mk_int _ _))⟩
/-! ### isinstance -/
def tyS : Ty → String
  | .int => "int" | .bool => "bool" | .str => "str" | .tuple => "tuple" | .list => "list" | .dict => "dict"
def dTy : D → String
  | .non => "NoneType" | .bl _ => "bool" | .int _ => "int" | .str _ => "str" | .tup _ => "tuple" | .lst _ _ => "list" | .dct _ _ => "dict" | .ins _ _ _ => "" | .scr _ => ""
theorem kit_isa (d : D) (t : Ty) (h : okIsa d = true) : kitB (dTy d) (tyS t) = some (isa d t) := by
  cases d <;> simp only [okIsa, Bool.false_eq_true] at h <;> cases t <;> simp only [dTy, tyS, isa] <;> decide +kernel
theorem tyx_of {d : D} {v : V} {U : AS} (h : okIsa d = true) (r : Rp g F H d v U) : TyX g.K H v (.type (dTy d)) := by
  cases d <;> simp only [okIsa, Bool.false_eq_true] at h
  · obtain rfl := rp_non r; exact .base .non
  · obtain rfl := rp_bl r; exact .base (.bl _)
  · obtain rfl := rp_int r; exact .base (.int _)
  · obtain rfl := rp_str r; exact .base (.str _)
  · obtain ⟨a, vs, rfl, ha, _⟩ := rp_tup r; exact .base (.tup ha)
  · obtain ⟨a, vs, W, rfl, ha, _⟩ := rp_lst r; exact .base (.lst ha)
  · simp only [Rp] at r
    rename_i o ks
    obtain ⟨a, vs, W, rfl, _, _, c, t⟩ := r
    have hn : NFz H a := by
      cases o
      · simp only [okIsa, Bool.false_eq_true] at h
      · exact t.2
    rcases c with ⟨_, _, _, e⟩ | ⟨_, _, _, e⟩
    · exact .base (.dK (e.resolve_right fun ⟨ob, z⟩ => hn _ _ z))
    · exact .base (.dT (e.resolve_right fun ⟨ob, z⟩ => hn _ _ z))
theorem pe_isaL (inj : ∀ i j, g.an i = g.an j → i = j) (K : X.K = g.K) {t : Ty} {x : PySem.Str} {p pos : Pos} {e1 e2 : Expr} {e : E} (hg : Gl X x) (hm : X.mg x = none) (hv : bootBuiltins x = some (.builtin "isinstance")) (h1 : PE X e1 (tE g call e)) (h2 : PE X e2 (L2.tC (V.ty (tyS t)))) (hn : x ≠ "__name__") (hdb : (x == ("__debug__" : PySem.Str)) = false)
    (hs1 : starEach [e1, e2] X.env = (false, eval e1 X.env) :: starEach [e2] X.env) (hs2 : starEach [e2] X.env = (false, eval e2 X.env) :: starEach [] X.env) (hpl : (backTo pos (starEach [e2] X.env)).any (·.1) = false) : PE X (.Call (.Name x p) [e1, e2] [] pos) (tE g call (.blt (.isa t) (.cons e .nil))) :=
  (pe_callB call_isi hg hm hv (pa_cons h1 (pa_cons h2 pa_nil hs2) hs1) hn hdb hs1 hpl).imp fun σ H Q ⟨F, ρ, fp, s, o, ho, k⟩ => by
    simp only [LP.ev, LP.evV] at ho
    split at ho
    · rename_i ds ρ' h3
      split at ho
      · rename_i d hd
        cases ho
        split at h3
        · rename_i o1 h1
          simp only [Option.some.injEq, Prod.mk.injEq] at h3
          obtain ⟨rfl, rfl⟩ := h3
          simp only [blt] at hd
          split at hd
          · rename_i hi
            cases hd
            refine ⟨F, ρ, fp, s, o1, h1, fun v F1 H1 fp1 T1 p1 k1 => ?_⟩
            obtain ⟨U, r1⟩ := k1.rp inj p1.st
            refine ⟨v, .ty (tyS t), .type (dTy o1.d), .type (tyS t), isa o1.d t, rfl, .ty _, K ▸ tyx_of hi r1, kit_ty (kit_isa _ _ hi), ?_⟩
            refine k _ F1 H1 fp1 e0 ?_ (ko_val (mk_bl _ _))
            have pl : Ps g σ F1 H1 (LP.lock o1.k o1.ρ) fp1 F1 H1 (LP.lock o1.k o1.ρ) fp1 e0 := Ps.refl (p1.st.lock _)
            exact (p1.trans pl.unlock)
          · cases hd
        · cases h3
      · cases ho
    · cases ho
/-! ### range -/
theorem persL_map {α : Type} {f : α → Int} : ∀ l : List α, LP.persL (l.map fun x => .int (f x)) = true
  | [] => rfl
  | a :: l => by simp [LP.persL, LP.pers, persL_map l]
theorem it_rng {a b : Int} {A : AS} : ItOk g (Itr a (b - a).toNat) (rangeD a b) A F H := fun F' H' k hF => by
  have hl : (rangeD a b).length = (b - a).toNat := by simp [rangeD]
  refine ⟨by rw [hl]; exact Nat.le_refl _, fun i d hi => ?_⟩
  have hlt : i < (b - a).toNat := by rw [← hl]; exact (List.getElem?_eq_some_iff.mp hi).1
  have ed : d = .int (a + (i : Nat)) := by
    unfold rangeD at hi
    rw [List.getElem?_map, List.getElem?_range hlt] at hi
    simpa using hi.symm
  subst ed
  refine ⟨hlt, fun x H2 ⟨e1, e2⟩ => ?_⟩
  subst e1 e2
  exact new_old (mk_int _ _)
theorem walk_rng {ρ : LP.Env} {a b : Int} : LP.walk (some ⟨.lst true (rangeD a b), .val, ρ⟩) = some (rangeD a b, .val, ρ) := by
  have h : LP.persL (rangeD a b) = true := persL_map _
  simp only [LP.walk, h, if_true]
theorem rOk_iff {i : Int} (h : rOk i = true) : -(2 ^ 62) ≤ i ∧ i < 2 ^ 62 := by
  simp only [rOk, decide_eq_true_eq] at h
  have e : (2 : Int) ^ 62 = 4611686018427387904 := by decide
  rw [e]
  exact h
def esLen : Es → Nat
  | .nil => 0
  | .cons _ es => esLen es + 1
theorem evV_len : ∀ {es : Es} {ρ ρ' : LP.Env} {ds : List D}, LP.evV call es ρ = some (ds, ρ') → ds.length = esLen es
  | .nil, ρ, ρ', ds, h => by
    simp only [LP.evV, Option.some.injEq, Prod.mk.injEq] at h
    rw [← h.1]; rfl
  | .cons e es, ρ, ρ', ds, h => by
    simp only [LP.evV] at h
    split at h
    · split at h
      · rename_i h2
        simp only [Option.some.injEq, Prod.mk.injEq] at h
        rw [← h.1]
        simp [esLen, evV_len h2]
      · cases h
    · cases h
theorem rng1_inv {x d : D} (h : blt .range [x] = some d) : ∃ n, x = .int n ∧ rOk n = true ∧ d = .lst true (rangeD 0 n) := by
  cases x <;> simp only [blt, reduceCtorEq] at h
  split at h
  · rename_i hr; cases h; exact ⟨_, rfl, hr, rfl⟩
  · cases h
theorem rng2_inv {x y d : D} (h : blt .range [x, y] = some d) : ∃ m n, x = .int m ∧ y = .int n ∧ rOk m = true ∧ rOk n = true ∧ d = .lst true (rangeD m n) := by
  cases x <;> cases y <;> simp only [blt, reduceCtorEq] at h
  split at h
  · rename_i hr
    simp only [Bool.and_eq_true] at hr
    cases h; exact ⟨_, _, rfl, rfl, hr.1, hr.2, rfl⟩
  · cases h
theorem pi_rng1L {tg a : Expr} {ea : E} {p pos : Pos} (hg : Gl X "range") (hm : X.mg "range" = none) (ha : PA X [a] (tV g call (.cons ea .nil))) (hs : starEach [a] X.env = [(false, eval a X.env)]) : PI X tg (.Call (.Name "range" p) [a] [] pos) (tI g call (.blt .range (.cons ea .nil))) :=
  (pi_range1 hg hm ha hs).imp fun σ H R ⟨F, ρ, fp, s, ds, k, ρ1, hw, q⟩ => by
    simp only [LP.ev] at hw
    cases h1 : LP.evV call (.cons ea .nil) ρ with
    | none => simp [h1, LP.walk] at hw
    | some o =>
      obtain ⟨vs, ρ2⟩ := o
      simp only [h1] at hw
      have hl := evV_len h1
      refine ⟨F, ρ, fp, s, vs, ρ2, h1, fun xs F1 H1 fp1 p1 r1 => ?_⟩
      obtain ⟨x, rfl⟩ : ∃ x, vs = [x] := by
        cases vs with
        | nil => simp [esLen] at hl
        | cons x r => cases r with
          | nil => exact ⟨x, rfl⟩
          | cons _ _ => simp [esLen] at hl
      cases hb : blt .range [x] with
      | none => simp [hb, LP.walk] at hw
      | some d =>
        obtain ⟨n, rfl, hr, rfl⟩ := rng1_inv hb
        rw [hb] at hw
        simp only [walk_rng] at hw
        cases hw
        obtain ⟨v, U, rfl, r⟩ := rdl1 r1
        obtain rfl := rp_int r
        obtain ⟨b1, b2⟩ := rOk_iff hr
        refine ⟨n, rfl, b1, b2, ?_⟩
        have := q (Itr 0 (n - 0).toNat) F1 H1 fp1 p1 it_rng
        simpa using this
theorem pi_rng2L {tg a b : Expr} {ea eb : E} {p pos : Pos} (hg : Gl X "range") (hm : X.mg "range" = none) (ha : PA X [a, b] (tV g call (.cons ea (.cons eb .nil)))) (hs : starEach [a, b] X.env = [(false, eval a X.env), (false, eval b X.env)]) (hs2 : starEach [b] X.env = [(false, eval b X.env)]) : PI X tg (.Call (.Name "range" p) [a, b] [] pos) (tI g call (.blt .range (.cons ea (.cons eb .nil)))) :=
  (pi_range2 hg hm ha hs hs2).imp fun σ H R ⟨F, ρ, fp, s, ds, k, ρ1, hw, q⟩ => by
    simp only [LP.ev] at hw
    cases h1 : LP.evV call (.cons ea (.cons eb .nil)) ρ with
    | none => simp [h1, LP.walk] at hw
    | some o =>
      obtain ⟨vs, ρ2⟩ := o
      simp only [h1] at hw
      have hl := evV_len h1
      refine ⟨F, ρ, fp, s, vs, ρ2, h1, fun xs F1 H1 fp1 p1 r1 => ?_⟩
      obtain ⟨x, y, rfl⟩ : ∃ x y, vs = [x, y] := by
        cases vs with
        | nil => simp [esLen] at hl
        | cons x r => cases r with
          | nil => simp [esLen] at hl
          | cons y r => cases r with
            | nil => exact ⟨x, y, rfl⟩
            | cons _ _ => simp [esLen] at hl
      cases hb : blt .range [x, y] with
      | none => simp [hb, LP.walk] at hw
      | some d =>
        obtain ⟨m, n, rfl, rfl, hr, hr', rfl⟩ := rng2_inv hb
        rw [hb] at hw
        simp only [walk_rng] at hw
        cases hw
        obtain ⟨v, w, U, W, rfl, r, r'⟩ := rdl2 r1
        obtain rfl := rp_int r
        obtain rfl := rp_int r'
        obtain ⟨b1, b2⟩ := rOk_iff hr
        obtain ⟨b3, b4⟩ := rOk_iff hr'
        exact ⟨m, n, rfl, ⟨b1, b2, b3, b4⟩, q _ F1 H1 fp1 p1 it_rng⟩
end
end LPS

set_option autoImplicit false
set_option linter.all false
set_option maxRecDepth 100000
/-! calls of the program's own functions -/
namespace LPS
open PySem PySem.Spec PyProof.Rows L2 LP
/-- what a callee leaves -/
structure Back (g : Gk) (F : AS) (H : Hp) (ds : List D) (vs : List V) (TA : AS) (F' : AS) (H' : Hp) (ss : List Sl) (d : D) (v : V) (fpE : Nat → AS) (T : AS) : Prop where
  kp : Kp TA F F' H H'
  val : Rp g F' H' d v T
  tg : Gd T F' H'
  sl : ∀ i d0 e u, ds[i]? = some d0 → LP.pers d0 = false → ss[i]? = some (Sl.ow e) → vs[i]? = some u → Rp g F' H' e u (fpE i)
  gd : ∀ i, Gd (fpE i) F' H'
  dis : ∀ i j b, fpE i b → fpE j b → i = j
  td : ∀ i b, fpE i b → ¬ T b
  fr : ∀ b, (∃ i, fpE i b) ∨ T b → TA b ∨ H b = none
  fz : ∀ b, F' b → H' b ≠ none
/-- a function's promise: its run -/
def spF (g : Gk) (fs : List Fn) (n i np : Nat) : Sp := fun vs H Q _ => ∃ F ds d ss TA, LP.callN fs n i ds = some (d, ss) ∧ ds.length = np ∧ RpL g F H ds vs TA ∧ Gd TA F H ∧ (∀ b, F b → H b ≠ none) ∧
  ∀ v F' H' fpE T, Back g F H ds vs TA F' H' ss d v fpE T → Q v H'
section
variable {g : Gk} {call : LP.Cll} {σ σ1 σ2 : L2.St} {F F1 F2 : AS} {H H1 H2 : Hp} {ρ ρ1 ρ2 : LP.Env} {fp fp1 fp2 : Nat → AS} {T T1 T2 R : AS} {X : Cx}
theorem RpL.split : ∀ {ds : List D} {vs : List V} {TA : AS}, RpL g F H ds vs TA → ∃ fpA : Nat → AS, (∀ i d v, ds[i]? = some d → vs[i]? = some v → Rp g F H d v (fpA i)) ∧ (∀ i j b, fpA i b → fpA j b → i = j) ∧ (∀ i b, fpA i b → i < ds.length ∧ TA b)
  | [], vs, TA, h => ⟨fun _ => e0, fun i d v h => by simp at h, fun _ _ _ z => z.elim, fun _ _ z => z.elim⟩
  | d :: ds, vs, TA, h => by
    simp only [RpL] at h
    obtain ⟨v, r, U1, U2, rfl, h1, h2, h3, h4⟩ := h
    obtain ⟨f, f1, f2, f3⟩ := RpL.split h2
    refine ⟨fun i => match i with | 0 => U1 | i + 1 => f i, fun i d' v' e1 e2 => ?_, fun i j b e1 e2 => ?_, fun i b e => ?_⟩
    · cases i with
      | zero => simp at e1 e2; subst e1 e2; exact h1
      | succ i => exact f1 i d' v' (by simpa using e1) (by simpa using e2)
    · cases i with
      | zero => cases j with
        | zero => rfl
        | succ j => exact absurd (f3 j b e2).2 (h3 b e1).2
      | succ i => cases j with
        | zero => exact absurd (f3 i b e1).2 (h3 b e2).2
        | succ j => rw [f2 i j b e1 e2]
    · cases i with
      | zero => exact ⟨by simp, (h3 b e).1⟩
      | succ i => exact ⟨by simp only [List.length_cons]; exact Nat.succ_lt_succ (f3 i b e).1, h4 b (f3 i b e).2⟩
/-! ### the callee -/
def Wr (fn : Fn) (j : Nat) : Prop := fn.np ≤ j ∨ fn.ass[j]? = some true
theorem assOk_at : ∀ {bs : List Bool} {ds : List D} {i : Nat} {d : D}, assOk bs ds = true → ds[i]? = some d → LP.pers d = false → bs[i]? = some false
  | [], [], i, d, _, h, _ => by simp at h
  | [], _ :: _, _, _, h, _, _ => by simp [assOk] at h
  | _ :: _, [], _, _, h, _, _ => by simp [assOk] at h
  | b :: bs, d0 :: ds, i, d, h, e, np => by
    simp only [assOk, Bool.and_eq_true, Bool.or_eq_true, Bool.not_eq_true'] at h
    cases i with
    | zero =>
      simp only [List.getElem?_cons_zero, Option.some.injEq] at e
      subst e
      rcases h.1 with h | h
      · simp [h]
      · rw [h] at np; cases np
    | succ i => simpa using assOk_at h.2 (by simpa using e) np
theorem callee {fs : List Fn} {n i : Nat} {fn : Fn} {N : List PySem.Str} {P : Program} {w : World} {K : PySem.W.Frag} {mg : PySem.Str → Option Value} {base : Heap} {x qual : PySem.Str} {st : Stmt} {f : Addr} {fd : FuncData} {ps : List PySem.Str} {k : Nat} (hf : fs[i]? = some fn) (hN : N.length = fn.np + fn.ns) (hp : ps.length = fn.np)
    (Fu : Fun K x qual st f fd) (S : FnScope N ps (defScope st))
    (hbody : ∀ (cdv : Value) (A : Around) (outer : List PySem.Env) (s : Shared) (H : Hp) (E : XK), Room k (A.deeper (envOfC qual (defScope st) s.heap.objs.size f cdv)) → PSs (cxOf CX0 P w K mg base N qual (defScope st) f cdv A outer s H E).nox (defBody st) (tSs g (LP.callN fs n) (Wr fn) fn.body)) :
    FnOk P w K mg base CX0 (k + 1) f fd ps (spF g fs (n + 1) i fn.np) := by
  refine Fu.ok S (fun vs H Q E h => ?_) fun cdv A outer s H vs Q E hr h => ⟨_, hbody cdv A outer s H E hr, ?_⟩
  · obtain ⟨F, ds, d, ss, TA, _, hl, r, _⟩ := h
    rw [← r.length, hl, hp]
  · obtain ⟨F, ds, d, ss, TA, hc, hl, r, gT, fz, q⟩ := h
    obtain ⟨fpA, f1, f2, f3⟩ := r.split
    have lv := r.length
    simp only [LP.callN, hf] at hc
    split at hc
    · rename_i hass
      have st0 : St1 g F H (ds.map .ow ++ List.replicate fn.ns .no) (L2.start N vs) fpA := by
        refine ⟨by simp [L2.start]; omega, fun j d' h => ?_, f2, fun j b hb => gT b (f3 j b hb).2, fun j b hb => ?_, fz⟩
        · have hj : j < ds.length := by
            by_cases hj : j < ds.length
            · exact hj
            · unfold slotD at h
              rw [List.getElem?_append_right (by simp; omega), List.getElem?_replicate] at h
              split at h <;> simp_all
          have e1 : (ds.map Sl.ow ++ List.replicate fn.ns .no)[j]? = some (.ow ds[j]) := by
            rw [List.getElem?_append_left (by simpa using hj)]
            simp [hj]
          rw [slotD_ow e1] at h
          have e2 : ds[j]? = some d' := by rw [List.getElem?_eq_getElem hj]; exact h
          refine ⟨vs[j]'(by omega), ?_, f1 j d' _ e2 (List.getElem?_eq_getElem (by omega))⟩
          unfold L2.start
          rw [List.getElem?_append_left (by simp; omega)]
          simp [show j < vs.length by omega]
        · have hj := (f3 j b hb).1
          refine ⟨ds[j], slotD_ow ?_⟩
          rw [List.getElem?_append_left (by simpa using hj)]
          simp [hj]
      have nro : ∀ (j : Nat) (e : D), (ds.map Sl.ow ++ List.replicate fn.ns .no)[j]? ≠ some (Sl.ro e) := fun j e z => by
        have := List.mem_of_getElem? z
        simp at this
      have fin : ∀ (v : V) (σ' : L2.St) (F' : AS) (H' : Hp) (ρ' : LP.Env) (fp' : Nat → AS) (T : AS) (d' : D), Agr (Wr fn) (L2.start N vs) σ' → Ps g σ' F H (ds.map .ow ++ List.replicate fn.ns .no) fpA F' H' ρ' fp' T → Rp g F' H' d' v T → d' = d → ρ'.take fn.np = ss → Q v H' := fun v σ' F' H' ρ' fp' T d' ag p rv e1 e2 => by
        subst e1 e2
        have ow1 : ∀ j b, fp' j b → Ow ρ' fp' b := fun j b hb => by
          obtain ⟨e, he⟩ := p.st.lv j b hb
          unfold slotD at he
          split at he
          · rename_i d0 e0; exact ⟨j, d0, e0, hb⟩
          · rename_i d0 e0; exact absurd ((p.ro j d0).mpr e0) (nro j d0)
          · cases he
        have owA : ∀ b, Ow (ds.map .ow ++ List.replicate fn.ns .no) fpA b → TA b := fun b ⟨j, e, _, hb⟩ => (f3 j b hb).2
        refine q v F' H' (fun j b => j < fn.np ∧ fp' j b) T ⟨⟨fun b o e n => p.kp.keep b o e fun z => n (owA b z), p.kp.mono, fun b hb => (p.kp.new b hb).imp_right fun z => z.imp_left (owA b), p.kp.ex⟩, rv, p.tg, fun j d0 e u e1 np e2 e3 => ?_, fun j b hb => p.st.gd j b hb.2, fun a j b h1 h2 => p.st.dis a j b h1.2 h2.2, fun j b hb => p.td j b hb.2, fun b hb => ?_, p.st.fz⟩
        · have hj : j < fn.np := by rw [← hl]; exact (List.getElem?_eq_some_iff.mp e1).1
          rw [List.getElem?_take_of_lt hj] at e2
          obtain ⟨u', hu, ru⟩ := p.st.rp j e (slotD_ow e2)
          have nW : ¬ Wr fn j := fun z => by
            rcases z with z | z
            · omega
            · rw [assOk_at hass e1 np] at z; cases z
          have e4 := ag j nW
          rw [hu] at e4
          unfold L2.start at e4
          have hjv : j < vs.length := (List.getElem?_eq_some_iff.mp e3).1
          rw [List.getElem?_append_left (by simpa using hjv), List.getElem?_map, e3] at e4
          simp only [Option.map_some, Option.some.injEq] at e4
          subst e4
          exact ru.mono fun b hb => ⟨hj, hb⟩
        · refine (p.fr b ?_).imp_left (owA b)
          rcases hb with ⟨j, _, hb⟩ | hb
          · exact .inl (ow1 j b hb)
          · exact .inr hb
      split at hc
      · rename_i d' ρ' he
        simp only [Option.some.injEq, Prod.mk.injEq] at hc
        refine ⟨F, _, fpA, st0, .rt d', ρ', he, fun v σ' F' H' fp' T ag p rv => fin v σ' F' H' ρ' fp' T d' ag p rv hc.1 hc.2⟩
      · rename_i ρ' he
        simp only [Option.some.injEq, Prod.mk.injEq] at hc
        refine ⟨F, _, fpA, st0, .nx, ρ', he, fun σ' F' H' fp' ag p => fin .non σ' F' H' ρ' fp' e0 .non ag p (mk_non _) hc.1 hc.2⟩
      · cases hc
    · cases hc
/-! ### the call -/
def ArR (g : Gk) (σ : L2.St) (F : AS) (H : Hp) : List Ar → List V → AS → Prop
  | [], vs, _ => vs = []
  | .val d :: as, vs, T => ∃ v r T1 T2, vs = v :: r ∧ Rp g F H d v T1 ∧ ArR g σ F H as r T2 ∧ (∀ b, T1 b → T b ∧ ¬ T2 b) ∧ ∀ b, T2 b → T b
  | .pl i _ :: as, vs, T => ∃ v r, vs = v :: r ∧ σ[i]? = some (some v) ∧ ArR g σ F H as r T
def tAr (g : Gk) (call : LP.Cll) (as : As) : TA := fun σ H Q => ∃ F ρ fp, St1 g F H ρ σ fp ∧ ∃ ars ρ', LP.evAr call as ρ = some (ars, ρ') ∧
  ∀ vs F' H' fp' T, Ps g σ F H ρ fp F' H' ρ' fp' T → ArR g σ F' H' ars vs T → Q vs H'
theorem pa_nilA : PA X [] (tAr g call .nil) := pa_nil.imp fun σ H Q ⟨F, ρ, fp, s, ars, ρ', h, k⟩ => by
  simp only [LP.evAr, Option.some.injEq, Prod.mk.injEq] at h
  obtain ⟨rfl, rfl⟩ := h
  exact k [] F H fp e0 (Ps.refl s) rfl
theorem pa_refA {i : Nat} {a : Expr} {as : List Expr} {es : As} (ha : PE X a (tVar i)) (hs : PA X as (tAr g call es)) (hst : starEach (a :: as) X.env = (false, eval a X.env) :: starEach as X.env) : PA X (a :: as) (tAr g call (.ref i es)) :=
  (pa_cons ha hs hst).imp fun σ H Q ⟨F, ρ, fp, s, ars, ρ', h, k⟩ => by
    simp only [LP.evAr] at h
    split at h
    · rename_i d hd
      split at h
      · rename_i as' ρ2 h2
        simp only [Option.some.injEq, Prod.mk.injEq] at h
        obtain ⟨rfl, rfl⟩ := h
        obtain ⟨v, hv, _⟩ := s.rp i d hd
        exact ⟨v, hv, F, ρ, fp, s, as', ρ2, h2, fun vs F' H' fp' T p r => k (v :: vs) F' H' fp' T p (by simp only [ArR]; exact ⟨v, vs, rfl, hv, r⟩)⟩
      · cases h
    · cases h
theorem ArR.keep {A F' : AS} {H' : Hp} (k : Kp A F F' H H') (gd : Gd A F H) : ∀ (ars : List Ar) (vs : List V) (T : AS), (∀ b, T b → ¬ A b) → ArR g σ F H ars vs T → ArR g σ F' H' ars vs T
  | [], vs, T, _, h => h
  | .val d :: as, vs, T, dj, h => by
    simp only [ArR] at h ⊢
    obtain ⟨v, r, T1, T2, e, h1, h2, h3, h4⟩ := h
    exact ⟨v, r, T1, T2, e, Rp.keep k gd d v T1 (fun b hb => dj b (h3 b hb).1) h1, ArR.keep k gd as r T2 (fun b hb => dj b (h4 b hb)) h2, h3, h4⟩
  | .pl i p :: as, vs, T, dj, h => by
    simp only [ArR] at h ⊢
    obtain ⟨v, r, e, h1, h2⟩ := h
    exact ⟨v, r, e, h1, ArR.keep k gd as r T dj h2⟩
theorem pa_consA (inj : ∀ i j, g.an i = g.an j → i = j) {a : Expr} {as : List Expr} {e : E} {es : As} (ha : PE X a (tE g call e)) (hs : PA X as (tAr g call es)) (hst : starEach (a :: as) X.env = (false, eval a X.env) :: starEach as X.env) : PA X (a :: as) (tAr g call (.cons e es)) :=
  (pa_cons ha hs hst).imp fun σ H Q ⟨F, ρ, fp, s, ars, ρ', h, k⟩ => by
    simp only [LP.evAr] at h
    split at h
    · rename_i o ho
      split at h
      · rename_i d ρ1 hw
        split at h
        · rename_i as' ρ2 hr
          simp only [Option.some.injEq, Prod.mk.injEq] at h
          obtain ⟨rfl, rfl⟩ := h
          refine ⟨F, ρ, fp, s, o, ho, fun v F1 H1 fp1 T1 p1 r1 => ?_⟩
          obtain ⟨F2, fp2, T2, p2, r2⟩ := own_ok inj p1 r1 hw
          refine ⟨F2, ρ1, fp2, p2.st, as', ρ2, hr, fun vs F3 H3 fp3 T3 p3 r3 => ?_⟩
          obtain ⟨r2', p4, dj⟩ := p2.hold p3 r2
          exact k (v :: vs) F3 H3 fp3 _ p4 (by simp only [ArR]; exact ⟨v, vs, T2, T3, rfl, r2', r3, fun b hb => ⟨.inl hb, dj b hb⟩, fun b hb => .inr hb⟩)
        · cases h
      · cases h
    · cases h
/-- the slots handed over, empty -/
def outs : List Ar → List D → LP.Env → LP.Env
  | .val _ :: as, _ :: ds, ρ => outs as ds ρ
  | .pl i _ :: as, d :: ds, ρ => if LP.pers d then outs as ds ρ else outs as ds (ρ.set i .no)
  | _, _, ρ => ρ
theorem outs_set {ρ0 : LP.Env} {i : Nat} {x : Sl} : ∀ {ars : List Ar} {ds : List D} {is : List Nat} {ρ : LP.Env}, arOk ρ0 ars ds is = true → i ∈ is → outs ars ds (ρ.set i x) = (outs ars ds ρ).set i x
  | [], ds, is, ρ, _, _ => by cases ds <;> simp [outs]
  | .val _ :: as, [], is, ρ, h, _ => by simp [arOk] at h
  | .val _ :: as, _ :: ds, is, ρ, h, hi => by
    simp only [arOk] at h
    simp only [outs]
    exact outs_set h hi
  | .pl j p :: as, [], is, ρ, h, _ => by simp [arOk] at h
  | .pl j p :: as, d :: ds, is, ρ, h, hi => by
    simp only [arOk, Bool.and_eq_true, Bool.or_eq_true] at h
    simp only [outs]
    by_cases hp : LP.pers d = true
    · rw [if_pos hp, if_pos hp]
      rw [if_pos hp] at h
      exact outs_set h.2 hi
    · rw [if_neg hp, if_neg hp]
      rw [if_neg hp] at h
      have h1 := (h.1.resolve_left hp).1
      have hne : i ≠ j := fun e => by subst e; simp at h1; exact h1 hi
      rw [List.set_comm _ _ hne]
      exact outs_set h.2 (List.mem_cons_of_mem _ hi)
/-- the arguments' values, taken out of their slots -/
theorem out_rd {F0 : AS} {H0 : Hp} {ρ0 : LP.Env} {fp0 : Nat → AS} {ρI : LP.Env} : ∀ (ars : List Ar) (ds : List D) (vs : List V) (is : List Nat) (ρ : LP.Env) (fp : Nat → AS) (T R : AS), Ps g σ F0 H0 ρ0 fp0 F H ρ fp (fun b => T b ∨ R b) → (∀ b, T b → ¬ R b) → ArR g σ F H ars vs T →
    arsD ρI ars = some ds → arOk ρI ars ds is = true → (∀ i p, Ar.pl i p ∈ ars → p = []) → (∀ j, j ∉ is → ρ[j]? = ρI[j]?) → (∀ i d v, slotD ρI i = some d → LP.pers d = true → σ[i]? = some (some v) → Rp g F H d v e0) →
    ∃ fp' TA, Ps g σ F0 H0 ρ0 fp0 F H (outs ars ds ρ) fp' (fun b => TA b ∨ R b) ∧ RpL g F H ds vs TA ∧ ∀ b, TA b → ¬ R b
  | [], ds, vs, is, ρ, fp, T, R, p, dj, r, hd, ho, hp, hI, hP => by
    simp only [arsD, Option.some.injEq] at hd
    subst hd
    simp only [ArR] at r
    subst r
    exact ⟨fp, e0, by simpa [outs] using p.weak fun b z => z.elim (fun z => z.elim) .inr, RpL.nil, fun _ z => z.elim⟩
  | .val d :: as, ds, vs, is, ρ, fp, T, R, p, dj, r, hd, ho, hp, hI, hP => by
    simp only [arsD, arD] at hd
    split at hd
    · rename_i d' ds' e1 e2
      cases e1
      cases hd
      simp only [ArR] at r
      obtain ⟨v, r, T1, T2, rfl, h1, h2, h3, h4⟩ := r
      simp only [arOk] at ho
      obtain ⟨fp', TA, p', r', dj'⟩ := out_rd as ds' r is ρ fp T2 (fun b => T1 b ∨ R b) (p.weak fun b z => z.elim (fun z => .inl (h4 b z)) fun z => z.elim (fun z => .inl (h3 b z).1) .inr) (fun b hb z => z.elim (fun z => (h3 b z).2 hb) (dj b (h4 b hb))) h2 e2 ho (fun i p hm => hp i p (List.mem_cons_of_mem _ hm)) hI hP
      refine ⟨fp', fun b => T1 b ∨ TA b, by simpa only [outs] using p'.weak fun b z => z.elim (fun z => z.elim (fun z => .inr (.inl z)) .inl) fun z => .inr (.inr z), RpL.cons h1 r' fun b hb z => dj' b z (.inl hb), fun b hb z => hb.elim (fun y => dj b (h3 b y).1 z) fun y => dj' b y (.inr z)⟩
    · cases hd
  | .pl i q :: as, ds, vs, is, ρ, fp, T, R, p, dj, r, hd, ho, hp, hI, hP => by
    obtain rfl := hp i q (List.mem_cons_self ..)
    simp only [arsD, arD, getP] at hd
    split at hd
    · rename_i d ds' e1 e2
      cases hd
      have e1 : slotD ρI i = some d := by
        cases h : slotD ρI i with
        | none => rw [h] at e1; cases e1
        | some d0 => rw [h] at e1; exact e1
      simp only [ArR] at r
      obtain ⟨v, r, rfl, hv, h2⟩ := r
      simp only [arOk, Bool.and_eq_true, Bool.or_eq_true] at ho
      by_cases hpers : LP.pers d = true
      · rw [if_pos hpers] at ho
        obtain ⟨fp', TA, p', r', dj'⟩ := out_rd as ds' r is ρ fp T R p dj h2 e2 ho.2 (fun i p hm => hp i p (List.mem_cons_of_mem _ hm)) hI hP
        refine ⟨fp', TA, by simpa only [outs, if_pos hpers] using p', ?_, dj'⟩
        exact (RpL.cons (hP i d v e1 hpers hv) r' fun _ z => z.elim).mono fun b hb => hb.elim (fun z => z.elim) id
      · rw [if_neg hpers] at ho
        have h1 := ho.1.resolve_left hpers
        have hni : i ∉ is := by simpa using h1.1
        have e3 : ρI[i]? = some (.ow d) := by
          have h5 := h1.2
          unfold slotD at e1
          split at h5
          · rename_i x hx; rw [hx] at e1; cases e1; exact hx
          · cases h5
        have e4 : ρ[i]? = some (.ow d) := by rw [hI i hni]; exact e3
        obtain ⟨v', hv', rv⟩ := p.st.rp i d (slotD_ow e4)
        rw [hv] at hv'; cases hv'
        have hr0 : Rp g F H .non .non (fun b => T b ∨ R b) := mk_non _
        obtain ⟨_, p2, dj2⟩ := p.hold (Ps.out p.st e4) hr0
        have h2' : ArR g σ F H as r T := h2
        obtain ⟨fp', TA, p', r', dj'⟩ := out_rd as ds' r (i :: is) (ρ.set i .no) _ T (fun b => fp i b ∨ R b) (p2.weak fun b z => z.elim (fun z => .inl (.inl z)) fun z => z.elim .inr fun z => .inl (.inr z)) (fun b hb z => z.elim (fun z => dj2 b (.inl hb) z) (dj b hb)) h2' e2 ho.2 (fun i p hm => hp i p (List.mem_cons_of_mem _ hm)) (fun j hj => by
            rw [List.getElem?_set_ne (fun e => hj (by simp [e]))]
            exact hI j fun z => hj (List.mem_cons_of_mem _ z)) hP
        refine ⟨fp', fun b => fp i b ∨ TA b, ?_, RpL.cons rv r' fun b hb z => dj' b z (.inl hb), fun b hb z => hb.elim (fun y => dj2 b (.inr z) y) fun y => dj' b y (.inr z)⟩
        simp only [outs, if_neg hpers]
        exact p'.weak fun b z => z.elim (fun z => z.elim (fun z => .inr (.inl z)) .inl) fun z => .inr (.inr z)
    · cases hd
theorem Ps.called {F' : AS} {H' : Hp} {T' : AS} (a : Ps g σ F H ρ fp F1 H1 ρ1 fp1 T) (k : Kp T F1 F' H1 H') (fz : ∀ b, F' b → H' b ≠ none) (gT : Gd T' F' H') (hT : ∀ b, T' b → T b ∨ H1 b = none) : Ps g σ F H ρ fp F' H' ρ1 fp1 T' := by
  have nt : ∀ j b, fp1 j b → ¬ T b := a.td
  refine ⟨⟨a.st.len, fun j d h => ?_, a.st.dis, fun j b hb => ?_, a.st.lv, fz⟩, ⟨fun b o e n => ?_, fun b h => k.mono b (a.kp.mono b h), fun b h => ?_, fun b h => k.ex b (a.kp.ex b h)⟩, fun b h => ?_, a.ro, a.rf, gT, fun j b hb z => ?_⟩
  · obtain ⟨v, hv, r⟩ := a.st.rp j d h
    exact ⟨v, hv, Rp.keep k a.tg d v _ (nt j) r⟩
  · obtain ⟨n, o, e, m⟩ := a.st.gd j b hb
    refine ⟨fun z => ?_, o, k.keep b o e (nt j b hb), m⟩
    rcases k.new b z with z | z | z
    · exact n z
    · exact nt j b hb z
    · rw [e] at z; cases z
  · refine k.keep b o (a.kp.keep b o e n) fun z => ?_
    exact (a.fr b (.inr z)).elim n fun z => by rw [z] at e; cases e
  · rcases k.new b h with z | z | z
    · exact a.kp.new b z
    · exact .inr (a.fr b (.inr z))
    · exact .inr (.inr (a.kp.nn z))
  · rcases h with h | h
    · exact a.fr b (.inl h)
    · rcases hT b h with z | z
      · exact a.fr b (.inr z)
      · exact .inr (a.kp.nn z)
  · rcases hT b z with y | y
    · exact nt j b hb y
    · exact (a.st.gd j b hb).2.ne y
/-- behind the call: the slots are filled again -/
theorem back_rd {F0 : AS} {H0 : Hp} {ρ0 : LP.Env} {fp0 : Nat → AS} {fpE : Nat → AS} {R : AS} {dsA : List D} {vsA : List V} {ssA : List Sl} {ρI : LP.Env} (hsl : ∀ i d0 e u, dsA[i]? = some d0 → LP.pers d0 = false → ssA[i]? = some (Sl.ow e) → vsA[i]? = some u → Rp g F H e u (fpE i)) (hdis : ∀ i j b, fpE i b → fpE j b → i = j) (htd : ∀ i b, fpE i b → ¬ R b) :
    ∀ (ars : List Ar) (ds : List D) (vs : List V) (ss : List Sl) (a : Nat) (is : List Nat) (ρ ρ' : LP.Env) (fp : Nat → AS) (T : AS), (∀ i, ds[i]? = dsA[a + i]?) → (∀ i, vs[i]? = vsA[a + i]?) → (∀ i, ss[i]? = ssA[a + i]?) → ArR g σ F1 H1 ars vs T → (∀ i p, Ar.pl i p ∈ ars → p = []) →
    arOk ρI ars ds is = true → arBack ρ ars ds ss = some ρ' → Ps g σ F0 H0 ρ0 fp0 F H (outs ars ds ρ) fp (fun b => R b ∨ ∃ i, a ≤ i ∧ fpE i b) → ∃ fp', Ps g σ F0 H0 ρ0 fp0 F H ρ' fp' R
  | [], ds, vs, ss, a, is, ρ, ρ', fp, T, h1, h2, h3, hr, hp, ho, hb, p => by
    cases ds with
    | cons _ _ => simp [arOk] at ho
    | nil =>
      simp only [arBack, Option.some.injEq] at hb
      subst hb
      exact ⟨fp, by simpa [outs] using p.weak fun b z => .inl z⟩
  | .val d :: as, [], vs, ss, a, is, ρ, ρ', fp, T, h1, h2, h3, hr, hp, ho, hb, p => by simp [arOk] at ho
  | .val d :: as, d0 :: ds, vs, ss, a, is, ρ, ρ', fp, T, h1, h2, h3, hr, hp, ho, hb, p => by
    simp only [ArR] at hr
    obtain ⟨v, r, T1, T2, rfl, _, hr, _⟩ := hr
    cases ss with
    | nil => simp [arBack] at hb
    | cons s ss =>
      simp only [arBack] at hb
      simp only [arOk] at ho
      simp only [outs] at p
      exact back_rd hsl hdis htd as ds r ss (a + 1) is ρ ρ' fp T2 (fun i => by have := h1 (i + 1); simp at this; rw [this]; congr 1; omega) (fun i => by have := h2 (i + 1); simp at this; rw [this]; congr 1; omega) (fun i => by have := h3 (i + 1); simp at this; rw [this]; congr 1; omega) hr (fun i p hm => hp i p (List.mem_cons_of_mem _ hm)) ho hb (p.weak fun b z => z.imp_right fun ⟨i, hi, z⟩ => ⟨i, by omega, z⟩)
  | .pl j q :: as, [], vs, ss, a, is, ρ, ρ', fp, T, h1, h2, h3, hr, hp, ho, hb, p => by simp [arOk] at ho
  | .pl j q :: as, d0 :: ds, vs, ss, a, is, ρ, ρ', fp, T, h1, h2, h3, hr, hp, ho, hb, p => by
    obtain rfl := hp j q (List.mem_cons_self ..)
    simp only [ArR] at hr
    obtain ⟨v, r, rfl, hv, hr⟩ := hr
    cases ss with
    | nil => simp [arBack] at hb
    | cons s ss =>
      have g1 : ∀ i, ds[i]? = dsA[a + 1 + i]? := fun i => by have := h1 (i + 1); simp at this; rw [this]; congr 1; omega
      have g2 : ∀ i, r[i]? = vsA[a + 1 + i]? := fun i => by have := h2 (i + 1); simp at this; rw [this]; congr 1; omega
      have g3 : ∀ i, ss[i]? = ssA[a + 1 + i]? := fun i => by have := h3 (i + 1); simp at this; rw [this]; congr 1; omega
      have z1 : dsA[a]? = some d0 := by have := h1 0; simpa using this.symm
      have z2 : vsA[a]? = some v := by have := h2 0; simpa using this.symm
      have z3 : ssA[a]? = some s := by have := h3 0; simpa using this.symm
      simp only [arBack] at hb
      simp only [arOk, Bool.and_eq_true, Bool.or_eq_true] at ho
      by_cases hpers : LP.pers d0 = true
      · rw [if_pos hpers] at hb ho
        simp only [outs, if_pos hpers] at p
        exact back_rd hsl hdis htd as ds r ss (a + 1) is ρ ρ' fp T g1 g2 g3 hr (fun i p hm => hp i p (List.mem_cons_of_mem _ hm)) ho.2 hb (p.weak fun b z => z.imp_right fun ⟨i, hi, z⟩ => ⟨i, by omega, z⟩)
      · rw [if_neg hpers] at hb ho
        simp only [outs, if_neg hpers] at p
        have hm : j ∈ j :: is := List.mem_cons_self ..
        rw [outs_set ho.2 hm] at p
        split at hb
        · rename_i e r0 hj
          simp only [modP] at hb
          have rE := hsl a d0 e v z1 (by simpa using hpers) z3 z2
          have hjl : j < ((outs as ds ρ).set j Sl.no).length := by
            have : j < σ.length := (List.getElem?_eq_some_iff.mp hv).1
            rw [← p.st.len] at this
            exact this
          have p2 := (p.weak (T := fun b => fpE a b ∨ (R b ∨ ∃ i, a + 1 ≤ i ∧ fpE i b)) fun b z => z.elim (fun z => .inr ⟨a, Nat.le_refl _, z⟩) fun z => z.imp_right fun ⟨i, hi, z⟩ => ⟨i, by omega, z⟩).asg rE (fun b hb z => z.elim (htd a b hb) fun ⟨i, hi, z⟩ => absurd (hdis a i b hb z) (by omega)) hjl (fun d z => by rw [List.getElem?_set_self (by simpa using hjl)] at z; cases z)
          have es : σ.set j (some v) = σ := by
            apply List.ext_getElem?
            intro m
            by_cases e : j = m
            · subst e; rw [List.getElem?_set_self (List.getElem?_eq_some_iff.mp hv).1, hv]
            · rw [List.getElem?_set_ne e]
          rw [es, List.set_set, ← outs_set ho.2 hm] at p2
          exact back_rd hsl hdis htd as ds r ss (a + 1) (j :: is) (ρ.set j (.ow e)) ρ' _ T g1 g2 g3 hr (fun i p hm => hp i p (List.mem_cons_of_mem _ hm)) ho.2 hb p2
        · rename_i hj
          rw [← outs_set ho.2 hm] at p
          exact back_rd hsl hdis htd as ds r ss (a + 1) (j :: is) (ρ.set j .no) ρ' fp T g1 g2 g3 hr (fun i p hm => hp i p (List.mem_cons_of_mem _ hm)) ho.2 hb (p.weak fun b z => z.imp_right fun ⟨i, hi, z⟩ => ⟨i, by omega, z⟩)
        · cases hb
theorem evAr_pl : ∀ {as : As} {ρ ρ' : LP.Env} {ars : List Ar}, LP.evAr call as ρ = some (ars, ρ') → ∀ i p, Ar.pl i p ∈ ars → p = []
  | .nil, ρ, ρ', ars, h, i, p, hm => by
    simp only [LP.evAr, Option.some.injEq, Prod.mk.injEq] at h
    rw [← h.1] at hm; cases hm
  | .ref j es, ρ, ρ', ars, h, i, p, hm => by
    simp only [LP.evAr] at h
    split at h
    · split at h
      · rename_i h2
        simp only [Option.some.injEq, Prod.mk.injEq] at h
        rw [← h.1] at hm
        rcases List.mem_cons.mp hm with e | hm
        · cases e; rfl
        · exact evAr_pl h2 i p hm
      · cases h
    · cases h
  | .cons e es, ρ, ρ', ars, h, i, p, hm => by
    simp only [LP.evAr] at h
    split at h
    · split at h
      · split at h
        · rename_i h2
          simp only [Option.some.injEq, Prod.mk.injEq] at h
          rw [← h.1] at hm
          rcases List.mem_cons.mp hm with e | hm
          · cases e
          · exact evAr_pl h2 i p hm
        · cases h
      · cases h
    · cases h
theorem call_rd {fs : List Fn} {n f np : Nat} {as : As} {o : Out} {Q : VK} {E : XK} (s : St1 g F H ρ σ fp) (hnp : ∀ ds d ss, LP.callN fs n f ds = some (d, ss) → ds.length = np) (ho : LP.ev (LP.callN fs n) (.call f as) ρ = some o)
    (k : ∀ v F' H' fp' T, Ps g σ F H ρ fp F' H' o.ρ fp' T → KO g σ F' H' o.ρ o.d o.k v T → Q v H') : tCall (spF g fs n f np) [] E (tAr g (LP.callN fs n) as) σ H Q := by
  simp only [LP.ev] at ho
  split at ho
  · rename_i ars ρ1 h1
    refine ⟨F, ρ, fp, s, ars, ρ1, h1, fun vs F1 H1 fp1 T1 p1 r1 => ?_⟩
    have hpl := evAr_pl h1
    unfold LP.runCall at ho
    split at ho
    · cases ho
    · rename_i ds hds
      split at ho
      · rename_i hok
        split at ho
        · rename_i d ss hc
          split at ho
          · rename_i ρ2 hb
            cases ho
            obtain ⟨fp2, TA, p2, r2, _⟩ := out_rd ars ds vs [] ρ1 fp1 T1 e0 (p1.weak fun b z => z.elim id fun z => z.elim) (fun _ _ z => z) r1 hds hok hpl (fun _ _ => rfl) (fun i d v e1 e2 e3 => by
              obtain ⟨v', e4, r⟩ := p1.st.rp i d e1
              rw [e3] at e4; cases e4
              exact Rp.pers d v _ e0 e2 r)
            have p2 := p2.weak (T := TA) fun _ z => .inl z
            refine ⟨F1, ds, d, ss, TA, hc, hnp ds d ss hc, by rw [List.append_nil]; exact r2, p2.tg, p2.st.fz, fun v F' H' fpE T B => ?_⟩
            rw [List.append_nil] at B
            have p3 := p2.called (T' := fun b => T b ∨ ∃ i, 0 ≤ i ∧ fpE i b) B.kp B.fz (fun b hb => hb.elim (B.tg b) fun ⟨i, _, z⟩ => B.gd i b z) fun b hb => B.fr b (hb.elim .inr fun ⟨i, _, z⟩ => .inl ⟨i, z⟩)
            obtain ⟨fp', p4⟩ := back_rd (R := T) B.sl B.dis B.td ars ds vs ss 0 [] ρ1 ρ2 fp2 T1 (fun i => by rw [Nat.zero_add]) (fun i => by rw [Nat.zero_add]) (fun i => by rw [Nat.zero_add]) r1 hpl hok hb p3
            exact k v F' H' fp' T p4 B.val
          · cases ho
        · cases ho
      · cases ho
  · cases ho
end
end LPS

set_option autoImplicit false
set_option linter.all false
set_option maxRecDepth 100000
/-! dict.get; the forms that a generated walk uses -/
namespace LPS
open PySem PySem.Spec PyProof.Rows L2 LP
def tGet1 (td ty : TE) : TE := fun σ H Q => td σ H fun x H1 => ∃ a, x = .ref a ∧ IsD H1 a ∧ ty σ H1 fun y H2 => ∃ o, DGetG H2 a y o ∧ Q (o.getD .non) H2
section
variable {g : Gk} {call : LP.Cll} {σ σ1 σ2 : L2.St} {F F1 F2 : AS} {H H1 H2 : Hp} {ρ ρ1 ρ2 : LP.Env} {fp fp1 fp2 : Nat → AS} {T T1 T2 R : AS} {X : Cx}
theorem pe_get1G {o e : Expr} {apos cpos : Pos} {td ty : TE} (hu : X.A.units + 1 < cLine) (ho : PE X o td) (he : PE X e ty) (m : M1 X o "get" apos e cpos) : PE X (.Call (.Attribute o "get" apos) [e] [] cpos) (tGet1 td ty) := by
  refine ⟨fun pins s σ H Q I h => ?_⟩
  refine wpAny_Call_method m.base m.few m.line PySem.F.plainAttrs_dict PySem.F.slot_dict_get PySem.F.type_dict_get (thn (ho.run pins s σ H _ I h) fun u s1 h1 => ?_)
  obtain ⟨x, H1, I1, rx, a, rfl, d, q1⟩ := h1
  obtain rfl : u = Value.ref a := rx
  obtain ⟨t1, t2, _⟩ := isD_at I1 d
  refine ⟨t1, t2, ?_⟩
  rw [m.trees]
  refine Calls.callWith_builtin rfl (Calls.evalArgs_plain (Calls.spliced_cons (thn (he.run pins s1 σ H1 _ I1 q1) fun iv s2 h2 => Calls.spliced_nil ?_)))
  obtain ⟨y, H2, I2, ry, ov, hg, q2⟩ := h2
  exact d_get1G hu I2 hg ry fun w' s3 I3 rw' => ⟨_, H2, I3, rw', q2⟩
theorem getD_inv {d : D} {ds : List D} {r : D ⊕ D} (h : getD d ds = some r) : ∃ ow ks k, d = .dct ow ks ∧ kFit ks k = true ∧ ((ds = [k] ∧ r = if (look ks k).isSome then .inl k else .inr .non) ∨ ∃ x, ds = [k, x] ∧ LP.pers x = true ∧ r = if (look ks k).isSome then .inl k else .inr x) := by
  unfold getD at h
  split at h
  · split at h
    · rename_i hk; cases h; exact ⟨_, _, _, rfl, hk, .inl ⟨rfl, rfl⟩⟩
    · cases h
  · split at h
    · rename_i hk
      simp only [Bool.and_eq_true] at hk
      cases h; exact ⟨_, _, _, rfl, hk.1, .inr ⟨_, rfl, hk.2, rfl⟩⟩
    · cases h
  · cases h
theorem pe_get1L (inj : ∀ i j, g.an i = g.an j → i = j) (hu : X.A.units + 66 < cLine) {o e : Expr} {er ek : E} {apos cpos : Pos} (ho : PE X o (tE g call er)) (he : PE X e (tE g call ek)) (m : M1 X o "get" apos e cpos) : PE X (.Call (.Attribute o "get" apos) [e] [] cpos) (tE g call (.get er (.cons ek .nil))) :=
  (pe_get1G (by omega) ho he m).imp fun σ H Q ⟨F, ρ, fp, s, oo, hh, k⟩ => by
    simp only [LP.ev, LP.evV] at hh
    split at hh
    · rename_i o1 h1
      split at hh
      · rename_i ds ρ' h2
        split at h2
        · rename_i o2 h3
          simp only [Option.some.injEq, Prod.mk.injEq] at h2
          obtain ⟨rfl, rfl⟩ := h2
          have hgd : ∃ r, getD o1.d [o2.d] = some r := by
            split at hh
            · rename_i h; exact ⟨_, h⟩
            · rename_i h; exact ⟨_, h⟩
            · cases hh
          obtain ⟨r, hr⟩ := hgd
          obtain ⟨ow, ks, kd, hd1, hfit, ⟨e1, e2⟩ | ⟨x, e1, _⟩⟩ := getD_inv hr
          · simp only [List.cons.injEq, and_true] at e1
            subst e1
            refine ⟨F, ρ, fp, s, o1, h1, fun vo F1 H1 fp1 T1 p1 k1 => ?_⟩
            obtain ⟨U0, r0⟩ := k1.rp inj p1.st
            rw [hd1] at r0
            simp only [Rp] at r0
            obtain ⟨a, vs0, W0, rfl, _, _, c0, _⟩ := r0
            refine ⟨a, rfl, ?_, F1, _, fp1, p1.st.lock _, o2, h3, fun vk F2 H2 fp2 T2 p2 k2 => ?_⟩
            · rcases c0 with ⟨_, _, _, e⟩ | ⟨_, _, _, e⟩
              · exact .inl ⟨_, e⟩
              · exact .inr ⟨_, e⟩
            · obtain ⟨Uk, rk⟩ := k2.rp inj p2.st
              have pl : Ps g σ F2 H2 (LP.lock o2.k o2.ρ) fp2 F2 H2 (LP.lock o2.k o2.ρ) fp2 e0 := Ps.refl (p2.st.lock _)
              obtain ⟨T, k1', p⟩ := KO.stay2 inj p1 k1 (p2.trans pl.unlock)
              obtain ⟨U1, r1⟩ := k1'.rp inj p.st
              have r1d := r1
              rw [hd1] at r1d
              simp only [Rp] at r1d
              obtain ⟨a', vs, W, ea, rv, _, c, _⟩ := r1d
              cases ea
              rw [hr, e2] at hh
              rcases dc_get c rv hfit rk with ⟨hn, hg⟩ | ⟨e, ve, he', hg, rve, hch⟩
              · rw [hn] at hh
                simp only [Option.isSome_none, Bool.false_eq_true, if_false, Option.some.injEq] at hh
                subst hh
                exact ⟨none, hg, k _ F2 H2 fp2 e0 (p.weak fun _ z => z.elim) (ko_val (mk_non _))⟩
              · rw [he'] at hh
                simp only [Option.isSome_some, if_true] at hh
                have hgs : getS o1.d (.ky o2.d) = some e := by rw [hd1]; simp only [getS, if_pos hfit]; exact he'
                obtain ⟨eρ, ko⟩ := sub_ko (s := .ky o2.d) k1' hgs hh rve (fun hk => by
                  rw [hk] at k1'
                  have k1' : Rp g F2 H2 o1.d (.ref a) T := k1'
                  rw [hd1] at k1'
                  simp only [Rp] at k1'
                  obtain ⟨a', vs', W', ea, r', hW, c', _⟩ := k1'
                  cases ea
                  rcases dc_get c' r' hfit rk with ⟨hn, _⟩ | ⟨e', ve', he'', hg', rv', hch'⟩
                  · rw [hn] at he'; cases he'
                  · rw [he'] at he''; cases he''
                    obtain rfl := hch.det hch'
                    exact rv'.mono fun b hb => (hW b hb).1) fun _ => ⟨a, rfl, hch⟩
                exact ⟨some ve, .of hg, k ve F2 H2 fp2 T (by rw [eρ]; exact p.weak fun _ z => .inl z) (by rw [eρ]; exact ko)⟩
          · simp at e1
        · cases h2
      · cases hh
    · cases hh
/-! ### forms -/
theorem mk_strE {x : PySem.Str} {s : List Nat} (h : x = sV s) (F : AS) (H : Hp) : Rp g F H (.str s) (.str x) e0 := by subst h; exact mk_str _ _
theorem callN_len {fs : List Fn} {n f np : Nat} (h : (fs[f]?).map (fun x => x.ass.length) = some np) (ds : List D) (d : D) (ss : List Sl) (hc : LP.callN fs n f ds = some (d, ss)) : ds.length = np := by
  have aux : ∀ (bs : List Bool) (ds : List D), assOk bs ds = true → ds.length = bs.length := by
    intro bs
    induction bs with
    | nil => intro ds h; cases ds with | nil => rfl | cons _ _ => simp [assOk] at h
    | cons b bs ih =>
      intro ds h
      cases ds with
      | nil => simp [assOk] at h
      | cons d ds => simp only [assOk, Bool.and_eq_true] at h; simp [ih ds h.2]
  cases n with
  | zero => simp [LP.callN] at hc
  | succ n =>
    simp only [LP.callN] at hc
    split at hc
    · rename_i fn hfn
      rw [hfn] at h
      simp only [Option.map_some, Option.some.injEq] at h
      split at hc
      · rename_i ha
        rw [aux _ _ ha, h]
      · cases hc
    · cases hc
theorem pe_callL {fs : List Fn} {n f np k : Nat} {as : As} {fa : Addr} {fd : FuncData} {ps : List PySem.Str} {x : PySem.Str} {p pos : Pos} {e : Expr} {es : List Expr} (Fn : FnOk X.prog X.w X.K X.mg X.base CX0 k fa fd ps (spF g fs n f np)) (hr : Room k X.A) (hnp : (fs[f]?).map (fun x => x.ass.length) = some np) (hg : Gl X x) (hm : X.mg x = some (.ref fa)) (hk : PySem.W.keepIn X.K (.ref fa) = true) (hb : Binds X.K fd ps [])
    (ha : PA X (e :: es) (tAr g (LP.callN fs n) as)) (hdb : (x == ("__debug__" : PySem.Str)) = false) (he : starEach (e :: es) X.env = (false, eval e X.env) :: starEach es X.env) (hpl : (backTo pos (starEach es X.env)).any (·.1) = false) : PE X (.Call (.Name x p) (e :: es) [] pos) (tE g (LP.callN fs n) (.call f as)) :=
  (pe_call Fn hr hg hm hk hb .nil pass0 ha hdb he hpl).imp fun σ H Q ⟨F, ρ, fp, s, o, ho, k⟩ => call_rd (E := E0) s (callN_len hnp) ho k
theorem pe_rangeTupL : True := trivial
end
end LPS

set_option autoImplicit false
set_option linter.all false
set_option maxRecDepth 100000
/-! a, b = x, y through a tuple; name = [..] -/
namespace LPS
open PySem PySem.Spec PyProof.Rows L2 LP
section
variable {g : Gk} {call : LP.Cll} {σ σ1 σ2 : L2.St} {F F1 F2 : AS} {H H1 H2 : Hp} {ρ ρ1 ρ2 : LP.Env} {fp fp1 fp2 : Nat → AS} {T T1 T2 R : AS} {X : Cx} {W : Nat → Prop}
theorem evs_len : ∀ {es : Es} {ρ ρ' : LP.Env} {ds : List D}, LP.evs call es ρ = some (ds, ρ') → ds.length = esLen es
  | .nil, ρ, ρ', ds, h => by
    simp only [LP.evs, Option.some.injEq, Prod.mk.injEq] at h
    rw [← h.1]; rfl
  | .cons e es, ρ, ρ', ds, h => by
    simp only [LP.evs] at h
    split at h
    · split at h
      · split at h
        · rename_i h3
          simp only [Option.some.injEq, Prod.mk.injEq] at h
          rw [← h.1]
          simp [esLen, evs_len h3]
        · cases h
      · cases h
    · cases h
theorem RpL.upd0 {p : Addr} {o : HO} {ds : List D} {vs : List V} (hF : ∀ b, F b → H b ≠ none) (hp : H p = none) (h : RpL g F H ds vs T) : RpL g F (upd H p o) ds vs T := h.up hF hp
theorem ps_parGL {ts es : List Expr} {tl : List Tg} {ee : Es} {k1 k2 : Nat} {p1 p2 pos : Pos} (K : X.K = g.K) (hc : X.calm = true) (he : PA X es (tEs g call ee)) (hg : PGs X ts (gTs g tl)) (hn : (assignEach ts X.env).length = tl.length) (hst : (assignEach ts X.env).findIdx? (·.1) = none)
    (hs : swapsWithSole [.Tuple ts k1 p1] (.Tuple es k2 p2) pos.line X.env = pure false) (hw : swappedStores [.Tuple ts k1 p1] (.Tuple es k2 p2) X.env = pure none) (h1 : (assignEach [.Tuple ts k1 p1] X.env).map (·.2) = [assign (.Tuple ts k1 p1) X.env]) (hW : ∀ i, i ∈ slotsL tl → W i)
    (h30 : esLen ee ≤ 1000) : PS X (.Assign [.Tuple ts k1 p1] (.Tuple es k2 p2) pos) (tS g call W (.par tl ee)) :=
  (ps_asg (pe_tup he) (pg_tup hc hg hn hst) hs hw h1).imp fun D σ H ⟨F, ρ, fp, s, f, ρ', h, k⟩ => by
    simp only [LP.ex] at h
    split at h
    · rename_i ds ρ1 h1
      split at h
      · rename_i ρ2 h2
        simp only [Option.some.injEq, Prod.mk.injEq] at h
        obtain ⟨rfl, rfl⟩ := h
        refine ⟨F, ρ, fp, s, ds, ρ1, h1, fun vs F1 H1 fp1 T1 p1 r1 => ⟨by rw [← r1.length, evs_len h1, sizeLine_eq]; omega, fun p hp => ?_⟩⟩
        have pA := (p1.alloc (o := .tup vs) hp (T := T1) (fun b z => .inl z) fun b z e => absurd hp (e ▸ (p1.tg b z).2.ne)).1
        refine ⟨p, vs, rfl, SqT.of upd_same, by rw [← r1.length, asgTs_len h2], F, H, ρ, fp, F1, ρ1, fp1, T1, e0, ds, ρ2, pA.weak fun b z => z.elim id fun z => z.elim, r1.up p1.st.fz hp, fun _ _ z => z, h2, fun σ' fp' sm p' => k σ' F1 _ fp' (sm.agr hW) p'⟩
      · cases h
    · cases h
theorem ps_setLcL (inj : ∀ i j, g.an i = g.an j → i = j) {i : Nat} {y : PySem.Str} {py : Pos} {elt tg iter : Expr} {ifs : List Expr} {scope : Scope} {own : List (PySem.Str × Nat)} {pos spos : Pos} {e it : E} {is : List Nat} {t : Tg} {c : Oe} (hc : X.calm = true) (hN : X.N.Nodup) (hy : X.N[i]? = some y) (hyl : X.env.scope.names.lookup y = some .local)
    (hsw : swapsWith (.ListComp elt [⟨tg, iter, ifs, 0⟩] scope pos) (some (.Name y py)) spos.line X.env = pure true) (hi : PI X tg iter (tI g call it)) (ok : BlkOk X.N X.env.scope scope own)
    (hg : ∀ (s : Shared) (H : Hp) (C : Addr) (cl : List (PySem.Str × Addr)) (fp : List Addr), PG (X.blk s H scope (compEnvC scope cl C X.env) fp) tg (gT g t)) (ht : ∀ (s : Shared) (H : Hp) (C : Addr) (cl : List (PySem.Str × Addr)) (fp : List Addr), PTs (X.blk s H scope (compEnvC scope cl C X.env) fp) ifs (tC g call c))
    (he : ∀ (s : Shared) (H : Hp) (C : Addr) (cl : List (PySem.Str × Addr)) (fp : List Addr), PE (X.blk s H scope (compEnvC scope cl C X.env) fp) elt (tE g call e)) (hs : ∀ x, foldedSetIterable iter X.env x = pure x) (hw : own.map (·.2) = is) (hsub : ∀ i, i ∈ slots t → i ∈ is) (hW : W i) :
    PS X (.Assign [.Name y py] (.ListComp elt [⟨tg, iter, ifs, 0⟩] scope pos) spos) (tS g call W (.asg (.nm i) (.lc1 e is t it c))) :=
  (ps_setLc hc hN hy hyl hsw hi ok hg ht he hs).imp fun D σ H ⟨F, ρ, fp, s, f, ρ', h, k⟩ => by
    rw [hw]
    simp only [LP.ex] at h
    split at h
    · rename_i d ρ1 hd
      split at h
      · rename_i ρ2 h2
        simp only [Option.some.injEq, Prod.mk.injEq] at h
        obtain ⟨rfl, rfl⟩ := h
        simp only [LP.evD] at hd
        split at hd
        · rename_i o ho
          refine lc_rd inj s hsub ho fun v F1 H1 fp1 T1 p1 k1 => ?_
          obtain ⟨F2, fp2, T2, p2, r2⟩ := own_ok inj p1 k1 hd
          obtain ⟨a1, a2, rfl⟩ := asg_nm h2
          exact k _ F2 H1 _ (Agr.set hW) ((p2.weak (T := fun b => T2 b ∨ e0 b) fun b z => z.elim id fun z => z.elim).asg r2 (fun _ _ z => z) a1 a2)
        · cases hd
      · cases h
    · cases h
end
end LPS

set_option autoImplicit false
namespace LPS
open PySem PySem.Spec PyProof.Rows L2 LP
theorem none0 {g : Gk} {fs : List Fn} {i np : Nat} {P : Program} {w : World} {K : PySem.W.Frag} {mg : PySem.Str → Option Value} {base : Heap} {f : Addr} {fd : FuncData} {ps : List PySem.Str} : FnOk P w K mg base CX0 0 f fd ps (spF g fs 0 i np) := by
  have no : ∀ vs H Q E, ¬ spF g fs 0 i np vs H Q E := fun vs H Q E ⟨F, ds, d, ss, TA, h, _⟩ => by simp [LP.callN] at h
  exact ⟨fun vs H Q E h => absurd h (no vs H Q E), fun A outer s H args us vs Q E _ _ _ _ h => absurd h (no vs H Q E)⟩
end LPS
namespace LPS
open PySem L2
theorem blkOk_re {N : List PySem.Str} {sc0 sc scope : Scope} {own : List (PySem.Str × Nat)} (h : sc0 = sc) (hb : blkC N sc scope own = true) : BlkOk N sc0 scope own := h ▸ blkOk_by hb
end LPS

set_option autoImplicit false
set_option linter.all false
set_option maxRecDepth 100000
/-! the end: the law's promise from its run -/
namespace LPS
open PySem PySem.Spec PyProof.Rows L2 LP
def gk (K : PySem.W.Frag) : Gk := ⟨K, fun n => sV [n], fun _ => 0⟩
theorem gk_inj (K : PySem.W.Frag) : ∀ i j, (gk K).an i = (gk K).an j → i = j := fun i j h => by
  have := sV_inj h
  simpa using this
/-- what law(script) promises -/
def spTrue (K : PySem.W.Frag) : Sp := fun vs H Q _ => ∃ (a : Addr) (ns : List Int), vs = [.ref a] ∧ SqL K H a (ns.map V.int) ∧ ns.length ≤ 63 ∧ ∀ H', Q (.bl true) H'
theorem law_ok {fs : List Fn} {n i : Nat} {P : Program} {w : World} {K : PySem.W.Frag} {mg : PySem.Str → Option Value} {base : Heap} {f : Addr} {fd : FuncData} {ps : List PySem.Str} (F : FnOk P w K mg base CX0 n f fd ps (spF (gk K) fs n i 1))
    (plain : ∀ ns : List Int, ns.length ≤ 63 → ∃ ss, LP.callN fs n i [.scr ns] = some (.bl true, ss)) : FnOk P w K mg base CX0 n f fd ps (spTrue K) :=
  F.imp fun vs H Q E ⟨a, ns, hv, hs, hl, q⟩ => by
    subst hv
    obtain ⟨ss, hc⟩ := plain ns hl
    refine ⟨fun b => b = a ∧ H b ≠ none, [.scr ns], .bl true, ss, e0, hc, rfl, ?_, fun _ z => z.elim, fun b hb => hb.2, fun v F' H' fpE T B => ?_⟩
    · simp only [RpL]
      refine ⟨.ref a, [], e0, e0, rfl, ?_, rfl, fun _ z => z.elim, fun _ z => z.elim⟩
      simp only [Rp]
      refine ⟨a, rfl, ?_⟩
      rcases hs with (h | ⟨o, h⟩) | h
      · exact .inl ⟨h, rfl, by rw [h]; simp⟩
      · exact .inr (.inl ⟨o, h⟩)
      · exact .inr (.inr fun H' => .inr h)
    · obtain rfl := rp_bl B.val
      exact q H'
theorem walkL {l : PySem.W.OpenLaw} {k : Nat} {q : Program} {loose : List PySem.Str} {XP : (PySem.Str → Option Value) → Heap → Prop} {YP : World → Heap → Prop} {d : DefRec} {K : Params → PySem.W.Frag} (hn : l.most = some 63) (hdf : d.params.defaults = []) (hr : Room k callerA)
    (hY : ∀ (w : World) (h : Heap), YP w h → (K w.params).In h)
    (F : ∀ (w : World) (mg : PySem.Str → Option Value) (fa : Addr) (h : Heap), (K w.params).In h → h.Ns mainGlobals mg → mg d.name = some (.ref fa) →
      ∃ fd : FuncData, (∀ (s : Shared) (u : Value), BindsTo s fd ⟨[u], []⟩ [("script", u)]) ∧ ∀ base : Heap, (K w.params).In base → base.Ns mainGlobals mg → FnOk l.prog w (K w.params) mg base CX0 k fa fd ["script"] (spTrue (K w.params))) :
    PySem.W.WalkO q loose XP YP l.row.toRowW d [] (fun f vs => PySem.call f vs) :=
  L2.walk_of (n := 63) (k := k) (x := "script") (CX := fun _ => CX0) (sp := fun w => spTrue (K w.params)) hn (by decide) hdf hr hY F (fun _ _ a ns hl _ hS => ⟨a, ns, rfl, hS, hl, fun _ => rfl⟩) fun _ _ _ _ _ z => z
end LPS

set_option autoImplicit false
set_option linter.all false
set_option maxRecDepth 100000
/-! dict(d) -/
namespace LPS
open PySem PySem.Spec PyProof.Rows L2 LP
section
variable {prog : Program} {w : World} {K : Type} [DecidableEq K] {knd : HeapKind prog w K} {A : Around} {E : Value → Shared → Prop} {s : Shared}
/-- dict(d), keys that are tuples -/
theorem tt_call_dict {o : Addr} {more : List (K × Addr × Value)} {Q : Value → Shared → Prop} (hu : ∀ A', A'.units ≤ A.units + 5 → knd.room A') (hoS : (o == sysModules) = false) (ho : s.heap.DictOfH knd o more)
    (hko : ∀ x ∈ more, knd.is (s.heap.push { cls := .type "dict", data := .dict #[] }) x.1 x.2.1) (hty : ∀ x ∈ more, s.TypeIs (.ref x.2.1) "tuple") (hap : (more.map fun x => knd.hash x.1).Nodup) (hsz : more.length ≤ sizeLine)
    (h : ∀ h', h'.DictOfH knd s.heap.objs.size more → Heap.SameBut s.heap.objs.size (s.heap.push { cls := .type "dict", data := .dict #[] }) h' → Q (.ref s.heap.objs.size) { s with heap := h' }) :
    wpAny (model prog w) A (call (.type "dict") [.ref o]) Q E s := by
  refine callType_codes (Q₁ := fun obj s₁ => obj = .ref s.heap.objs.size ∧ s₁ = { s with heap := s.heap.push { cls := .type "dict", data := .dict #[] } }) F.kt_called_dict (F.kt_typeCall_dict_1 _) F.entry_dict_init (kt_code_dict_new _ ⟨rfl, rfl⟩) ?_
  rintro obj s₁ ⟨rfl, rfl⟩
  have hnew : (s.heap.push { cls := .type "dict", data := .dict #[] }).DictOfH knd s.heap.objs.size [] := Heap.DictOfH.new s.heap
  have ho' : (s.heap.push { cls := .type "dict", data := .dict #[] }).DictOfH knd o more := by
    obtain ⟨ob, es, ep, hg, hx, hd, he, _, hn⟩ := ho
    exact ⟨ob, es, ep, Heap.get?_push_of_some _ hg, hx, hd, he, hko, hn⟩
  have hn : (more.map (·.1)).Nodup := ho.nodup
  have hdo : s.heap.objs.size ≠ o := by
    obtain ⟨_, _, _, hg, _⟩ := ho
    exact fun e => absurd (Heap.lt_size hg) (by rw [e]; exact Nat.lt_irrefl _)
  have hty' : ∀ x ∈ more, Shared.TypeIs { s with heap := s.heap.push { cls := .type "dict", data := .dict #[] } } (.ref x.2.1) "tuple" := fun x hx => by
    obtain ⟨ob, hg, hc⟩ := hty x hx
    exact ⟨ob, Heap.get?_push_of_some _ hg, hc⟩
  refine ⟨hnew.typeIs, F.args_dict_init_2 _ _, ?_⟩
  unfold Builtin.«dict.__init__»
  refine wpAny_bind ?_
  unfold Builtin.Dict.selfAndRest
  refine wpAny_bind (wpAny_notOrdered_dict hnew.typeIs ?_)
  show wpAny _ _ (pure (s.heap.objs.size, [Value.ref o])) _ _ _
  refine wpAny_pure ?_
  show wpAny _ _ (Builtin.Dict.updateFrom "dict.__init__" s.heap.objs.size (.ref o) [] .none) _ _ _
  unfold Builtin.Dict.updateFrom
  refine wpAny_bind (wpAny_typeOf ho'.typeIs ?_)
  rw [if_neg (by decide)]
  refine wpAny_bind ?_
  unfold Builtin.Dict.merge
  refine wpAny_bind ?_
  unfold Builtin.Dict.readDirectly
  refine wpAny_bind (wpAny_isInstance ho'.typeIs isSubtype_dict_dict ?_)
  simp only [Bool.not_true, Bool.false_eq_true, if_false]
  refine wpAny_bind (wpAny_specialOf ho'.typeIs F.slot_dict_iter.lookup (wpAny_pure ?_))
  simp only [beq_self_eq_true, if_true]
  refine wpAny_bind (wpAny_pure ?_)
  refine wpAny_mergeDict_heap (hsz := by simpa using hsz) (hu _ ?_) hdo hoS hnew ho' (.inr ⟨hty', hap⟩) fun h' hd' _ hs' => ?_
  · show A.units + 1 + 1 ≤ A.units + 5; omega
  show wpAny _ _ (Builtin.Dict.addKeywords s.heap.objs.size [] >>= _) _ _ _
  rw [storedAllH_nil_of_nodup more hn] at hd'
  exact wpAny_bind (wpAny_pure (wpAny_pure ⟨rfl, h h' hd' hs'⟩))
end
section
variable {X : Cx}
/-- dict(d) whose keys are tuples of ints and texts, no two hash alike -/
theorem call_dictT (hu : X.A.units + 66 < cLine) : CallR X (.type "dict") (fun xs H Q => ∃ (a : Addr) (kvs : List (List Key × V)), xs = [.ref a] ∧ Rd H a (.dT kvs) ∧ (kvs.map fun p => (tupleKind (mixKind X.prog X.w)).hash p.1).Nodup ∧ ∀ p, H p = none → Q (.ref p) (upd H p (.dT kvs))) := by
  intro pins s σ H xs us Q I r q
  obtain ⟨a, kvs, ex, hd, hap, q⟩ := q
  subst ex
  obtain ⟨u, eu, rx⟩ := vals1 r
  subst eu
  cases rx
  obtain ⟨z, lo, xs, rel, hdo⟩ := dt_rd I.hok hd
  have hlen : kvs.length = xs.length := Paired.length rel
  have tup_of : ∀ {l : List (List Key × V)} {m : List (List Key × Addr × Value)}, KT H l m → ∀ x ∈ m, H x.2.1 = some (.tup (x.1.map kV)) := by
    intro l m q
    induction q with
    | nil => intro x hx; exact nomatch hx
    | @cons p q ps qs hq t ih =>
      intro x hx
      rcases List.mem_cons.mp hx with e | hx
      · subst e
        rw [← hq.1]; exact hq.2.1
      · exact ih x hx
  have keys_of : ∀ {l : List (List Key × V)} {m : List (List Key × Addr × Value)}, KT H l m → m.map (fun x => (tupleKind (mixKind X.prog X.w)).hash x.1) = l.map fun p => (tupleKind (mixKind X.prog X.w)).hash p.1 := by
    intro l m q
    induction q with
    | nil => rfl
    | @cons p q ps qs hq t ih => simp only [List.map_cons, ih, hq.1]
  have is_of : ∀ x ∈ xs, (tupleKind (mixKind X.prog X.w)).is s.heap x.1 x.2.1 := fun x hx => key_of I.hok (tup_of rel x hx)
  refine tt_call_dict (knd := tupleKind (mixKind X.prog X.w)) (fun A' hA => ?_) lo hdo (fun x hx => ?_) (fun x hx => (is_of x hx).typeIs) (by rw [keys_of rel]; exact hap) (by rw [← hlen]; exact z) fun h' d' hs => ?_
  · show A'.units < cLine
    omega
  · obtain ⟨ob, its, n, h1, h2, h3, h4⟩ := is_of x hx
    exact ⟨ob, its, n, Heap.get?_push_of_some _ h1, h2, h3, h4⟩
  · have hm : (s.heap.objs.size == sysModules) = false := beq_eq_false_iff_ne.mpr (Nat.ne_of_gt I.big)
    have hnone := I.hok.fresh (Nat.le_refl s.heap.objs.size)
    refine ⟨.ref s.heap.objs.size, upd H s.heap.objs.size (.dT kvs), I.laid (t' := s.toks) (fun b u e => (hs.2 b (Nat.ne_of_lt (Heap.lt_size e))).trans (Heap.get?_push_of_some _ e)) (Nat.le_refl _) ?_, rfl, q _ hnone⟩
    obtain ⟨ob, es, ep, g1, g2, g3, g4, _, g6⟩ := d'
    refine ⟨z, hm, xs, ?_, ob, es, ep, g1, g2, g3, g4, g6⟩
    have up : ∀ {l : List (List Key × V)} {m : List (List Key × Addr × Value)}, KT H l m → KT (upd H s.heap.objs.size (.dT kvs)) l m := by
      intro l m q
      induction q with
      | nil => exact .nil
      | @cons p q ps qs hq t ih =>
        refine .cons ⟨hq.1, ?_, hq.2.2⟩ ih
        rw [upd_ne (ne_of_none hq.2.1 hnone)]
        exact hq.2.1
    exact up rel
end
section
variable {g : Gk} {call : LP.Cll} {σ σ1 σ2 : L2.St} {F F1 F2 : AS} {H H1 H2 : Hp} {ρ ρ1 ρ2 : LP.Env} {fp fp1 fp2 : Nat → AS} {T T1 T2 R : AS} {X : Cx}
theorem hI_eq (i : Int) : hashInt i = hI i := by
  have e : (if i < 0 then -((i.natAbs % 2305843009213693951 : Nat) : Int) else ((i.natAbs % 2305843009213693951 : Nat) : Int)) = i.sign * ((i.natAbs % 2305843009213693951 : Nat) : Int) := by
    rcases Int.lt_trichotomy i 0 with h | h | h
    · rw [if_pos h, Int.sign_eq_neg_one_of_neg h]; omega
    · subst h; rfl
    · rw [if_neg (by omega), Int.sign_eq_one_of_pos h]; omega
  have e2 : (2 ^ 61 - 1 : Nat) = 2305843009213693951 := rfl
  unfold hashInt rawHash hI
  simp only [e2]
  rw [show ((i.natAbs : Int) % ((2305843009213693951 : Nat) : Int)) = ((i.natAbs % 2305843009213693951 : Nat) : Int) from rfl, e]
  generalize i.sign * ((i.natAbs % 2305843009213693951 : Nat) : Int) = x
  by_cases h : x = -1
  · subst h; rfl
  · have h' : (x == -1) = false := beq_eq_false_iff_ne.mpr h
    simp [h]
theorem keysD_ints {w : World} : ∀ {ds : List D} {is : List Int} {ks : List Key}, intsOf ds = some is → keysD ds = some ks → ks.map (keyH w) = is.map hI
  | [], is, ks, h1, h2 => by
    simp only [intsOf, Option.some.injEq] at h1
    simp only [keysD, Option.some.injEq] at h2
    subst h1 h2; rfl
  | d :: ds, is, ks, h1, h2 => by
    cases d <;> simp only [intsOf, reduceCtorEq] at h1
    split at h1
    · rename_i i b' hb
      cases h1
      simp only [keysD, keyD] at h2
      split at h2
      · rename_i k ks' hk hks
        cases h2
        cases hk
        simp only [List.map_cons, keysD_ints hb hks, List.cons.injEq, and_true]
        exact hI_eq _
      · cases h2
    · cases h1
theorem tD_hash {P : Program} {w : World} : ∀ {ks : List (D × D)} {hs : List (List Int)} {tt : List (List Key)}, keyHs ks = some hs → tD ks = some tt → tt.map (tupleKind (mixKind P w)).hash = hs.map hashI
  | [], hs, tt, h1, h2 => by
    simp only [keyHs, Option.some.injEq] at h1
    simp only [tD, Option.some.injEq] at h2
    subst h1 h2; rfl
  | (d, x) :: ks, hs, tt, h1, h2 => by
    cases d <;> simp only [keyHs, reduceCtorEq] at h1
    split at h1
    · rename_i ds is rs hi hr
      cases h1
      simp only [tD, tkD] at h2
      split at h2
      · rename_i k ks' hk hks
        cases h2
        simp only [List.map_cons, tD_hash hr hks, List.cons.injEq, and_true]
        show reduceHash (Builtin.Tuple.tupleHashOf (k.map (keyH w))) = hashI is
        rw [keysD_ints hi hk]; rfl
      · cases h2
    · cases h1
theorem tD_isK : ∀ {ks : List (D × D)} {tt : List (List Key)}, tD ks = some tt → (ks.all fun p => isK p.1) = true → ks = []
  | [], _, _, _ => rfl
  | (d, x) :: ks, tt, h, h2 => by
    simp only [List.all_cons, Bool.and_eq_true] at h2
    cases d <;> simp [tD, tkD, isK] at h h2
theorem map_fst_zip {α β : Type} : ∀ {a : List α} {b : List β}, a.length = b.length → (a.zip b).map (·.1) = a
  | [], [], _ => rfl
  | a :: x, b :: y, h => by simp [map_fst_zip (a := x) (b := y) (by simpa using h)]
  | [], b :: y, h => by simp at h
  | a :: x, [], h => by simp at h
theorem RpK.pers {ks : List (D × D)} {vs : List V} {W : AS} (hp : persK ks = true) (h : RpK g F H ks vs W) : RpK g F H ks vs e0 := by
  rw [RpK_iff] at h ⊢
  refine RpL.of_all ?_ h
  have : ∀ ks : List (D × D), persK ks = true → persL (ks.map (·.2)) = true := by
    intro ks
    induction ks with
    | nil => intro _; rfl
    | cons p ks ih =>
      intro h
      obtain ⟨k, d⟩ := p
      simp only [persK, Bool.and_eq_true] at h
      simp only [List.map_cons, persL, h.1.2, ih h.2, Bool.and_self]
  exact this ks hp
theorem RpK.up {p : Addr} {o : HO} (hF : ∀ b, F b → H b ≠ none) (hp : H p = none) {d : List (D × D)} {v : List V} {U : AS} (h : RpK g F H d v U) : RpK g F (upd H p o) d v U := by
  rw [RpK_iff] at h ⊢
  exact h.up hF hp
/-- dict(a dict) -/
def rDictD (g : Gk) : List V → Hp → VK → Prop := fun vs H Q => ∃ F o ks, RdL g F H [.dct o ks] vs ∧ persK ks = true ∧ dkOk ks = true ∧ (∀ b, F b → H b ≠ none) ∧ ∀ v H', NewV g F H (.dct true ks) v H' → Q v H'
theorem cr_dictD (hu : X.A.units + 66 < cLine) : CallR X (.type "dict") (rDictD g) := by
  rintro pins s σ H xs us Q I r ⟨F, o, ks, rd, hp, hk, hF, q⟩
  obtain ⟨v, U, rfl, r1⟩ := rdl1 rd
  simp only [Rp] at r1
  obtain ⟨a, vs, W, rfl, rr, _, c, _⟩ := r1
  have r0 := RpK.pers hp rr
  have hlen : ks.length = vs.length := by rw [RpK_iff] at rr; simpa using rr.length
  rcases c with ⟨kk, e1, e3, e2⟩ | ⟨tt, e1, e3, e2⟩
  · refine call_dictD pins s σ H _ us Q I r ⟨a, _, rfl, e2, fun p hpn => q _ _ (.inr ⟨p, _, hpn, rfl, ?_, .inl ⟨_, upd_same, .inr (.inl ⟨_, rfl⟩)⟩⟩)⟩
    simp only [Rp]
    exact ⟨p, vs, e0, rfl, r0.up hF hpn, fun _ z => z.elim, .inl ⟨kk, e1, e3, .inl upd_same⟩, rfl, fun ob u z => by rw [upd_same] at z; cases z⟩
  · have hap : ((tt.zip vs).map fun p => (tupleKind (mixKind X.prog X.w)).hash p.1).Nodup := by
      have e : ((tt.zip vs).map fun p => (tupleKind (mixKind X.prog X.w)).hash p.1) = tt.map (tupleKind (mixKind X.prog X.w)).hash := by
        have := congrArg (List.map (tupleKind (mixKind X.prog X.w)).hash) (map_fst_zip (a := tt) (b := vs) (by rw [tD_len e1]; exact hlen))
        rw [List.map_map] at this
        exact this
      rw [e]
      unfold dkOk at hk
      rw [Bool.or_eq_true] at hk
      rcases hk with hk | hk
      · have := tD_isK e1 hk
        subst this
        simp only [tD, Option.some.injEq] at e1
        subst e1
        exact List.nodup_nil
      · split at hk
        · rename_i hs hh
          rw [tD_hash hh e1]
          exact of_decide_eq_true hk
        · cases hk
    refine call_dictT hu pins s σ H _ us Q I r ⟨a, _, rfl, e2, hap, fun p hpn => q _ _ (.inr ⟨p, _, hpn, rfl, ?_, .inl ⟨_, upd_same, .inr (.inr (.inl ⟨_, rfl⟩))⟩⟩)⟩
    simp only [Rp]
    exact ⟨p, vs, e0, rfl, r0.up hF hpn, fun _ z => z.elim, .inr ⟨tt, e1, e3, .inl upd_same⟩, rfl, fun ob u z => by rw [upd_same] at z; cases z⟩
end
end LPS

set_option autoImplicit false
set_option linter.all false
set_option maxRecDepth 100000
/-! classes: stores into attributes, calls of methods, instances made -/
namespace LPS
open PySem PySem.Spec PyProof.Rows L2 LP
section
variable {g : Gk} {call : LP.Cll} {σ σ1 σ2 : L2.St} {F F1 F2 : AS} {H H1 H2 : Hp} {ρ ρ1 ρ2 : LP.Env} {fp fp1 fp2 : Nat → AS} {T T1 T2 R : AS} {X : Cx} {W : Nat → Prop}
theorem RpF_put (inj : ∀ i j, g.an i = g.an j → i = j) {fs : List (Nat × D)} {vs : List V} {Wf Td : AS} {f : Nat} {d : D} {v : V} (r : RpF g F H fs vs Wf) (rd : Rp g F H d v Td) (dj : ∀ b, Td b → ¬ Wf b) :
    ∃ ws, RpF g F H (setF fs f d) ws (fun b => Wf b ∨ Td b) ∧ putF (g.an f) v ((fs.map fun p => g.an p.1).zip vs) = ((setF fs f d).map fun p => g.an p.1).zip ws := by
  induction fs generalizing vs Wf with
  | nil =>
    simp only [RpF] at r
    subst r
    refine ⟨[v], ?_, rfl⟩
    simp only [setF, RpF]
    exact ⟨v, [], Td, e0, rfl, rd, rfl, fun b h => ⟨.inr h, fun z => z⟩, fun b z => z.elim⟩
  | cons p fs ih =>
    obtain ⟨k, e⟩ := p
    simp only [RpF] at r
    obtain ⟨u, r', T1, T2, rfl, h1, h2, h3, h4⟩ := r
    by_cases hk : k = f
    · subst hk
      refine ⟨v :: r', ?_, ?_⟩
      · simp only [setF, if_true, RpF]
        exact ⟨v, r', Td, T2, rfl, rd, h2, fun b h => ⟨.inr h, fun z => dj b h (h4 b z)⟩, fun b h => .inl (h4 b h)⟩
      · simp [setF, putF]
    · obtain ⟨ws, e1, e2⟩ := ih h2 (fun b h z => dj b h (h4 b z))
      refine ⟨u :: ws, ?_, ?_⟩
      · simp only [setF, if_neg hk, RpF]
        exact ⟨u, ws, T1, fun b => T2 b ∨ Td b, rfl, h1, e1, fun b h => ⟨.inl (h3 b h).1, fun z => z.elim (h3 b h).2 fun z => dj b z (h3 b h).1⟩, fun b h => h.imp (h4 b) id⟩
      · have hn : ¬ g.an k = g.an f := fun z => hk (inj _ _ z)
        simp only [setF, if_neg hk, List.map_cons, List.zip_cons_cons, putF, if_neg hn, e2]
theorem rp_ins {c : Nat} {fs : List (Nat × D)} {v : V} {U : AS} (h : Rp g F H (.ins true c fs) v U) : ∃ a vs Wf dx, v = .ref a ∧ RpF g F H fs vs Wf ∧ H a = some (.ins (g.cl c) dx ((fs.map fun p => g.an p.1).zip vs)) ∧ U a ∧ ∀ b, Wf b → U b ∧ b ≠ a := by
  simp only [Rp] at h
  obtain ⟨a, vs, Wf, rfl, r, hW, ⟨dx, hi⟩, ho⟩ := h
  exact ⟨a, vs, Wf, dx, rfl, r, hi, ho, hW⟩
theorem RpF.upd1 {fs : List (Nat × D)} {vs : List V} {U Wf : AS} {a : Addr} {o : HO} (h : RpF g F H fs vs Wf) (gU : Gd U F H) (hU : U a) (hW : ∀ b, Wf b → b ≠ a) : RpF g F (upd H a o) fs vs Wf := by
  rw [RpF_iff] at h ⊢
  exact h.upd1 gU hU hW
theorem setF_len (fs : List (Nat × D)) (f : Nat) (d : D) : (setF fs f d).length ≤ fs.length + 1 := by
  induction fs with
  | nil => simp [setF]
  | cons p fs ih =>
    obtain ⟨k, e⟩ := p
    simp only [setF]
    split
    · simp
    · simp; omega
theorem RpF_len : ∀ {fs : List (Nat × D)} {vs : List V} {Wf : AS}, RpF g F H fs vs Wf → vs.length = fs.length := fun {fs vs Wf} h => by
  rw [RpF_iff] at h
  have := h.length
  simpa using this.symm
/-- o.f = v -/
theorem ps_staL (inj : ∀ i j, g.an i = g.an j → i = j) (K : X.K = g.K) {o value : Expr} {er ev : E} {f : Nat} {pos pos' : Pos} (hc : ∀ c, Cls g.K (g.cl c)) (hn : ∀ c, NoAttr g.K (g.cl c) (g.an f)) (ho : PE X o (tE g call er)) (hv : PE X value (tE g call ev))
    (hs : swapsWith value (some (.Attribute o (g.an f) pos')) pos.line X.env = pure false) : PS X (.Assign [.Attribute o (g.an f) pos'] value pos) (tS g call W (.sta er f ev)) :=
  (ps_fld ho hv hs).imp fun D σ H ⟨F, ρ, fp, s, fl, ρ', he, k⟩ => by
    simp only [LP.ex] at he
    split at he
    · rename_i d ρ1 hd
      split at he
      · rename_i o1 h1
        split at he
        · rename_i o3 h3
          simp only [Option.some.injEq, Prod.mk.injEq] at he
          obtain ⟨rfl, rfl⟩ := he
          obtain ⟨j, p, r, c, x, c', r', hk, hr, hg, hf, hm, rfl⟩ := atView_inv h3
          simp only at hk hr k
          split at hf
          · rename_i hsam
            simp only [Option.map_eq_some_iff, Prod.mk.injEq] at hf
            obtain ⟨c'', hset, rfl, rfl⟩ := hf
            refine evD_rd inj s hd fun v F1 H1 fp1 T1 p1 r1 => ?_
            refine ⟨F1, ρ1, fp1, p1.st, o1, h1, fun vo F2 H2 fp2 T2 p2 k2 => ?_⟩
            rw [hk] at k2
            have hcd : c = o1.d := by
              obtain ⟨_, r0, _, e1, _, e3, _⟩ := k2
              have e0 := slotD_ow hr
              rw [e0] at e1; cases e1
              rw [hg] at e3; exact Option.some.inj e3
            subst hcd
            obtain ⟨r1', p5, _⟩ := p1.hold p2 r1
            have p5 := p5.weak (T := T1) fun _ z => .inl z
            cases hd : o1.d with
            | ins ow cc fs =>
              rw [hd] at hset hsam hg k2
              cases ow with
              | false => simp [setS] at hset
              | true =>
                simp only [setS, Option.some.injEq] at hset
                subst hset
                obtain ⟨U, q1, q2, q3, up⟩ := mut_view inj p5 k2 hr hg
                obtain ⟨a, vs, Wf, dx, rfl, rf, ha, hUa, hW⟩ := rp_ins q1
                have hlen := RpF_len rf
                have na : ∀ x, T1 x → x ≠ a := fun x hx z => q3 a hUa (z ▸ hx)
                refine ⟨a, g.cl cc, dx, _, rfl, ha, by rw [K]; exact hc cc, by rw [K]; exact hn cc, ?_, ?_⟩
                · simp only [samC, Bool.and_eq_true, decide_eq_true_eq] at hsam
                  rw [List.length_zip, List.length_map, hlen]
                  omega
                obtain ⟨ws, e1, e2⟩ := RpF_put inj (rf.upd1 (o := .ins (g.cl cc) dx (putF (g.an f) v ((fs.map fun p => g.an p.1).zip vs))) q2 hUa fun x hx => (hW x hx).2) (r1'.upd1 q2 hUa na) (f := f) fun x hx z => q3 x (hW x z).1 hx
                have mu : MuO (upd H2 a (.ins (g.cl cc) dx (putF (g.an f) v ((fs.map fun p => g.an p.1).zip vs)))) a := ⟨_, upd_same, .inr (.inr (.inr ⟨_, _, _, rfl⟩))⟩
                have rq : Rp g F2 (upd H2 a (.ins (g.cl cc) dx (putF (g.an f) v ((fs.map fun p => g.an p.1).zip vs)))) (.ins true cc (setF fs f d)) (.ref a) (fun x => U x ∨ T1 x) := by
                  simp only [Rp]
                  exact ⟨a, ws, _, rfl, e1, fun x hx => hx.elim (fun z => ⟨.inl (hW x z).1, (hW x z).2⟩) fun z => ⟨.inr z, na x z⟩, ⟨dx, by rw [upd_same, e2]⟩, .inl hUa⟩
                obtain ⟨fp3, p6⟩ := up _ (.ins true cc (setF fs f d)) (fun x => U x ∨ T1 x) e0 r' (Kp.upd1 hUa (q2 a hUa).2.ne) rq (fun x hx => hx.elim (fun z => z.elim .inl fun z => .inr (.inl z)) fun z => z.elim) (fun _ _ z => z) (Gd.or (q2.upd1 mu) (p5.tg.upd1 mu)) (fun _ z => z.elim) hm
                exact k σ F2 _ fp3 .refl p6
            | _ => rw [hd] at hsam; simp [samC] at hsam
          · cases hf
        · cases he
      · cases he
    · cases he
end
end LPS
namespace LPS
open PySem PySem.Spec PyProof.Rows L2 LP
section
variable {g : Gk} {call : LP.Cll} {σ σ1 σ2 : L2.St} {F F1 F2 : AS} {H H1 H2 : Hp} {ρ ρ1 ρ2 : LP.Env} {fp fp1 fp2 : Nat → AS} {T T1 T2 R : AS} {X : Cx} {W : Nat → Prop}
theorem lookF_none {fs : List (Nat × D)} {m : Nat} : ∀ {vs : List V}, (inj : ∀ i j, g.an i = g.an j → i = j) → lookF fs m = none → (((fs.map fun p => g.an p.1).zip vs).lookup (g.an m)) = none := by
  induction fs with
  | nil => intro vs _ _; rfl
  | cons p fs ih =>
    intro vs inj h
    obtain ⟨k, e⟩ := p
    simp only [lookF] at h
    split at h
    · cases h
    · rename_i hk
      cases vs with
      | nil => rfl
      | cons v vs =>
        have hn : (g.an m == g.an k) = false := beq_eq_false_iff_ne.mpr fun z => hk (inj _ _ z).symm
        simp only [List.map_cons, List.zip_cons_cons, List.lookup_cons, hn]
        exact ih inj h
/-- x.m(..), x a name -/
theorem meth_rd (inj : ∀ i j, g.an i = g.an j → i = j) {fs : List Fn} {n f np c m i : Nat} {as : As} {Q : VK} (hnp : ∀ ds d ss, LP.callN fs n f ds = some (d, ss) → ds.length = np)
    (h : tE g (LP.callN fs n) (.meth c m f i as) σ H Q) : tMeth (g.cl c) (g.an m) (spF g fs n f np) [] E0 (tVar i) (tAr g (LP.callN fs n) as) σ H Q := by
  obtain ⟨F, ρ, fp, s, o, ho, k⟩ := h
  simp only [LP.ev] at ho
  split at ho
  · rename_i ow c' fl hsl
    split at ho
    · rename_i hcond
      simp only [Bool.and_eq_true, decide_eq_true_eq, Option.isNone_iff_eq_none] at hcond
      obtain ⟨rfl, hl⟩ := hcond
      split at ho
      · rename_i ars ρ1 h1
        have ho' : LP.ev (LP.callN fs n) (.call f (.ref i as)) ρ = some o := by
          simp only [LP.ev, LP.evAr, hsl, h1]
          exact ho
        have hr := call_rd (E := E0) s hnp ho' k
        unfold tCall tAr at hr
        obtain ⟨F', ρ', fp', s', ars', ρ1', e1, hk⟩ := hr
        obtain ⟨v, hv, rv⟩ := s.rp i _ hsl
        refine ⟨v, hv, ?_⟩
        simp only [Rp] at rv
        obtain ⟨a, vs, Wf, rfl, rf, _, ⟨dx, hi⟩, _⟩ := rv
        refine ⟨a, dx, _, rfl, hi, lookF_none inj hl, ?_⟩
        simp only [LP.evAr] at e1
        split at e1
        · rename_i d' hd'
          split at e1
          · rename_i as' ρ2 h2
            simp only [Option.some.injEq, Prod.mk.injEq] at e1
            obtain ⟨rfl, rfl⟩ := e1
            refine ⟨F', ρ', fp', s', as', ρ2, h2, fun vs F2 H2 fp2 T2 p2 r2 => ?_⟩
            exact hk (.ref a :: vs) F2 H2 fp2 T2 p2 (by simp only [ArR]; exact ⟨.ref a, vs, rfl, hv, r2⟩)
          · cases e1
        · cases e1
      · cases ho
    · cases ho
  · cases ho
theorem pe_methL (inj : ∀ i j, g.an i = g.an j → i = j) {pl : Sem Bool} {fs : List Fn} {n f np k c m i : Nat} {as : As} {fa : Addr} {fd : FuncData} {ps : List PySem.Str} {o e : Expr} {apos pos : Pos} {es : List Expr} (ho : PE X o (tVar i)) (hc : Cls X.K (g.cl c)) (hm : Meth X.K (g.cl c) (g.an m) fa)
    (Fn : FnOk X.prog X.w X.K X.mg X.base CX0 k fa fd ps (spF g fs n f np)) (hr : Room k X.A) (hnp : (fs[f]?).map (fun x => x.ass.length) = some np) (hb : Binds X.K fd ps [])
    (ha : PA X (e :: es) (tAr g (LP.callN fs n) as)) (hst : starEach (e :: es) X.env = (false, eval e X.env) :: starEach es X.env) (hpl : (backTo pos (starEach es X.env)).any (·.1) = false)
    (ht : eval (.Call (.Attribute o (g.an m) apos) (e :: es) [] pos) X.env = (do
      let ov ← eval o X.env
      standAt apos.atName
      let (f, first) ← holding [ov] (getMethod ov (g.an m) pl)
      callWith pos f first (backTo pos (starEach (e :: es) X.env)) (backToKw pos (keywordEach [] X.env)))) : PE X (.Call (.Attribute o (g.an m) apos) (e :: es) [] pos) (tE g (LP.callN fs n) (.meth c m f i as)) :=
  (pe_meth ho hc hm Fn hr hb .nil pass0 ha hst hpl ht).imp fun σ H Q h => meth_rd inj (callN_len hnp) h
end
end LPS

set_option autoImplicit false
set_option linter.all false
set_option maxRecDepth 100000
/-! instances made; calls without arguments -/
namespace LPS
open PySem PySem.Spec PyProof.Rows L2 LP
section
variable {g : Gk} {call : LP.Cll} {σ σ1 σ2 : L2.St} {F F1 F2 : AS} {H H1 H2 : Hp} {ρ ρ1 ρ2 : LP.Env} {fp fp1 fp2 : Nat → AS} {T T1 T2 R : AS} {X : Cx} {W : Nat → Prop}
theorem tAr_nil {Q : List V → Hp → Prop} (h : tAr g call .nil σ H Q) : Q [] H := by
  obtain ⟨F, ρ, fp, s, ars, ρ', h, k⟩ := h
  simp only [LP.evAr, Option.some.injEq, Prod.mk.injEq] at h
  obtain ⟨rfl, rfl⟩ := h
  exact k [] F H fp e0 (Ps.refl s) rfl
theorem make_rd {fs : List Fn} {n f np c : Nat} {as : As} {Q : VK} (hnp : ∀ ds d ss, LP.callN fs n f ds = some (d, ss) → ds.length = np)
    (h : tE g (LP.callN fs n) (.make c f as) σ H Q) : tMake (g.cl c) (spF g fs n f np) [] E0 (tAr g (LP.callN fs n) as) σ H Q := by
  obtain ⟨F, ρ, fp, s, o, ho, k⟩ := h
  simp only [LP.ev] at ho
  split at ho
  · rename_i ars ρ1 h1
    split at ho
    · rename_i o' ho'
      cases ho
      refine ⟨F, ρ, fp, s, ars, ρ1, h1, fun vs F1 H1 fp1 T1 p1 r1 => fun x dx hx hdx hne => ?_⟩
      have hpl := evAr_pl h1
      unfold LP.runCall at ho'
      split at ho'
      · cases ho'
      · rename_i ds hds
        split at ho'
        · rename_i hok
          split at ho'
          · rename_i d ss hc
            split at ho'
            · rename_i ρ2 hb
              cases ho'
              dsimp only at hc
              split at hc
              · rename_i y ss' hcall
                simp only [Option.some.injEq, Prod.mk.injEq] at hc
                obtain ⟨rfl, rfl⟩ := hc
                obtain ⟨fp2, TA, p2, r2, _⟩ := out_rd ars ds vs [] ρ1 fp1 T1 e0 (p1.weak fun b z => z.elim id fun z => z.elim) (fun _ _ z => z) r1 hds hok hpl (fun _ _ => rfl) (fun i d v e1 e2 e3 => by
                  obtain ⟨v', e4, r⟩ := p1.st.rp i d e1
                  rw [e3] at e4; cases e4
                  exact Rp.pers d v _ e0 e2 r)
                have p2 := p2.weak (T := TA) fun _ z => .inl z
                have hTA : ∀ b, TA b → H1 b ≠ none := fun b hb => (p2.tg b hb).2.ne
                have q1 := (p2.alloc (o := .own x) hdx (T := TA) (fun b z => .inl z) fun b hb z => absurd (z ▸ hdx) (hTA b hb)).1
                have hx2 : upd H1 dx (.own x) x = none := by rw [upd_ne fun z => hne z.symm]; exact hx
                have r3 := r2.up (o := .own x) p2.st.fz hdx
                have r4 := r3.up (o := .ins (g.cl c) dx []) q1.st.fz hx2
                have q2 := (q1.alloc (o := .ins (g.cl c) dx []) hx2 (T := fun b => TA b ∨ b = x) (fun b z => z) fun b hb z => ⟨_, upd_same, .inr (.inr (.inr ⟨_, _, _, rfl⟩))⟩).1
                have hxT : ¬ TA x := fun z => hTA x z hx
                refine ⟨F1, .ins true c [] :: ds, .non, .ow y :: ss', fun b => TA b ∨ b = x, hcall, hnp _ _ _ hcall, ?_, q2.tg, q2.st.fz, fun v F' H' fpE T B => ?_⟩
                · simp only [RpL, List.append_nil]
                  refine ⟨.ref x, vs, (fun b => b = x), TA, rfl, ?_, r4, fun b hb => ⟨.inr hb, fun z => hxT (hb ▸ z)⟩, fun b hb => .inl hb⟩
                  simp only [Rp]
                  exact ⟨x, [], e0, rfl, by simp only [RpF], fun _ z => z.elim, ⟨dx, upd_same⟩, rfl⟩
                · rw [List.append_nil] at B
                  refine ⟨by have := B.val; simpa only [Rp] using this, ?_⟩
                  have p3 := q2.called (T' := fun b => T b ∨ ∃ i, 0 ≤ i ∧ fpE i b) B.kp B.fz (fun b hb => hb.elim (B.tg b) fun ⟨i, _, z⟩ => B.gd i b z) fun b hb => B.fr b (hb.elim .inr fun ⟨i, _, z⟩ => .inl ⟨i, z⟩)
                  have rself : Rp g F' H' y (.ref x) (fpE 0) := B.sl 0 (.ins true c []) y (.ref x) rfl rfl rfl rfl
                  obtain ⟨fp', p4⟩ := back_rd (R := fun b => T b ∨ fpE 0 b) (fpE := fun i => fpE (i + 1)) (dsA := ds) (vsA := vs) (ssA := ss') (fun i d0 e u e1 e2 e3 e4 => B.sl (i + 1) d0 e u (by simpa using e1) e2 (by simpa using e3) (by simpa using e4))
                    (fun i j b e1 e2 => by have := B.dis (i + 1) (j + 1) b e1 e2; omega) (fun i b e1 z => z.elim (B.td (i + 1) b e1) fun z => by have := B.dis (i + 1) 0 b e1 z; omega)
                    ars ds vs ss' 0 [] ρ1 ρ2 fp2 T1 (fun i => by rw [Nat.zero_add]) (fun i => by rw [Nat.zero_add]) (fun i => by rw [Nat.zero_add]) r1 hpl hok hb
                    (p3.weak fun b hb => by
                      rcases hb with (z | z) | ⟨i, _, z⟩
                      · exact .inl z
                      · exact .inr ⟨0, Nat.le_refl _, z⟩
                      · exact .inr ⟨i + 1, Nat.zero_le _, z⟩)
                  exact k (.ref x) F' H' fp' (fpE 0) (p4.weak fun b hb => .inr hb) rself
              · cases hc
            · cases ho'
          · cases ho'
        · cases ho'
    · cases ho
  · cases ho
theorem pe_makeL {fs : List Fn} {n f np k c : Nat} {as : As} {fa : Addr} {fd : FuncData} {ps : List PySem.Str} {x : PySem.Str} {p pos : Pos} {e : Expr} {es : List Expr} (M : Mk X.K (g.cl c) fa) (Fn : FnOk X.prog X.w X.K X.mg X.base CX0 k fa fd ps (spF g fs n f np)) (hr : Room (k + 1) X.A) (hnp : (fs[f]?).map (fun x => x.ass.length) = some np) (hg : Gl X x) (hm : X.mg x = some (.ref (g.cl c))) (hb : Binds X.K fd ps [])
    (ha : PA X (e :: es) (tAr g (LP.callN fs n) as)) (hdb : (x == ("__debug__" : PySem.Str)) = false) (he : starEach (e :: es) X.env = (false, eval e X.env) :: starEach es X.env) (hpl : (backTo pos (starEach es X.env)).any (·.1) = false) : PE X (.Call (.Name x p) (e :: es) [] pos) (tE g (LP.callN fs n) (.make c f as)) :=
  (pe_make M Fn hr hg hm hb .nil pass0 ha hdb he hpl).imp fun σ H Q h => make_rd (callN_len hnp) h
theorem pe_make0L {fs : List Fn} {n f np k c : Nat} {fa : Addr} {fd : FuncData} {ps : List PySem.Str} {x : PySem.Str} {p pos : Pos} (M : Mk X.K (g.cl c) fa) (Fn : FnOk X.prog X.w X.K X.mg X.base CX0 k fa fd ps (spF g fs n f np)) (hr : Room (k + 1) X.A) (hnp : (fs[f]?).map (fun x => x.ass.length) = some np) (hg : Gl X x) (hm : X.mg x = some (.ref (g.cl c))) (hb : Binds X.K fd ps [])
    (hdb : (x == ("__debug__" : PySem.Str)) = false) : PE X (.Call (.Name x p) [] [] pos) (tE g (LP.callN fs n) (.make c f .nil)) :=
  (pe_make0 M Fn hr hg hm hb .nil pass0 hdb).imp fun σ H Q h => by
    have h' := make_rd (callN_len hnp) h
    exact tAr_nil h'
theorem pe_meth0L (inj : ∀ i j, g.an i = g.an j → i = j) {pl : Sem Bool} {fs : List Fn} {n f np k c m i : Nat} {fa : Addr} {fd : FuncData} {ps : List PySem.Str} {o : Expr} {apos pos : Pos} (ho : PE X o (tVar i)) (hc : Cls X.K (g.cl c)) (hm : Meth X.K (g.cl c) (g.an m) fa)
    (Fn : FnOk X.prog X.w X.K X.mg X.base CX0 k fa fd ps (spF g fs n f np)) (hr : Room k X.A) (hnp : (fs[f]?).map (fun x => x.ass.length) = some np) (hb : Binds X.K fd ps [])
    (ht : eval (.Call (.Attribute o (g.an m) apos) [] [] pos) X.env = (do
      let ov ← eval o X.env
      standAt apos.atName
      let (f, first) ← holding [ov] (getMethod ov (g.an m) pl)
      callWith pos f first (backTo pos (starEach [] X.env)) (backToKw pos (keywordEach [] X.env)))) : PE X (.Call (.Attribute o (g.an m) apos) [] [] pos) (tE g (LP.callN fs n) (.meth c m f i .nil)) :=
  (pe_meth0 ho hc hm Fn hr hb .nil pass0 ht).imp fun σ H Q h => by
    obtain ⟨v, hv, a, dx, fs', e1, e2, e3, e4⟩ := meth_rd inj (callN_len hnp) h
    exact ⟨v, hv, a, dx, fs', e1, e2, e3, tAr_nil e4⟩
theorem pe_call0L {fs : List Fn} {n f np k : Nat} {fa : Addr} {fd : FuncData} {ps : List PySem.Str} {x : PySem.Str} {p pos : Pos} (Fn : FnOk X.prog X.w X.K X.mg X.base CX0 k fa fd ps (spF g fs n f np)) (hr : Room k X.A) (hnp : (fs[f]?).map (fun x => x.ass.length) = some np) (hg : Gl X x) (hm : X.mg x = some (.ref fa)) (hk : PySem.W.keepIn X.K (.ref fa) = true) (hb : Binds X.K fd ps [])
    (hdb : (x == ("__debug__" : PySem.Str)) = false) : PE X (.Call (.Name x p) [] [] pos) (tE g (LP.callN fs n) (.call f .nil)) :=
  (pe_call0 Fn hr hg hm hk hb .nil pass0 hdb).imp fun σ H Q ⟨F, ρ, fp, s, o, ho, k⟩ => by
    have h' := call_rd (E := E0) s (callN_len hnp) ho k
    exact tAr_nil h'
end
/-- attributes' names by number -/
def anOf (names : List PySem.Str) (n : Nat) : PySem.Str := match names[n]? with
  | some s => s
  | none => sV [0, n]
theorem anOf_inj {names : List PySem.Str} (h1 : names.Nodup) (h3 : ∀ s ∈ names, s.cps[0]? ≠ some 0) : ∀ i j, anOf names i = anOf names j → i = j := by
  have h2 : ∀ s ∈ names, ∀ n, s ≠ sV [0, n] := fun s hs n e => h3 s hs (by rw [e]; rfl)
  intro i j h
  unfold anOf at h
  cases hi : names[i]? with
  | none =>
    rw [hi] at h
    cases hj : names[j]? with
    | none =>
      rw [hj] at h
      have := sV_inj h
      simpa using this
    | some t =>
      rw [hj] at h
      exact absurd h.symm (h2 t (List.mem_of_getElem? hj) i)
  | some s =>
    rw [hi] at h
    cases hj : names[j]? with
    | none =>
      rw [hj] at h
      exact absurd h (h2 s (List.mem_of_getElem? hi) j)
    | some t =>
      rw [hj] at h
      have h : s = t := h
      subst h
      obtain ⟨hi1, hi2⟩ := List.getElem?_eq_some_iff.mp hi
      obtain ⟨hj1, hj2⟩ := List.getElem?_eq_some_iff.mp hj
      have hp := List.pairwise_iff_getElem.mp h1
      rcases Nat.lt_trichotomy i j with h | h | h
      · exact absurd (hi2.trans hj2.symm) (hp i j hi1 hj1 h)
      · exact h
      · exact absurd (hj2.trans hi2.symm) (hp j i hj1 hi1 h)
/-- the end, whatever the names are -/
theorem law_okG {g : Gk} {fs : List Fn} {n i k : Nat} {P : Program} {w : World} {mg : PySem.Str → Option Value} {base : Heap} {f : Addr} {fd : FuncData} {ps : List PySem.Str} (F : FnOk P w g.K mg base CX0 k f fd ps (spF g fs n i 1))
    (plain : ∀ ns : List Int, ns.length ≤ 63 → ∃ ss, LP.callN fs n i [.scr ns] = some (.bl true, ss)) : FnOk P w g.K mg base CX0 k f fd ps (spTrue g.K) :=
  F.imp fun vs H Q E ⟨a, ns, hv, hs, hl, q⟩ => by
    subst hv
    obtain ⟨ss, hc⟩ := plain ns hl
    refine ⟨fun b => b = a ∧ H b ≠ none, [.scr ns], .bl true, ss, e0, hc, rfl, ?_, fun _ z => z.elim, fun b hb => hb.2, fun v F' H' fpE T B => ?_⟩
    · simp only [RpL]
      refine ⟨.ref a, [], e0, e0, rfl, ?_, rfl, fun _ z => z.elim, fun _ z => z.elim⟩
      simp only [Rp]
      refine ⟨a, rfl, ?_⟩
      rcases hs with (h | ⟨o, h⟩) | h
      · exact .inl ⟨h, rfl, by rw [h]; simp⟩
      · exact .inr (.inl ⟨o, h⟩)
      · exact .inr (.inr fun H' => .inr h)
    · obtain rfl := rp_bl B.val
      exact q H'
end LPS

set_option autoImplicit false
set_option linter.all false
set_option maxRecDepth 100000
/-! sorted(xs) -/
namespace LPS
open PySem PySem.Spec PyProof.Rows L2 LP
/-! ### the order of data, the one sorted list -/
def dlt (a b : D) : Bool := PySem.W.dataLt (toP a) (toP b)
theorem dlt_irr (a : D) : dlt a a = false := lex_irrefl _
theorem dlt_tr {a b c : D} (h1 : dlt a b = true) (h2 : dlt b c = true) : dlt a c = true := lex_trans _ _ _ h1 h2
theorem dlt_nt {a b c : D} (h : dlt a c = true) : dlt a b = true ∨ dlt b c = true := lex_negTrans _ _ _ h
theorem dlt_as {a b : D} (h : dlt a b = true) : dlt b a = false := by
  cases q : dlt b a with
  | false => rfl
  | true => have := dlt_tr h q; rw [dlt_irr] at this; cases this
/-- a is not above b -/
def dle (a b : D) : Prop := dlt b a = false
theorem dle_tr {a b c : D} (h1 : dle a b) (h2 : dle b c) : dle a c := by
  unfold dle at *
  cases q : dlt c a with
  | false => rfl
  | true =>
    rcases dlt_nt (b := b) q with h | h
    · rw [h2] at h; cases h
    · rw [h1] at h; cases h
theorem dle_of {a b : D} (h : dlt a b = true) : dle a b := dlt_as h
theorem flatL_mem {n : Nat} : ∀ {ds : List D}, flatNL ds n = true → ∀ d ∈ ds, flatN d n = true
  | [], _, _, m => nomatch m
  | d :: ds, h, e, m => by
    simp only [flatNL, Bool.and_eq_true] at h
    rcases List.mem_cons.mp m with rfl | m
    · exact h.1
    · exact flatL_mem h.2 e m
theorem persL_mem : ∀ {ds : List D}, LP.persL ds = true → ∀ d ∈ ds, LP.pers d = true
  | [], _, _, m => nomatch m
  | d :: ds, h, e, m => by
    simp only [LP.persL, Bool.and_eq_true] at h
    rcases List.mem_cons.mp m with rfl | m
    · exact h.1
    · exact persL_mem h.2 e m
theorem alk_mem {ds : List D} (h : allAlk ds = true) {a b : D} (ha : a ∈ ds) (hb : b ∈ ds) : LP.alk a b = true := by
  simp only [allAlk, List.all_eq_true] at h
  exact h a ha b hb
mutual
theorem alk_eqv : ∀ (a b : D), LP.alk a b = true → LP.pers a = true → LP.pers b = true → eqv a b = true → a = b
  | a, b, k, pa, pb, h => by
    cases a <;> cases b <;> first | (simp [LP.alk] at k; done) | skip
    · rfl
    · simp only [eqv, beq_iff_eq] at h; rw [h]
    · simp only [eqv, beq_iff_eq] at h; rw [h]
    · simp only [eqv, beq_iff_eq] at h; rw [h]
    · rename_i x y
      simp only [LP.alk] at k
      simp only [LP.pers] at pa pb
      simp only [eqv] at h
      rw [alkL_eqv x y k pa pb h]
    · rename_i o x o' y
      simp only [LP.alk] at k
      simp only [LP.pers, Bool.and_eq_true] at pa pb
      simp only [eqv] at h
      rw [alkL_eqv x y k pa.2 pb.2 h]
      have : o = o' := by
        have a1 := pa.1; have a2 := pb.1
        cases o <;> cases o' <;> simp at a1 a2 ⊢
      rw [this]
theorem alkL_eqv : ∀ (a b : List D), LP.alkL a b = true → LP.persL a = true → LP.persL b = true → eqvL a b = true → a = b
  | [], [], _, _, _, _ => rfl
  | [], _ :: _, _, _, _, h => by simp [eqvL] at h
  | _ :: _, [], _, _, _, h => by simp [eqvL] at h
  | x :: a, y :: b, k, pa, pb, h => by
    simp only [LP.alkL, Bool.and_eq_true] at k
    simp only [LP.persL, Bool.and_eq_true] at pa pb
    simp only [eqvL, Bool.and_eq_true] at h
    rw [alk_eqv x y k.1 pa.1 pb.1 h.1, alkL_eqv a b k.2 pa.2 pb.2 h.2]
end
mutual
theorem eqv_self : ∀ (a : D), LP.alk a a = true → eqv a a = true
  | a, k => by
    cases a <;> first | (simp [LP.alk] at k; done) | skip
    · simp only [eqv]
    · simp only [eqv, beq_self_eq_true]
    · simp only [eqv, beq_self_eq_true]
    · simp only [eqv, beq_self_eq_true]
    · simp only [LP.alk] at k
      simp only [eqv]
      exact eqvL_self _ k
    · simp only [LP.alk] at k
      simp only [eqv]
      exact eqvL_self _ k
theorem eqvL_self : ∀ (a : List D), LP.alkL a a = true → eqvL a a = true
  | [], _ => rfl
  | x :: a, k => by
    simp only [LP.alkL, Bool.and_eq_true] at k
    simp only [eqvL, eqv_self x k.1, eqvL_self a k.2, Bool.and_self]
end
mutual
theorem eqv_comm : ∀ (a b : D), eqv a b = eqv b a
  | a, b => by
    cases a <;> cases b <;> simp only [eqv] <;> first | rfl | exact Bool.beq_comm | exact eqvL_comm _ _
theorem eqvL_comm : ∀ (a b : List D), eqvL a b = eqvL b a
  | [], [] => rfl
  | [], _ :: _ => rfl
  | _ :: _, [] => rfl
  | x :: a, y :: b => by simp only [eqvL, eqv_comm x y, eqvL_comm a b]
end
theorem alk_eqv' (a b : D) (k : LP.alk a b = true) (pa : LP.pers a = true) (pb : LP.pers b = true) (h : eqv b a = true) : a = b := alk_eqv a b k pa pb (by rw [eqv_comm]; exact h)
mutual
/-- what is alike and neither below nor above is one -/
theorem alk_eq : ∀ (a b : D), LP.alk a b = true → LP.pers a = true → LP.pers b = true → ltB a b = false → ltB b a = false → a = b
  | a, b, k, pa, pb, h1, h2 => by
    cases a <;> cases b <;> first | (simp [LP.alk] at k; done) | skip
    · rfl
    · rename_i x y; cases x <;> cases y <;> first | rfl | (simp [ltB, LP.b2i] at h1 h2)
    · simp only [ltB, decide_eq_false_iff_not] at h1 h2
      congr 1; omega
    · rename_i x y
      simp only [ltB, ltN_eq, decide_eq_false_iff_not] at h1 h2
      congr 1
      exact List.le_antisymm (List.not_lt.mp h2) (List.not_lt.mp h1)
    · rename_i x y
      simp only [LP.alk] at k
      simp only [LP.pers] at pa pb
      simp only [ltB] at h1 h2
      rw [alkL_eq x y k pa pb h1 h2]
    · rename_i o x o' y
      simp only [LP.alk] at k
      simp only [LP.pers, Bool.and_eq_true] at pa pb
      simp only [ltB] at h1 h2
      rw [alkL_eq x y k pa.2 pb.2 h1 h2]
      have : o = o' := by
        have a1 := pa.1; have a2 := pb.1
        cases o <;> cases o' <;> simp at a1 a2 ⊢
      rw [this]
theorem alkL_eq : ∀ (a b : List D), LP.alkL a b = true → LP.persL a = true → LP.persL b = true → ltBL a b = false → ltBL b a = false → a = b
  | [], [], _, _, _, _, _ => rfl
  | [], _ :: _, _, _, _, h, _ => by simp [ltBL] at h
  | _ :: _, [], _, _, _, _, h => by simp [ltBL] at h
  | x :: a, y :: b, k, pa, pb, h1, h2 => by
    simp only [LP.alkL, Bool.and_eq_true] at k
    simp only [LP.persL, Bool.and_eq_true] at pa pb
    simp only [ltBL] at h1 h2
    have key : eqv x y = true → x = y := alk_eqv x y k.1 pa.1 pb.1
    have q : x = y := by
      by_cases e : eqv x y = true
      · exact key e
      · rw [if_neg e] at h1
        by_cases e' : eqv y x = true
        · by_cases z : x = y
          · exact z
          · exact alk_eq x y k.1 pa.1 pb.1 h1 (by
              have := alk_eqv' x y k.1 pa.1 pb.1 e'
              exact absurd this z)
        · rw [if_neg e'] at h2
          exact alk_eq x y k.1 pa.1 pb.1 h1 h2
    subst q
    have e := eqv_self x k.1
    rw [if_pos e] at h1 h2
    rw [alkL_eq a b k.2 pa.2 pb.2 h1 h2]
end
/-- one sorted list of the same items -/
theorem perm_one {α : Type} {le : α → α → Prop} : ∀ {l m : List α}, l.Perm m → l.Pairwise le → m.Pairwise le → (∀ a ∈ l, ∀ b ∈ l, le a b → le b a → a = b) → l = m
  | [], m, p, _, _, _ => (List.Perm.eq_nil p.symm).symm
  | x :: l, [], p, _, _, _ => absurd p.length_eq (by simp)
  | x :: l, y :: m, p, h1, h2, as => by
    have e : x = y := by
      rcases List.mem_cons.mp (p.mem_iff.mp (List.mem_cons_self (a := x) (l := l))) with e | hx
      · exact e
      · rcases List.mem_cons.mp (p.mem_iff.mpr (List.mem_cons_self (a := y) (l := m))) with e | hy
        · exact e.symm
        · exact as x List.mem_cons_self y (List.mem_cons_of_mem _ hy) ((List.pairwise_cons.mp h1).1 y hy) ((List.pairwise_cons.mp h2).1 x hx)
    subst e
    rw [perm_one p.cons_inv (List.pairwise_cons.mp h1).2 (List.pairwise_cons.mp h2).2 fun a ha b hb => as a (List.mem_cons_of_mem _ ha) b (List.mem_cons_of_mem _ hb)]
/-- what sorting asks of the items -/
structure SOk (ds : List D) : Prop where
  fl : flatNL ds 63 = true
  al : allAlk ds = true
  pe : LP.persL ds = true
theorem SOk.lt {ds : List D} (h : SOk ds) {a b : D} (ha : a ∈ ds) (hb : b ∈ ds) : ltB a b = dlt a b := (ltB_toP a b _ _ (flatL_mem h.fl a ha) (flatL_mem h.fl b hb) (alk_mem h.al ha hb)).symm
theorem SOk.one {ds : List D} (h : SOk ds) {a b : D} (ha : a ∈ ds) (hb : b ∈ ds) (h1 : dle a b) (h2 : dle b a) : a = b :=
  alk_eq a b (alk_mem h.al ha hb) (persL_mem h.pe a ha) (persL_mem h.pe b hb) ((h.lt ha hb).trans h2) ((h.lt hb ha).trans h1)
theorem insSort_perm (x : D) : ∀ ds : List D, (insSort x ds).Perm (x :: ds)
  | [] => .refl _
  | d :: ds => by
    simp only [insSort]
    split
    · exact ((insSort_perm x ds).cons d).trans (.swap x d ds)
    · exact .refl _
theorem sortD_perm : ∀ ds : List D, (sortD ds).Perm ds
  | [] => .refl _
  | d :: ds => (insSort_perm d (sortD ds)).trans ((sortD_perm ds).cons d)
theorem insSort_pw {l : List D} (h : SOk l) (x : D) (hx : x ∈ l) : ∀ ds : List D, (∀ d ∈ ds, d ∈ l) → ds.Pairwise dle → (insSort x ds).Pairwise dle
  | [], _, _ => List.pairwise_singleton _ _
  | d :: ds, hm, hp => by
    obtain ⟨p1, p2⟩ := List.pairwise_cons.mp hp
    simp only [insSort]
    split
    · rename_i c
      rw [h.lt (hm d List.mem_cons_self) hx] at c
      refine List.pairwise_cons.mpr ⟨fun e he => ?_, insSort_pw h x hx ds (fun e he => hm e (List.mem_cons_of_mem _ he)) p2⟩
      rcases List.mem_cons.mp ((insSort_perm x ds).mem_iff.mp he) with rfl | he
      · exact dle_of c
      · exact p1 e he
    · rename_i c
      rw [h.lt (hm d List.mem_cons_self) hx, Bool.not_eq_true] at c
      refine List.pairwise_cons.mpr ⟨fun e he => ?_, hp⟩
      rcases List.mem_cons.mp he with rfl | he
      · exact c
      · exact dle_tr c (p1 e he)
theorem sortD_pw {l : List D} (h : SOk l) : ∀ ds : List D, (∀ d ∈ ds, d ∈ l) → (sortD ds).Pairwise dle
  | [], _ => List.Pairwise.nil
  | d :: ds, hm => insSort_pw h d (hm d List.mem_cons_self) _ (fun e he => hm e (List.mem_cons_of_mem _ ((sortD_perm ds).mem_iff.mp he))) (sortD_pw h ds fun e he => hm e (List.mem_cons_of_mem _ he))
/-- sortD is the one sorted list -/
theorem sortD_one {ds l : List D} (h : SOk ds) (p : l.Perm ds) (w : l.Pairwise dle) : l = sortD ds :=
  perm_one (p.trans (sortD_perm ds).symm) w (sortD_pw h ds fun _ m => m) fun a ha b hb => h.one (p.mem_iff.mp ha) (p.mem_iff.mp hb)
end LPS

set_option autoImplicit false
set_option linter.all false
set_option maxRecDepth 100000
/-! sorted(xs) of lists and tuples -/
namespace LPS
open PySem PySem.Spec PyProof.Rows L2 LP
section
variable {prog : Program} {w : World} {A : Around} {E : Value → Shared → Prop} {s : Shared}
/-- a tuple's items are collected like a list's -/
theorem collect_tup {l : Addr} {vs : List Value} {Q : List Value → Shared → Prop} (hl : s.heap.IsTuple l vs.toArray)
    (h : Q vs { s with heap := (s.heap.push (seqObj "list" #[] 0)).update s.heap.objs.size (Obj.mapSeq (· ++ vs.toArray)) }) (hsz : vs.length ≤ sizeLine) :
    wpAny (model prog w) A (collect (.ref l)) Q E s := by
  obtain ⟨o, ho, hc, n, hd⟩ := id hl
  unfold collect
  refine wpAny_bind (wpAny_runValue (codeAny_builtin entry_proto_collect' ?_))
  show wpAny _ _ (do again (.builtin "list.__iadd__" ⟨[← newList [], .ref l], []⟩)) _ _ s
  refine wpAny_bind (wpAny_newList (wpAny_pure ⟨Code.quiet_builtin _ (by decide +kernel), codeAny_builtin entry_list_iadd' ?_⟩))
  show wpAny _ _ (Builtin.List.listExtendWith (.ref s.heap.objs.size) (.ref l) (.ref s.heap.objs.size)) _ _ { s with heap := s.heap.push (seqObj "list" #[] 0) }
  unfold Builtin.List.listExtendWith
  have ho' : (s.heap.push (seqObj "list" #[] 0)).get? l = some o := Heap.get?_push_of_some _ ho
  refine wpAny_bind (wpAny_typeOf (T := "tuple") ⟨o, ho', hc⟩ ?_)
  have ht : (Value.type "tuple" == Value.type "tuple") = true := by rfl
  rw [if_pos (by rw [ht]; simp)]
  refine wpAny_bind (listItems_at ho' hd ?_)
  refine wpAny_bind (listItems_at (xs := #[]) (n := 0) (Heap.get?_push_size _ rfl) rfl ?_)
  rw [if_neg (by simp)]
  refine wpAny_bind (listUpdate_at (xs := #[]) (n := 0) (Heap.get?_push_size _ rfl) rfl ?_ (Nat.zero_le _) (by show (#[] ++ vs.toArray).size ≤ sizeLine + 1; simp only [Array.size_append, List.size_toArray, List.length_nil]; omega))
  refine wpAny_pure ?_
  show wpAny (model prog w) A (do
      let o ← load s.heap.objs.size
      match o.data with
      | .seq xs _ => pure xs.toList
      | _ => unsupported "internal:collect") Q E { s with heap := (s.heap.push (seqObj "list" #[] 0)).update s.heap.objs.size (Obj.mapSeq (· ++ vs.toArray)) }
  refine wpAny_bind (wpAny_load (get?_update_seq (Heap.get?_push_size _ rfl) _) ?_)
  show wpAny _ _ (pure ((#[] : Array Value) ++ vs.toArray).toList) Q E _
  rw [show ((#[] : Array Value) ++ vs.toArray).toList = vs by simp]
  exact wpAny_pure h
/-- the collection that sorted makes -/
abbrev colHeap (h : Heap) (vs : List Value) : Heap := (h.push (seqObj "list" #[] 0)).update h.objs.size (Obj.mapSeq (· ++ vs.toArray))
def Collects (prog : Program) (w : World) (s : Shared) (x : Value) (vs : List Value) : Prop := ∀ (A : Around) (E : Value → Shared → Prop) (Q : List Value → Shared → Prop), Q vs { s with heap := colHeap s.heap vs } → wpAny (model prog w) A (collect x) Q E s
/-- sorted(x), x of such items -/
theorem sorted_gen {l : Addr} {vs : List Value} {Q : Value → Shared → Prop} (hl : Collects prog w s (.ref l) vs) (hL : vs.length ≤ sizeLine)
    (body : ∀ E' : Value → Shared → Prop, wpAny (model prog w) A.in1.in1 (Builtin.«list.sort» ⟨[.ref (s.heap.objs.size + 1)], []⟩) (fun f s' => f = .done (.ret .none) ∧ Q (.ref (s.heap.objs.size + 1)) s') E' { s with heap := PySem.W.copyHeap s.heap vs }) :
    wpAny (model prog w) A (call (.builtin "sorted") [.ref l]) Q E s := by
  refine Calls.call_function_entry kind_sorted plain_sorted entry_sorted (args_sorted1 _) ?_
  unfold Builtin.«sorted»
  refine wpAny_bind (m := checkCount "sorted" 1 1 _) (wpAny_pure ?_)
  refine wpAny_bind (hl _ _ _ ?_)
  refine wpAny_bind (wpAny_newList ?_ hL)
  have hsz : ((s.heap.push (seqObj "list" #[] 0)).update s.heap.objs.size (Obj.mapSeq (· ++ vs.toArray))).objs.size = s.heap.objs.size + 1 := by
    rw [Heap.size_update, size_push']
  show wpAny _ _ _ _ _ { s with heap := PySem.W.copyHeap s.heap vs }
  rw [hsz]
  refine wpAny_bind (wpAny_holding (wpAny_call_entry slot_list_sort ⟨_, PySem.W.copyHeap_at s.heap vs, rfl⟩ entry_list_sort ?body (args_list_sort _)))
  case body =>
    show wpAny (model prog w) A.in1.in1 (Builtin.«list.sort» ⟨[.ref (s.heap.objs.size + 1)], []⟩) _ _ _
    refine wpAny_mono (body _) (fun f s' hf => ?_) fun _ _ e => e
    obtain ⟨rfl, hq⟩ := hf
    exact ⟨_, rfl, wpAny_pure ⟨_, rfl, hq⟩⟩
open PySem.W in
/-- .. that are data -/
theorem sorted_gen_data {β : Type} {vs : List Value} {bs : List β} {enc : β → PyData} {R : Value → β → Prop} {l : Addr} {Q : Value → Shared → Prop} (hl : Collects prog w s (.ref l) vs) (e : EachIs R vs bs) (er : EachIs (fun v b => ∃ as, Reads s.heap v (enc b) as) vs bs) (hal : AllAlike (bs.map enc)) (hk : Sortable (bs.map enc)) (hL : bs.length ≤ sizeLine)
    (hu : ∀ b, b ∈ bs → A.units + 2 + (enc b).depth < cLine) (h : ∀ out, out.length = bs.length → EachIs R out (bs.mergeSort (dataLe false enc)) → Q (.ref (s.heap.objs.size + 1)) { s with heap := sortedAll s.heap vs (List.toArray out) }) :
    wpAny (model prog w) A (call (.builtin "sorted") [.ref l]) Q E s := by
  have er' : EachIs (fun v b => ∃ as, Reads (sortingHeap (copyHeap s.heap vs) (s.heap.objs.size + 1) vs) v (enc b) as) vs bs := er.mono fun _ _ ⟨as, r⟩ => ⟨as, PyProof.Rows.Reads.keeps (fun _ _ => sorting_copy_old) r⟩
  have hL' : vs.length ≤ sizeLine := by rw [e.length]; exact hL
  refine sorted_gen hl hL' fun E' => list_sort_vals (s := { s with heap := copyHeap s.heap vs }) (copyHeap_at s.heap vs) (SortsAt.data (s := { s with heap := sortingHeap (copyHeap s.heap vs) (s.heap.objs.size + 1) vs }) (each_map (R := fun v d => ∃ as, Reads (sortingHeap (copyHeap s.heap vs) (s.heap.objs.size + 1) vs) v d as) enc er') hal hk (bound_map (A := A.in1.in1) hu)) hL' ⟨rfl, ?_⟩
  exact h _ (by rw [sortVals_length false rfl]; exact e.length) (sortVals_data false e er' hal)
end
section
variable {g : Gk} {call : LP.Cll} {σ : L2.St} {F F1 F2 : AS} {H H1 H2 : Hp} {T T1 T2 R : AS} {X : Cx}
theorem rpL_zip : ∀ {ds : List D} {vs : List V} {T : AS}, LP.persL ds = true → RpL g F H ds vs T → ∀ p ∈ ds.zip vs, Rp g F H p.1 p.2 e0
  | [], vs, T, _, h, p, m => by simp at m
  | d :: ds, vs, T, hp, h, p, m => by
    simp only [LP.persL, Bool.and_eq_true] at hp
    simp only [RpL] at h
    obtain ⟨v, r, T1, T2, rfl, h1, h2, _⟩ := h
    rw [List.zip_cons_cons] at m
    rcases List.mem_cons.mp m with rfl | m
    · exact Rp.pers _ _ _ _ hp.1 h1
    · exact rpL_zip hp.2 h2 p m
theorem rpL_of : ∀ {L : List (D × V)}, (∀ p ∈ L, Rp g F H p.1 p.2 e0) → RpL g F H (L.map (·.1)) (L.map (·.2)) e0
  | [], _ => RpL.nil
  | p :: L, h => by
    have := RpL.cons (h p List.mem_cons_self) (rpL_of fun q m => h q (List.mem_cons_of_mem _ m)) (fun _ z => z.elim)
    exact this.mono fun b z => by rcases z with z | z <;> exact z
theorem sortOk_iff {ds : List D} (h : sortOk ds = true) : flatNL ds 63 = true ∧ allAlk ds = true ∧ ((∀ d ∈ ds, isTupC d = true) ∨ ∀ d ∈ ds, isTupN d = false) := by
  unfold sortOk flatL at h
  simp only [Bool.and_eq_true, Bool.or_eq_true, List.all_eq_true, Bool.not_eq_true'] at h
  exact ⟨h.1.1, h.1.2, h.2⟩
theorem sortable_toP {ds : List D} (hf : flatNL ds 63 = true) (h : (∀ d ∈ ds, isTupC d = true) ∨ ∀ d ∈ ds, isTupN d = false) : PySem.W.Sortable (ds.map toP) := by
  rcases h with h | h
  · refine .inl fun d hd => ?_
    obtain ⟨x, hx, rfl⟩ := List.mem_map.mp hd
    have := h x hx
    cases x <;> simp only [isTupC, Bool.false_eq_true] at this
    rename_i ts
    cases ts <;> simp only [isTupC, Bool.false_eq_true] at this
    exact ⟨_, _, rfl⟩
  · refine .inr fun d hd => ?_
    obtain ⟨x, hx, rfl⟩ := List.mem_map.mp hd
    have := h x hx
    have fx := flatL_mem hf x hx
    cases x <;> simp only [isTupN, Bool.true_eq_false] at this <;> first | (simp [flatN] at fx; done) | simp [toP]
theorem zip_vals {xs : List V} {us : List Value} (r : Vals xs us) : ∀ (ds : List D), ds.length = xs.length → PySem.W.EachIs (fun u (p : D × V) => RelV p.2 u) us (ds.zip xs) := by
  induction r with
  | nil => intro ds h; rw [List.zip_nil_right]; exact .nil
  | cons q _ ih =>
    intro ds h
    cases ds with
    | nil => simp at h
    | cons d ds =>
      rw [List.zip_cons_cons]
      exact .cons q (ih ds (by simpa using h))
theorem vals_each {out : List Value} {L : List (D × V)} (h : PySem.W.EachIs (fun u (p : D × V) => RelV p.2 u) out L) : Vals (L.map (·.2)) out := by
  induction h with
  | nil => exact .nil
  | cons q _ ih => exact .cons q ih
theorem sort_pairs {ds : List D} (h : SOk ds) {vs : List V} (hl : ds.length = vs.length) :
    ((ds.zip vs).mergeSort (PySem.W.dataLe false fun p => toP p.1)).map (·.1) = sortD ds ∧ ∀ p ∈ (ds.zip vs).mergeSort (PySem.W.dataLe false fun p => toP p.1), p ∈ ds.zip vs := by
  have pm := List.mergeSort_perm (ds.zip vs) (PySem.W.dataLe false fun p => toP p.1)
  refine ⟨sortD_one h ?_ ?_, fun p m => pm.mem_iff.mp m⟩
  · have := pm.map (·.1)
    rwa [List.map_fst_zip (by omega)] at this
  · have tl := PySem.W.sortLe_total (PyProof.Rows.listOrd PyProof.Rows.itemOrd) false (fun p : D × V => PySem.W.keyToks (toP p.1))
    have := List.pairwise_mergeSort (le := PySem.W.dataLe false fun p : D × V => toP p.1) (fun a b c => tl.trans a b c) (fun a b => by have := tl.total a b; rw [Bool.or_eq_true]; exact this) (ds.zip vs)
    refine List.pairwise_map.mpr (this.imp fun {a b} q => ?_)
    rw [PySem.W.dataLe_eq] at q
    simpa [dle, dlt] using q
/-- sorted(a list or tuple) -/
def rSortS (g : Gk) : List V → Hp → VK → Prop := fun vs H Q => ∃ F x es, RdL g F H [x] vs ∧ seqOf x = some es ∧ sortOk es = true ∧ (∀ b, F b → H b ≠ none) ∧ ∀ v H', NewV g F H (.lst true (sortD es)) v H' → Q v H'
theorem cr_sortedS (K : X.K = g.K) (hu : X.A.units + 66 < cLine) : CallR X (.builtin "sorted") (rSortS g) := by
  rintro pins s σ H xs us Q I r ⟨F, x, es, rd, hs, hk, hF, q⟩
  obtain ⟨v, U, rfl, r1⟩ := rdl1 rd
  obtain ⟨a, vs, its, rfl, hp, rr, rv, col, hz⟩ : ∃ a vs its, v = .ref a ∧ LP.persL es = true ∧ RpL g F H es vs e0 ∧ Vals vs its ∧ Collects X.prog X.w s (.ref a) its ∧ its.length ≤ sizeLine := by
    cases x <;> simp only [seqOf, reduceCtorEq] at hs
    all_goals
      split at hs
      · rename_i hp
        cases hs
        first
        | obtain ⟨a, vs, rfl, ha, rr⟩ := rp_tup r1
          obtain ⟨its, rv, hl, hz⟩ := I.tuple (SqT.of ha)
          exact ⟨a, vs, its, rfl, hp, rr, rv, fun A E Q hq => collect_tup (by obtain ⟨o, h1, h2, n, h3⟩ := hl; exact ⟨o, h1, h2, n, h3⟩) hq (by rw [← rv.length]; exact hz), by rw [← rv.length]; exact hz⟩
        | obtain ⟨a, vs, W, rfl, ha, rr⟩ := rp_lst r1
          obtain ⟨its, rv, hl, hz⟩ := I.list (SqL.of ha)
          exact ⟨a, vs, its, rfl, hp, RpL.of_all hp rr, rv, fun A E Q hq => collect_list hl.isList hq (by rw [← rv.length]; exact hz), by rw [← rv.length]; exact hz⟩
      · cases hs
  obtain ⟨hf, hal, hks⟩ := sortOk_iff hk
  have hS : SOk es := ⟨hf, hal, hp⟩
  have hlen : es.length = vs.length := rr.length
  have hlen2 : vs.length = its.length := rv.length
  rw [Vals.ref1 r]
  have em : (es.zip vs).map (fun p => toP p.1) = es.map toP := by
    have : (es.zip vs).map (fun p => toP p.1) = ((es.zip vs).map (·.1)).map toP := by rw [List.map_map]; rfl
    rw [this, List.map_fst_zip (by omega)]
  have eb : PySem.W.EachIs (fun u (p : D × V) => RelV p.2 u) its (es.zip vs) := zip_vals rv es hlen
  have hzl : (es.zip vs).length = its.length := by rw [List.length_zip]; omega
  refine sorted_gen_data (bs := es.zip vs) (enc := fun p => toP p.1) (R := fun u (p : D × V) => RelV p.2 u) col eb ?_ ?_ ?_ (by rw [hzl]; exact hz) ?_ fun out ho eo => ?_
  · refine (PySem.W.EachIs.of_zip hzl.symm fun p m => ?_ : PySem.W.EachIs (fun u (p : D × V) => ∃ as, Reads s.heap u (toP p.1) as) its (es.zip vs))
    have h1 := eb.zip p m
    have h2 : p.2 ∈ es.zip vs := (List.of_mem_zip m).2
    have h3 := rpL_zip hp rr _ h2
    exact Dp.reads I _ _ _ (K ▸ flat_dp p.2.1 63 _ _ (flatL_mem hf _ (List.of_mem_zip h2).1) h3) h1
  · rw [em]
    intro d hd d' hd'
    obtain ⟨x, hx, rfl⟩ := List.mem_map.mp hd
    obtain ⟨y, hy, rfl⟩ := List.mem_map.mp hd'
    rw [alk_toP x y 63 63 (flatL_mem hf x hx) (flatL_mem hf y hy)]
    exact alk_mem hal hx hy
  · rw [em]
    exact sortable_toP hf hks
  · intro p m
    have := (flat_lay p.1 63 (flatL_mem hf _ (List.of_mem_zip m).1)).2
    show X.A.units + 2 + (toP p.1).depth < cLine
    omega
  · obtain ⟨e1, e2⟩ := sort_pairs hS hlen
    obtain ⟨ep, he'⟩ := PyProof.Rows.sortedAll_at s.heap its out.toArray
    have rv' := vals_each eo
    have hl' : (((es.zip vs).mergeSort (PySem.W.dataLe false fun p => toP p.1)).map (·.2)).length ≤ sizeLine := by
      rw [rv'.length, ho, hzl]; exact hz
    have rp' : RpL g F H (sortD es) (((es.zip vs).mergeSort (PySem.W.dataLe false fun p => toP p.1)).map (·.2)) e0 := by
      rw [← e1]
      exact rpL_of fun p m => rpL_zip hp rr p (e2 p m)
    exact ⟨.ref _, upd H (s.heap.objs.size + 1) (.lst (((es.zip vs).mergeSort (PySem.W.dataLe false fun p => toP p.1)).map (·.2))), I.laid (t' := s.toks) (fun _ _ => PyProof.Rows.sortedAll_old) (Nat.le_succ _) ⟨hl', out, ep, rv', he'⟩, rfl, q _ _ (new_lst hF (I.hok.fresh (Nat.le_succ _)) rp')⟩
end
end LPS

set_option autoImplicit false
set_option linter.all false
set_option maxRecDepth 100000
set_option maxHeartbeats 4000000
/-! sets whose members are tuples of any shape: how they are made (the road of HandS.TupSets, for any kind of keys) -/
namespace LPS
open PySem PySem.Spec PyProof.Rows L2
/-- a kind of tuples that may stand in a set -/
structure SKd (P : Program) (w : World) (κ : Type) [DecidableEq κ] extends HeapKind P w κ where
  keepS : ∀ {h h' : Heap} {k : κ} {b d : Addr} {o : Obj} {es : Array (Int × Value)} {ep : Nat} {t : SetTable}, is h k b → h.get? d = some o → o.data = .set es ep t → Heap.SameBut d h h' → is h' k b
  grow : ∀ {h h' : Heap} {k : κ} {b : Addr}, is h k b → (∀ c o, h.get? c = some o → h'.get? c = some o) → is h' k b
  cls : ∀ {A : Around} {E : Value → Shared → Prop} {s : Shared} {k : κ} {b : Addr} {Q : Bool → Shared → Prop}, is s.heap k b → Q false s → wpAny (model P w) A (ofAClassStatement 8 (.ref b)) Q E s
  hby : ∀ {A : Around} {E : Value → Shared → Prop} {s : Shared} {k : κ} {b : Addr} {Q : Bool → Shared → Prop}, is s.heap k b → (∀ r, Q r s) → wpAny (model P w) A (hashByValue 8 (.ref b)) Q E s
section
variable {P : Program} {w : World} {A : Around} {E : Value → Shared → Prop} {s : Shared} {κ : Type} [DecidableEq κ] {kd : SKd P w κ}
/-- a search among such shows nothing -/
theorem seenK (kd : SKd P w κ) {k : κ} {b : Addr} {Q : Bool → Shared → Prop} (hk : kd.is s.heap k b) {ys : List Value} (hy : ∀ y ∈ ys, ∃ k' c, y = Value.ref c ∧ kd.is s.heap k' c) (h : Q false s) :
    wpAny (model P w) A (searchCouldBeSeen (.ref b) ys) Q E s := by
  unfold searchCouldBeSeen
  refine wpAny_bind ?_
  refine wpAny_forIn_list _ (fun rest r s' => r.1 = none ∧ s' = s ∧ ∀ y ∈ rest, ∃ k' c, y = Value.ref c ∧ kd.is s.heap k' c) _ ?_ ?_ _ _ ⟨rfl, rfl, hy⟩
  · rintro v rest r s' ⟨hr, rfl, hall⟩
    obtain ⟨k', c, rfl, hc⟩ := hall v List.mem_cons_self
    have rest' : ∀ y ∈ rest, ∃ k' c, y = Value.ref c ∧ kd.is s'.heap k' c := fun u hu' => hall u (List.mem_cons_of_mem _ hu')
    dsimp only
    by_cases hv : (b == c || (carriedByValue (.ref b) && carriedByValue (.ref c))) = true
    · refine wp_if_pos hv ?_
      exact wpAny_pure ⟨rfl, rfl, rest'⟩
    · refine wp_if_neg hv ?_
      refine wpAny_bind (kd.quiet hk ?_)
      simp only [Bool.not_true, Bool.false_eq_true, if_false]
      refine wpAny_bind (kd.quiet hc ?_)
      simp only [Bool.not_true, Bool.false_eq_true, if_false]
      refine wpAny_bind (kd.cls hk ?_)
      simp only [Bool.false_eq_true, if_false]
      refine wpAny_bind (kd.cls hc ?_)
      simp only [Bool.false_eq_true, if_false]
      exact wpAny_pure ⟨rfl, rfl, rest'⟩
  · rintro ⟨r1, r2⟩ s' ⟨hr, rfl, _⟩
    simp only at hr
    subst hr
    exact wpAny_pure h
def rowsK (kd : SKd P w κ) (L : List (Addr × κ)) : List (Int × Value) := L.map fun p => (kd.hash p.2, Value.ref p.1)
structure STR (kd : SKd P w κ) (h : Heap) (a : Addr) (L : List (Addr × κ)) (es : Array (Int × Value)) (ep : Nat) (t : SetTable) : Prop where
  ob : ∃ o, h.get? a = some o ∧ o.ExactSet ∧ o.data = .set es ep t
  rows : es.toList = rowsK kd L
  tab : TabOk t (L.map fun p => kd.hash p.2)
  nd : (L.map (·.2)).Nodup
  tup : ∀ p ∈ L, kd.is h p.2 p.1
  led : w.params.followText "set-order" = true ∨ t.led = true
  room : L.length * 5 < t.mask * 3
  few : L.length < 64
variable {a : Addr} {L : List (Addr × κ)} {es : Array (Int × Value)} {ep : Nat} {t : SetTable}
theorem STR.size (R : STR kd s.heap a L es ep t) : es.size = L.length := by
  have h := congrArg List.length R.rows
  unfold rowsK at h
  rw [Array.length_toList, List.length_map] at h
  exact h
theorem STR.fits (R : STR kd s.heap a L es ep t) : t.fits es.size = true := by
  have h1 := R.tab.sz
  rw [List.length_map] at h1
  have h2 := R.size
  have h3 := R.room
  unfold SetTable.fits SetTable.fill
  rw [R.tab.dm, Bool.and_eq_true, beq_iff_eq, decide_eq_true_eq]
  show t.place.size = es.size ∧ t.place.size + 0 ≤ t.mask
  omega
theorem STR.entry (R : STR kd s.heap a L es ep t) {i : Nat} {p : Addr × κ} (h : L[i]? = some p) : es[i]? = some (kd.hash p.2, Value.ref p.1) := by
  rw [← Array.getElem?_toList, R.rows]
  unfold rowsK
  rw [List.getElem?_map, h] <;> rfl
theorem STR.gw (R : STR kd s.heap a L es ep t) : ¬ t.gaveWay = true := by
  unfold SetTable.gaveWay
  rw [mask_odd R.tab.mok]
  decide
theorem sameMem (t : SetTable) : t.sameMemory t.moves t.mask = some true := by
  unfold SetTable.sameMemory
  rw [if_pos (beq_self_eq_true _)]

/-- THE SEARCH: from the c-th step of the way on -/
theorem searchK_from (R : STR kd s.heap a L es ep t) {x : Addr} {k : κ} (hx : kd.is s.heap k x) (hu : kd.room A) {K : Nat} (hKf : K < 10 * SetTable.turns t.mask)
    (hK : way t.mask (kd.hash k) K ∉ t.place.toList) (hKb : ∀ c, c < K → way t.mask (kd.hash k) c ∈ t.place.toList) {Q : SetFound → Shared → Prop}
    (hin : k ∈ L.map (·.2) → Q (.there none) s) (hout : k ∉ L.map (·.2) → Q (.free (way t.mask (kd.hash k) K) false) s) :
    ∀ (f c : Nat) (stand : Option SetTable.Probe), stand.getD (t.probeStart (kd.hash k)) = nth t.mask (runAt t.mask (SetTable.bits (kd.hash k) % (t.mask + 1)) (SetTable.bits (kd.hash k))) c → c ≤ K → K - c < f →
      (∀ (i : Nat) p, L[i]? = some p → p.2 = k → ∃ c', c ≤ c' ∧ c' < K ∧ t.place.toList[i]? = some (way t.mask (kd.hash k) c')) →
      wpAny (model P w) A (setSearchFrom a (.ref x) (kd.hash k) true f stand) Q E s
  | 0, c, stand, _, _, hf, _ => absurd hf (Nat.not_lt_zero _)
  | f + 1, c, stand, hst, hc, hf, hre => by
    obtain ⟨o, ho, hex, hd⟩ := R.ob
    rw [setSearchFrom_succ]
    refine wpAny_bind (wpAny_setState_of ho hd R.fits ?_)
    dsimp only
    refine wp_if_neg R.gw ?_
    try refine wpAny_bind (wpAny_pure ?_)
    have hnd : (nth t.mask (runAt t.mask (SetTable.bits (kd.hash k) % (t.mask + 1)) (SetTable.bits (kd.hash k))) c).dummy = none := by
      have key : ∀ (n : Nat) (p : SetTable.Probe), p.dummy = none → (nth t.mask p n).dummy = none := by
        intro n
        induction n with
        | zero => intro p h; exact h
        | succ n ih =>
          intro p h
          refine ih (adv t.mask p) ?_
          unfold adv
          split <;> exact h
      exact key c _ rfl
    have sh : ∀ q, nth t.mask (nth t.mask (runAt t.mask (SetTable.bits (kd.hash k) % (t.mask + 1)) (SetTable.bits (kd.hash k))) c) q = nth t.mask (runAt t.mask (SetTable.bits (kd.hash k) % (t.mask + 1)) (SetTable.bits (kd.hash k))) (c + q) := fun q => (nth_add t.mask c _ q).symm
    have e1 : ∀ q, (nth t.mask (nth t.mask (runAt t.mask (SetTable.bits (kd.hash k) % (t.mask + 1)) (SetTable.bits (kd.hash k))) c) q).j = way t.mask (kd.hash k) (c + q) := fun q => congrArg SetTable.Probe.j (sh q)
    have spec := go_spec t R.tab.ris R.tab.dm (fun i => (es[i]?.map (·.1)).getD 0) (kd.hash k) (10 * SetTable.turns t.mask) (K - c) _ hnd (by omega)
      (fun q hq => by rw [e1]; exact hKb (c + q) (by omega)) (by rw [e1, show c + (K - c) = K by omega]; exact hK)
    have hashAt : ∀ (i : Nat) p, L[i]? = some p → (fun i => (es[i]?.map (·.1)).getD 0) i = kd.hash p.2 := fun i p hp => by
      show (es[i]?.map (·.1)).getD 0 = _
      rw [R.entry hp] <;> rfl
    rcases spec with ⟨q, i, hq, hi, hh, hno, hpr⟩ | ⟨hno, hpr⟩
    · -- a candidate
      have hpr' : t.probe (fun i => (es[i]?.map (·.1)).getD 0) (kd.hash k) (stand.getD (t.probeStart (kd.hash k))) = some (.candidate (way t.mask (kd.hash k) (c + q)) i (nth t.mask (runAt t.mask (SetTable.bits (kd.hash k) % (t.mask + 1)) (SetTable.bits (kd.hash k))) (c + (q + 1)))) := by
        rw [hst, ← e1, ← sh]
        exact hpr
      rw [hpr']
      dsimp only
      rw [e1] at hi
      -- the entry
      have hil : i < L.length := by
        have h1 : i < t.place.toList.length := (List.getElem?_eq_some_iff.mp hi).1
        have h2 := R.tab.sz
        rw [List.length_map] at h2
        rw [Array.length_toList] at h1
        omega
      have hp : L[i]? = some L[i] := List.getElem?_eq_getElem hil
      generalize hpe : L[i] = p at hp
      have hmem : p ∈ L := List.mem_of_getElem? hp
      have hpt := R.tup p hmem
      have rest : wpAny (model P w) A (searchRest a (.ref x) (kd.hash k) true f es t (way t.mask (kd.hash k) (c + q)) i (nth t.mask (runAt t.mask (SetTable.bits (kd.hash k) % (t.mask + 1)) (SetTable.bits (kd.hash k))) (c + (q + 1)))) Q E s := by
        unfold searchRest
        rw [R.entry hp]
        dsimp only
        refine wpAny_bind (wpAny_holding (kd.eqBool hu hpt hx ?_))
        refine wpAny_bind (wpAny_setState_of ho hd R.fits ?_)
        dsimp only
        by_cases hkk : p.2 = k
        · refine wp_if_pos (by simp [hkk]) ?_
          refine wpAny_pure (hin ?_)
          exact List.mem_map.mpr ⟨p, hmem, hkk⟩
        · refine wp_if_neg (by simp [hkk]) ?_
          try refine wpAny_bind (wpAny_pure ?_)
          rw [sameMem]
          dsimp only
          have hsl : t.slot (way t.mask (kd.hash k) (c + q)) = .live i := slot_live R.tab.ris hi
          simp only [if_true, hsl, R.entry hp]
          refine wpAny_bind (wpAny_isSame_ref_self (wpAny_bind (wpAny_pure ?_)))
          simp only [if_true]
          refine wp_if_neg (by simp [hkk]) ?_
          refine searchK_from R hx hu hKf hK hKb hin hout f (c + (q + 1)) _ rfl (by omega) (by omega) fun i0 p0 h0 hk0 => ?_
          obtain ⟨c', a1, a2, a3⟩ := hre i0 p0 h0 hk0
          refine ⟨c', ?_, a2, a3⟩
          -- it isn't passed
          rcases Nat.lt_or_ge c' (c + q) with z | z
          · exfalso
            refine hno (c' - c) i0 (by omega) (by rw [e1, show c + (c' - c) = c' by omega]; exact a3) ?_
            exact (hashAt i0 p0 h0).trans (congrArg (kd.hash) hk0)
          · rcases Nat.lt_or_ge (c + q) c' with y | y
            · omega
            · exfalso
              have ec : c' = c + q := Nat.le_antisymm y z
              rw [ec] at a3
              have s0 := slot_live R.tab.ris a3
              rw [hsl] at s0
              injection s0 with s0
              rw [← s0, hp] at h0
              exact hkk ((congrArg Prod.snd (Option.some.inj h0)).trans hk0)
      by_cases hl : t.led = true
      · refine wp_if_neg (by simp [hl]) ?_
        try refine wpAny_bind (wpAny_pure ?_)
        exact rest
      · refine wp_if_pos (by simp [hl]) ?_
        refine wpAny_bind (seenK kd hx (fun y hy => ?_) ?_)
        · obtain ⟨e, he, ee⟩ := List.mem_map.mp hy
          have he1 : e ∈ es ∧ e.1 = kd.hash k := by simpa using he
          have he2 : e ∈ es.toList := by simpa using he1.1
          rw [R.rows] at he2
          obtain ⟨p2, hp2, e2⟩ := List.mem_map.mp he2
          refine ⟨p2.2, p2.1, ?_, R.tup p2 hp2⟩
          rw [← ee, ← e2]
        · refine wp_if_neg (by decide) ?_
          try refine wpAny_bind (wpAny_pure ?_)
          exact rest
    · -- the empty slot
      have hpr' : t.probe (fun i => (es[i]?.map (·.1)).getD 0) (kd.hash k) (stand.getD (t.probeStart (kd.hash k))) = some (.empty (way t.mask (kd.hash k) K) none) := by
        have e2 : way t.mask (kd.hash k) K = (nth t.mask (nth t.mask (runAt t.mask (SetTable.bits (kd.hash k) % (t.mask + 1)) (SetTable.bits (kd.hash k))) c) (K - c)).j := by
          rw [e1, show c + (K - c) = K by omega]
        rw [hst, e2]
        exact hpr
      rw [hpr']
      dsimp only
      refine wpAny_pure (hout fun hm => ?_)
      obtain ⟨p0, h0, hk0⟩ := List.mem_map.mp hm
      obtain ⟨i0, hi0, e0⟩ := List.getElem_of_mem h0
      have h00 : L[i0]? = some p0 := by rw [List.getElem?_eq_getElem hi0, e0]
      obtain ⟨c', a1, a2, a3⟩ := hre i0 p0 h00 hk0
      refine hno (c' - c) i0 (by omega) (by rw [e1, show c + (c' - c) = c' by omega]; exact a3) ?_
      exact (hashAt i0 p0 h00).trans (congrArg (kd.hash) hk0)

/-- the search as adding asks for it -/
theorem searchK_at (R : STR kd s.heap a L es ep t) {x : Addr} {k : κ} (hx : kd.is s.heap k x) (hu : kd.room A) {Q : SetFound → Shared → Prop}
    (hin : k ∈ L.map (·.2) → Q (.there none) s)
    (hout : ∀ K, k ∉ L.map (·.2) → way t.mask (kd.hash k) K ∉ t.place.toList → (∀ c, c < K → way t.mask (kd.hash k) c ∈ t.place.toList) → Q (.free (way t.mask (kd.hash k) K) false) s) :
    wpAny (model P w) A (setSearch a (.ref x) (kd.hash k) true) Q E s := by
  have hroom := R.room
  obtain ⟨K, hKf, hK, hKb⟩ := R.tab.first (by rw [List.length_map]; omega) (kd.hash k)
  have hbig : K < 100000 := by
    have : 10 * SetTable.turns t.mask ≤ 1420 := by
      unfold SetTable.turns
      rcases R.tab.mok with e | e | e <;> omega
    omega
  unfold setSearch
  refine searchK_from R hx hu hKf hK hKb hin (fun hn => hout K hn hK hKb) 100000 0 none rfl (Nat.zero_le _) (by omega) fun i p hp hk => ?_
  have hi : (L.map fun p => kd.hash p.2)[i]? = some (kd.hash k) := by rw [List.getElem?_map, hp, ← hk] <;> rfl
  have hil : i < t.place.toList.length := by
    have h1 : i < L.length := (List.getElem?_eq_some_iff.mp hp).1
    have h2 := R.tab.sz
    rw [List.length_map] at h2
    rw [Array.length_toList]
    omega
  have hj := List.getElem?_eq_getElem hil
  obtain ⟨c, hc, e⟩ := R.tab.before hK hi hj
  exact ⟨c, Nat.zero_le _, hc, by rw [hj, e]⟩
theorem rowsK_put (L : List (Addr × κ)) (p : Nat) (x : Addr) (k : κ) : rowsK kd (L.take p ++ (x, k) :: L.drop p) = (rowsK kd L).take p ++ (kd.hash k, Value.ref x) :: (rowsK kd L).drop p := by
  unfold rowsK
  rw [List.map_append, List.map_cons, List.map_take, List.map_drop]
theorem put_perm {α : Type} (L : List α) (p : Nat) (x : α) : (L.take p ++ x :: L.drop p).Perm (x :: L) := by
  have h : (L.take p ++ x :: L.drop p).Perm (x :: (L.take p ++ L.drop p)) := List.perm_middle
  rw [List.take_append_drop] at h
  exact h
theorem orderK_rows (L : List (Addr × κ)) (es : Array (Int × Value)) (order : Array Nat) (hr : es.toList = rowsK kd L) (hp : order.toList.Perm (List.range L.length)) :
    ∃ L2, (order.filterMap (es[·]?)).toList = rowsK kd L2 ∧ L2.Perm L ∧ (L2.map fun p => kd.hash p.2) = order.toList.map fun i => (es.map (·.1)).getD i 0 := by
  have hsz : es.size = L.length := by
    have h := congrArg List.length hr
    unfold rowsK at h
    rw [Array.length_toList, List.length_map] at h
    exact h
  have ent : ∀ i (h : i < L.length), es[i]? = some (kd.hash (L[i]).2, Value.ref (L[i]).1) := fun i h => by
    rw [← Array.getElem?_toList, hr]
    unfold rowsK
    rw [List.getElem?_map, List.getElem?_eq_getElem h] <;> rfl
  have key : ∀ l : List Nat, (∀ i ∈ l, i < L.length) → ∃ L2 : List (Addr × κ), l.filterMap (fun i => es[i]?) = rowsK kd L2 ∧ L2 = l.filterMap (fun i => L[i]?) ∧ (L2.map fun p => kd.hash p.2) = l.map fun i => (es.map (·.1)).getD i 0 := by
    intro l
    induction l with
    | nil => intro _; exact ⟨[], rfl, rfl, rfl⟩
    | cons i l ih =>
      intro hl
      have hi := hl i List.mem_cons_self
      obtain ⟨L2, e1, e2, e3⟩ := ih fun j hj => hl j (List.mem_cons_of_mem _ hj)
      refine ⟨L[i] :: L2, ?_, ?_, ?_⟩
      · rw [List.filterMap_cons_some (ent i hi), e1] <;> rfl
      · rw [List.filterMap_cons_some (List.getElem?_eq_getElem hi), e2]
      · rw [List.map_cons, List.map_cons, e3]
        have hi2 : i < (es.map (·.1)).size := by rw [Array.size_map, hsz]; exact hi
        have e4 : (es.map (·.1)).getD i 0 = kd.hash (L[i]).2 := by
          have e5 : (es.map (·.1))[i]? = some (kd.hash (L[i]).2) := by rw [Array.getElem?_map, ent i hi] <;> rfl
          simp [Array.getD_eq_getD_getElem?, e5]
        rw [e4]
  obtain ⟨L2, e1, e2, e3⟩ := key order.toList fun i hi => List.mem_range.mp (hp.mem_iff.mp hi)
  refine ⟨L2, by first | (rw [Array.toList_filterMap]; exact e1) | simpa using e1, ?_, e3⟩
  have h1 : L2.Perm ((List.range L.length).filterMap fun i => L[i]?) := by
    rw [e2]
    exact hp.filterMap _
  have h2 : (List.range L.length).filterMap (fun i => L[i]?) = L := by
    have key2 : ∀ n, n ≤ L.length → (List.range n).filterMap (fun i => L[i]?) = L.take n := by
      intro n
      induction n with
      | zero => intro _; rfl
      | succ n ih =>
        intro hn
        have hlt : n < L.length := hn
        rw [List.range_succ, List.filterMap_append, ih (Nat.le_of_lt hlt), List.take_succ, List.getElem?_eq_getElem hlt]
        rw [List.filterMap_cons_some (List.getElem?_eq_getElem hlt)] <;> rfl
    rw [key2 L.length (Nat.le_refl _), List.take_length]
  rw [h2] at h1
  exact h1


/-- the table laid anew, larger -/
theorem relayK_at {o : Obj} (ho : s.heap.get? a = some o) (hex : o.ExactSet) (hd : o.data = .set es ep t) (hrows : es.toList = rowsK kd L) (hsz : t.place.size = es.size) (hdm : t.dummies = #[]) (hfl : es.size ≤ t.mask)
    (nd : (L.map (·.2)).Nodup) (tup : ∀ p ∈ L, kd.is s.heap p.2 p.1) (ld : w.params.followText "set-order" = true ∨ t.led = true) (few : L.length < 64) {wanted M : Nat}
    (hw : SetTable.sizeAbove wanted - 1 = M) (hM : MaskOk M) (hw2 : SetTable.sizeAbove wanted ≤ 128) (hn : L.length * 5 < M * 3) {Q : Unit → Shared → Prop}
    (hQ : ∀ h' L' es' ep' t', Heap.SameBut a s.heap h' → STR kd h' a L' es' ep' t' → L'.Perm L → Q () { s with heap := h' }) : wpAny (model P w) A (setRelay a wanted) Q E s := by
  have hsl : es.size = L.length := by
    have h := congrArg List.length hrows
    unfold rowsK at h
    rw [Array.length_toList, List.length_map] at h
    exact h
  have hfits : t.fits es.size = true := by
    unfold SetTable.fits SetTable.fill
    rw [hdm, Bool.and_eq_true, beq_iff_eq, decide_eq_true_eq]
    show t.place.size = es.size ∧ t.place.size + 0 ≤ t.mask
    omega
  obtain ⟨t', order, e, hp, T, em, el, ep', ed⟩ := relaid_ok t (hs := es.map (·.1)) (wanted := wanted) hw hM (by rw [Array.size_map, hsl]; omega)
  rw [Array.size_map, hsl] at hp
  obtain ⟨L2, r1, r2, r3⟩ := orderK_rows L es order hrows hp
  rw [← r3] at T
  have hs2 : (order.filterMap (es[·]?)).size = es.size := by
    have h := congrArg List.length r1
    unfold rowsK at h
    rw [Array.length_toList, List.length_map, r2.length_eq] at h
    rw [h, hsl]
  rw [setRelay_eq]
  refine wpAny_bind (wpAny_setState_of ho hd hfits ?_)
  dsimp only
  refine wp_if_neg (by rw [sizeLine_eq]; omega) ?_
  try refine wpAny_bind (wpAny_pure ?_)
  rw [e]
  dsimp only
  refine wpAny_bind ?_
  refine wp_if_neg (by rw [hs2]; simp) ?_
  try refine wpAny_bind (wpAny_pure ?_)
  refine wpAny_pure ?_
  dsimp only
  refine wpAny_storeSet_of ho hd ?_ (by rw [hs2, hsl, sizeLine_eq]; omega)
  have sb : Heap.SameBut a s.heap (s.heap.update a (Obj.putSet (order.filterMap (es[·]?)) t')) := Heap.SameBut.update ..
  refine hQ _ L2 (order.filterMap (es[·]?)) (ep + 1) t' sb ?_ r2
  refine ⟨⟨_, store_at ho hd, ⟨hex.1, hex.2.1, hex.2.2⟩, rfl⟩, r1, T, ?_, fun p hpm => kd.keepS (tup p (r2.mem_iff.mp hpm)) ho hd sb, by rw [el]; exact ld, ?_, by rw [r2.length_eq]; exact few⟩
  · exact (r2.map (·.2)).nodup_iff.mpr nd
  · rw [r2.length_eq, em]
    exact hn

theorem TabOk.of_same {t t' : SetTable} {hs : List Int} (T : TabOk t hs) (h1 : t'.place = t.place) (h2 : t'.dummies = t.dummies) (h3 : t'.mask = t.mask) : TabOk t' hs :=
  ⟨by rw [h1]; exact T.ris, by rw [h2]; exact T.dm, by rw [h1]; exact T.sz, by rw [h3]; exact T.mok, by rw [h1, h3]; exact T.bd, by rw [h1, h3]; exact T.reach⟩
/-- ADDING -/
theorem addK_at (R : STR kd s.heap a L es ep t) {x : Addr} {k : κ} (hx : kd.is s.heap k x) (hu : kd.room A) (hfew : k ∉ L.map (·.2) → L.length + 1 < 64) {Q : Bool → Shared → Prop}
    (hQ : ∀ b h' L' es' ep' t', Heap.SameBut a s.heap h' → STR kd h' a L' es' ep' t' → (k ∈ L.map (·.2) → L' = L) → (k ∉ L.map (·.2) → L'.Perm ((x, k) :: L)) → Q b { s with heap := h' }) :
    wpAny (model P w) A (setAddHashed a (.ref x) (kd.hash k)) Q E s := by
  obtain ⟨o, ho, hex, hd⟩ := R.ob
  have hsl := R.size
  have hroom := R.room
  unfold setAddHashed
  refine wpAny_holding ?_
  rw [show (100000 : Nat) = 99999 + 1 from rfl, setAddHashedIn_succ]
  refine wpAny_bind (wpAny_setState_of ho hd R.fits ?_)
  dsimp only
  refine wp_if_neg (by simp [byScan, Value.scannable]) ?_
  try refine wpAny_bind (wpAny_pure ?_)
  refine wpAny_bind (searchK_at R hx hu (fun hm => ?_) fun K hm hK hb => ?_)
  · dsimp only
    exact wpAny_pure (hQ false s.heap L es ep t (Heap.SameBut.refl a s.heap) R (fun _ => rfl) fun z => absurd hm z)
  · have hfew := hfew hm
    dsimp only
    refine wpAny_bind (wpAny_setState_of ho hd R.fits ?_)
    dsimp only
    obtain ⟨q1, q2, q3, q4, q5, q6, q7, q8, q9⟩ := R.tab.put hK hb
    generalize hpt : t.put (way t.mask (kd.hash k) K) = pt at q1 q3 q4 q5 q6 q7 q8 q9 ⊢
    obtain ⟨t1, p⟩ := pt
    dsimp only at q1 q3 q4 q5 q6 q7 q8 q9 ⊢
    subst q1
    have main : ∀ t2 : SetTable, t2.place = t1.place → t2.dummies = t1.dummies → t2.mask = t1.mask → t2.led = t1.led →
        wpAny (model P w) A (storeSet a (SetTable.insertAt es (SetTable.below t.place (way t.mask (kd.hash k) K)) (kd.hash k, Value.ref x)) t2 >>= fun _ =>
          if (!false && t2.tooFull) = true then (setRelay a (SetTable.grown (es.size + 1)) >>= fun _ => pure true) else pure true) Q E s := by
      intro t2 w1 w2 w3 w4
      have q3 := TabOk.of_same q3 w1 w2 w3
      have q4 : t2.mask = t.mask := w3.trans q4
      have q5 : t2.led = t.led := w4.trans q5
      have q9 : t2.fill = (L.map fun p => kd.hash p.2).length + 1 := by rw [← q9]; unfold SetTable.fill; rw [w1, w2]
      have hin : (SetTable.insertAt es (SetTable.below t.place (way t.mask (kd.hash k) K)) (kd.hash k, Value.ref x)).toList = rowsK kd (L.take (SetTable.below t.place (way t.mask (kd.hash k) K)) ++ (x, k) :: L.drop (SetTable.below t.place (way t.mask (kd.hash k) K))) := by
        rw [SetTable.toList_insertAt, rowsK_put, R.rows]
      generalize hpp : SetTable.below t.place (way t.mask (kd.hash k) K) = p at q2 q3 hin ⊢
      have pm := put_perm L p (x, k)
      have hlen : (L.take p ++ (x, k) :: L.drop p).length = L.length + 1 := pm.length_eq
      have hhs : (L.take p ++ (x, k) :: L.drop p).map (fun p => kd.hash p.2) = (L.map fun p => kd.hash p.2).take p ++ kd.hash k :: (L.map fun p => kd.hash p.2).drop p := by
        rw [List.map_append, List.map_cons, List.map_take, List.map_drop]
      rw [← hhs] at q3
      have nd1 : ((L.take p ++ (x, k) :: L.drop p).map (·.2)).Nodup := by
        refine (pm.map (·.2)).nodup_iff.mpr ?_
        rw [List.map_cons]
        exact List.nodup_cons.mpr ⟨hm, R.nd⟩
      have hes : (SetTable.insertAt es p (kd.hash k, Value.ref x)).size = L.length + 1 := by
        have h := congrArg List.length hin
        unfold rowsK at h
        rw [Array.length_toList, List.length_map, hlen] at h
        exact h
      generalize SetTable.insertAt es p (kd.hash k, Value.ref x) = es1 at hin hes ⊢
      generalize L.take p ++ (x, k) :: L.drop p = L1 at pm hlen q3 nd1 hin
      refine wpAny_bind (wpAny_storeSet_of ho hd ?_ (by rw [hes, sizeLine_eq]; omega))
      have sb : Heap.SameBut a s.heap (s.heap.update a (Obj.putSet es1 t2)) := Heap.SameBut.update ..
      have ho1 := store_at (es' := es1) (t' := t2) ho hd
      generalize s.heap.update a (Obj.putSet es1 t2) = h1 at sb ho1 ⊢
      have tup1 : ∀ p ∈ L1, kd.is h1 p.2 p.1 := fun p hp => by
        rcases List.mem_cons.mp (pm.mem_iff.mp hp) with e | hp
        · rw [e]; exact kd.keepS hx ho hd sb
        · exact kd.keepS (R.tup p hp) ho hd sb
      have ld1 : w.params.followText "set-order" = true ∨ t2.led = true := by rw [q5]; exact R.led
      by_cases hf : t2.tooFull = true
      · first
          | (refine wpAny_bind ?_; refine wp_if_pos (by simp [hf]) ?_)
          | (refine wp_if_pos (by simp [hf]) ?_; refine wpAny_bind ?_)
        have hfull : (L.length + 1) * 5 ≥ t2.mask * 3 := by
          have h := hf
          unfold SetTable.tooFull at h
          rw [decide_eq_true_eq, q9, List.length_map] at h
          exact h
        rw [hsl]
        have hsz1 : t2.place.size = es1.size := by
          have h := q3.sz
          rw [List.length_map, hlen] at h
          rw [h, hes]
        have cases2 : (t.mask = 7 ∧ L.length = 4) ∨ (t.mask = 31 ∧ L.length = 18) := by
          rcases R.tab.mok with e | e | e
          · left; rw [q4, e] at hfull; rw [e] at hroom; exact ⟨e, by omega⟩
          · right; rw [q4, e] at hfull; rw [e] at hroom; exact ⟨e, by omega⟩
          · exfalso; rw [q4, e] at hfull; omega
        have go : ∀ M, SetTable.sizeAbove (SetTable.grown (L.length + 1)) - 1 = M → MaskOk M → SetTable.sizeAbove (SetTable.grown (L.length + 1)) ≤ 128 → (L.length + 1) * 5 < M * 3 →
            wpAny (model P w) A (setRelay a (SetTable.grown (L.length + 1))) (fun _ s' => wpAny (model P w) A (pure true) Q E s') E { s with heap := h1 } := fun M h1' h2' h3' h4' => by
          refine relayK_at (s := { s with heap := h1 }) ho1 ⟨hex.1, hex.2.1, hex.2.2⟩ rfl hin hsz1 q3.dm (by rw [hes, q4]; rcases cases2 with ⟨e, e2⟩ | ⟨e, e2⟩ <;> omega) nd1 tup1 ld1 (by rw [hlen]; exact hfew) h1' h2' h3' (by rw [hlen]; exact h4') ?_
          intro h2 L2 es2 ep2 t2 sb2 R2 pm2
          refine wpAny_pure (hQ true h2 L2 es2 ep2 t2 (sb.trans sb2) R2 (fun z => absurd z hm) fun _ => pm2.trans pm)
        rcases cases2 with ⟨_, e2⟩ | ⟨_, e2⟩
        · refine go 31 (by rw [e2, size_20]) (.inr (.inl rfl)) (by rw [e2, size_20]; decide) (by omega)
        · refine go 127 (by rw [e2, size_76]) (.inr (.inr rfl)) (by rw [e2, size_76]; decide) (by omega)
      · first
          | refine wp_if_neg (by simp [hf]) ?_
          | (refine wpAny_bind ?_; refine wp_if_neg (by simp [hf]) ?_; refine wpAny_pure ?_)
        refine wpAny_pure (hQ true h1 L1 es1 (ep + 1) t2 sb ⟨⟨_, ho1, ⟨hex.1, hex.2.1, hex.2.2⟩, rfl⟩, hin, q3, nd1, tup1, ld1, ?_, by rw [hlen]; exact hfew⟩ (fun z => absurd z hm) fun _ => pm)
        have h := hf
        unfold SetTable.tooFull at h
        rw [decide_eq_true_eq, q9, List.length_map] at h
        rw [hlen]
        omega
    split
    · refine wpAny_bind (kd.hby hx fun r => ?_)
      cases r
      · exact main _ rfl rfl rfl rfl
      · exact main _ rfl rfl rfl rfl
    · refine wpAny_bind (wpAny_pure ?_)
      exact main _ rfl rfl rfl rfl
end
end LPS

set_option autoImplicit false
set_option linter.all false
set_option maxRecDepth 100000
set_option maxHeartbeats 4000000
namespace LPS
open PySem PySem.Spec PyProof.Rows L2
section
variable {P : Program} {w : World} {A : Around} {E : Value → Shared → Prop} {s : Shared} {κ : Type} [DecidableEq κ] {kd : SKd P w κ}
structure GotK (ks : List (Addr × κ)) (i : Nat) (L : List (Addr × κ)) : Prop where
  sub : ∀ p ∈ L, p ∈ ks.take i
  all : ∀ p ∈ ks.take i, p.2 ∈ L.map (·.2)
  len : L.length ≤ i
theorem GotK.zero (ks : List (Addr × κ)) : GotK ks 0 [] := ⟨fun p h => (by cases h), fun p h => (by simp at h), Nat.le_refl _⟩
theorem GotK.same {ks L : List (Addr × κ)} {i : Nat} {x : Addr × κ} (g : GotK ks i L) (h : ks[i]? = some x) (hm : x.2 ∈ L.map (·.2)) : GotK ks (i + 1) L := by
  refine ⟨fun p hp => ?_, fun p hp => ?_, Nat.le_succ_of_le g.len⟩
  · rw [take_next h]
    exact List.mem_append_left _ (g.sub p hp)
  · rw [take_next h] at hp
    rcases List.mem_append.mp hp with z | z
    · exact g.all p z
    · rw [List.mem_singleton.mp z]; exact hm
theorem GotK.more {ks L L' : List (Addr × κ)} {i : Nat} {x : Addr × κ} (g : GotK ks i L) (h : ks[i]? = some x) (pm : L'.Perm (x :: L)) : GotK ks (i + 1) L' := by
  refine ⟨fun p hp => ?_, fun p hp => ?_, ?_⟩
  · rw [take_next h]
    rcases List.mem_cons.mp (pm.mem_iff.mp hp) with e | z
    · rw [e]; exact List.mem_append_right _ (List.mem_singleton.mpr rfl)
    · exact List.mem_append_left _ (g.sub p z)
  · rw [(pm.map (·.2)).mem_iff, List.map_cons]
    rw [take_next h] at hp
    rcases List.mem_append.mp hp with z | z
    · exact List.mem_cons_of_mem _ (g.all p z)
    · rw [List.mem_singleton.mp z]; exact List.mem_cons_self
  · rw [pm.length_eq, List.length_cons]
    exact Nat.succ_le_succ g.len
theorem STR.keep {h h' : Heap} {a : Addr} {L : List (Addr × κ)} {es : Array (Int × Value)} {ep : Nat} {t : SetTable} (R : STR kd h a L es ep t) (ha : ∀ o, h.get? a = some o → h'.get? a = some o) (ht : ∀ p ∈ L, kd.is h' p.2 p.1) : STR kd h' a L es ep t := by
  obtain ⟨o, ho, r⟩ := R.ob
  exact ⟨⟨o, ha o ho, r⟩, R.rows, R.tab, R.nd, ht, R.led, R.room, R.few⟩
/-- a new set -/
theorem sTR_fresh {h : Heap} {a : Addr} (ho : h.get? a = some { cls := .type "set", dict := none, data := .set #[] 0 (.fresh 0 0 (!w.params.followText "set-order")) }) : STR kd h a [] #[] 0 (.fresh 0 0 (!w.params.followText "set-order")) where
  ob := ⟨_, ho, ⟨rfl, rfl, rfl⟩, rfl⟩
  rows := rfl
  tab := ⟨List.Pairwise.nil, rfl, rfl, .inl rfl, fun x hx => (by cases hx), fun i h j hi => (by simp at hi)⟩
  nd := List.nodup_nil
  tup := fun p hp => (by cases hp)
  led := by
    show _ ∨ (!w.params.followText "set-order") = true
    cases w.params.followText "set-order"
    · exact .inr rfl
    · exact .inl rfl
  room := by
    show 0 * 5 < 7 * 3
    decide
  few := by
    show 0 < 64
    decide

/-- set.update's loop -/
theorem set_updateK {I : Addr} {fp wr : List Addr} {G : Array GenState → Array GenState → Prop} {n : Nat} {Pv : Nat → Value → Prop} {St : Nat → Shared → Prop} {R : Result → Shared → Prop}
    (W : WalksS P w A.in1 I fp wr G n Pv St) (S : Addr) (hSf : S ∉ fp) (ks : List (Addr × κ)) (hn : n = ks.length) (hfew : ∀ L : List (Addr × κ), (∀ p ∈ L, p ∈ ks) → (L.map (·.2)).Nodup → L.length < 64) (hval : ∀ i v, Pv i v → ∃ p, ks[i]? = some p ∧ v = .ref p.1)
    (h0 : Heap) (hk : ∀ p ∈ ks, kd.is h0 p.2 p.1) (hS0 : h0.get? S = none) (hw0 : ∀ b ∈ wr, h0.get? b = none) (hu : kd.room A.in1) :
    ∀ (k i : Nat) (s : Shared), n - i = k → i ≤ n → St i s → (∀ b o, h0.get? b = some o → s.heap.get? b = some o) → (∃ L es ep t, STR kd s.heap S L es ep t ∧ GotK ks i L) →
      (∀ s' L es ep t, Moved (S :: wr) G s s' → STR kd s'.heap S L es ep t → GotK ks n L → (∀ b o, h0.get? b = some o → s'.heap.get? b = some o) → R (.ok (.ret .none)) s') →
      codeAny (model P w) A (.builtin "set.update.loop" ⟨[.ref S, .ref I], []⟩) R s := by
  have hSw : S ∉ wr := fun h => hSf (W.sub _ h)
  have hsub : ∀ b ∈ wr, b ∈ S :: wr := fun b hb => List.mem_cons_of_mem _ hb
  have keepM : ∀ {s s' : Shared}, Moved wr G s s' → (∀ b o, h0.get? b = some o → s.heap.get? b = some o) → ∀ b o, h0.get? b = some o → s'.heap.get? b = some o := fun hm hkp b o e =>
    hm.heap b o (fun hb => by rw [hw0 b hb] at e; cases e) (hkp b o e)
  intro k
  induction k with
  | zero =>
    intro i s hk' hi hst hkp ⟨L, es, ep, t, hS, g⟩ hR
    have hin : i = n := by omega
    subst hin
    refine codeAny_builtin F.entry_set_update_loop ?_
    rw [Around.under_plainId F.plain_set_update_loop _]
    show wpAny _ A.in1 (pyNext (.ref I) >>= _) _ _ s
    refine wpAny_bind (W.done s _ _ hst fun s' hm => ?_)
    show wpAny _ A.in1 (ret Value.none) _ _ s'
    have hkp' := keepM hm hkp
    have sub : ∀ p ∈ L, p ∈ ks := fun p hp => List.mem_of_mem_take (g.sub p hp)
    exact wpAny_pure (hR s' L es ep t (hm.mono hsub) (hS.keep (fun o e => hm.heap S o hSw e) fun p hp => kd.grow (hk p (sub p hp)) hkp') g hkp')
  | succ k ih =>
    intro i s hk' hi hst hkp ⟨L, es, ep, t, hS, g⟩ hR
    have hlt : i < n := by omega
    refine codeAny_builtin F.entry_set_update_loop ?_
    rw [Around.under_plainId F.plain_set_update_loop _]
    show wpAny _ A.in1 (pyNext (.ref I) >>= _) _ _ s
    refine wpAny_bind (W.item i s _ _ hlt hst fun v s' hP hst' hm => ?_)
    obtain ⟨p, hp, rfl⟩ := hval i v hP
    have hkp' := keepM hm hkp
    have sub : ∀ p ∈ L, p ∈ ks := fun p hp => List.mem_of_mem_take (g.sub p hp)
    have hS' : STR kd s'.heap S L es ep t := hS.keep (fun o e => hm.heap S o hSw e) fun q hq => kd.grow (hk q (sub q hq)) hkp'
    have hx : kd.is s'.heap p.2 p.1 := kd.grow (hk p (List.mem_of_getElem? hp)) hkp'
    show wpAny _ A.in1 (holding [Value.ref p.1] (setAdd S (.ref p.1)) >>= _) _ _ s'
    refine wpAny_bind (wpAny_holding ?_)
    unfold setAdd
    refine wpAny_holding ?_
    refine wpAny_bind (kd.pyHash hu hx ?_)
    refine addK_at (s := { s' with toks := s'.toks + kd.draws p.2 }) hS' hx hu (fun hn => hfew (p :: L) (fun q hq => by
      rcases List.mem_cons.mp hq with e | hq
      · rw [e]; exact List.mem_of_getElem? hp
      · exact sub q hq) (List.nodup_cons.mpr ⟨hn, hS.nd⟩)) fun b h' L' es' ep' t' hsb hS2 c1 c2 => ?_
    have g' : GotK ks (i + 1) L' := by
      rcases Classical.em (p.2 ∈ L.map (·.2)) with c | c
      · rw [c1 c]; exact g.same hp c
      · exact g.more hp (c2 c)
    have hkp2 : ∀ b o, h0.get? b = some o → h'.get? b = some o := fun b o e => (hsb.2 b (fun z => by rw [z, hS0] at e; cases e)).trans (hkp' b o e)
    refine wpAny_pure ⟨plainId_quiet F.plain_set_update_loop _, ih (i + 1) _ (by omega) hlt (W.frame _ s' _ _ hst' (Nat.le_add_right _ _) fun b hb o e => ?_) hkp2 ⟨L', es', ep', t', hS2, g'⟩ fun s'' L2 es2 ep2 t2 hm'' hS'' g'' hkp'' => ?_⟩
    · rw [hsb.2 b (fun h : b = S => hSf (by rw [← h]; exact hb))]; exact e
    · refine hR s'' L2 es2 ep2 t2 (Moved.trans W.gtrans ((hm.mono hsub).then_heap (Nat.le_add_right _ _) fun b o hb e => ?_) hm'') hS'' g'' hkp''
      rw [hsb.2 b (fun h : b = S => hb (by rw [h]; exact List.mem_cons_self))]; exact e

set_option maxRecDepth 100000 in
set_option maxHeartbeats 3200000 in
/-- set(xs), xs a list, by what the loop does -/
theorem call_setW_list {l : Addr} {items : Array Value} {Q : Value → Shared → Prop} (Post : Heap → Prop) (hh : A.handled = none) (hl : s.heap.IsList l items)
    (hup : ∀ (St : Nat → Heap → Prop) (s1 : Shared) (R : Result → Shared → Prop), Walks P w A.in1.in1.in1 (s.heap.objs.size + 1) [s.heap.objs.size + 1, l] [s.heap.objs.size + 1] items.size (fun i v => items[i]? = some v) St → St 0 s1.heap →
      s1.heap.get? s.heap.objs.size = some { cls := .type "set", dict := none, data := .set #[] 0 (.fresh 0 0 (!w.params.followText "set-order")) } → l ≠ s.heap.objs.size → (∀ b o, s.heap.get? b = some o → s1.heap.get? b = some o) →
      (∀ s', Moved (s.heap.objs.size :: [s.heap.objs.size + 1]) (fun a b => b = a) s1 s' → Post s'.heap → R (.ok (.ret .none)) s') → codeAny (model P w) A.in1.in1 (.builtin "set.update.loop" ⟨[.ref s.heap.objs.size, .ref (s.heap.objs.size + 1)], []⟩) R s1)
    (h : ∀ (h' : Heap) (tk : Nat), Post h' → (∀ b o, s.heap.get? b = some o → h'.get? b = some o) → Q (.ref s.heap.objs.size) { s with heap := h', toks := tk }) :
    wpAny (model P w) A (call (.type "set") [.ref l]) Q E s := by
  obtain ⟨c, tl, hmro⟩ := F.called_set.mro
  have hmade := F.called_set.made
  have hsub := F.called_set.sub
  refine wpAny_call (codeAny_of_tree ?_)
  show wpAny _ _ (callAny (.type "set") _) _ _ _
  refine wpAny_pure ⟨Code.quiet_builtin _ (by decide +kernel), codeAny_builtin F.entry_type_call ?_⟩
  rw [Around.under_plain (weight_type_call_type "set" [.ref l] []) rfl]
  have h1 := F.called_set.notType
  have h2 := F.called_set.canCreate
  have hct := F.typeCall_set_1 (.ref l)
  repeat (any_goals (first | assumption | wp_step))

  refine codeAny_mono (code_set_led1 (.ref l) (E := E) (Q₁ := fun obj s₁ => obj = .ref s.heap.objs.size ∧ s₁ = { s with heap := s.heap.push { cls := .type "set", dict := none, data := .set #[] 0 (.fresh 0 0 (!w.params.followText "set-order")) } }) ⟨rfl, rfl⟩) fun r s₁ hr => ?_
  cases r with
  | error e => exact hr
  | ok fl =>
    cases fl with
    | ret obj =>
      obtain ⟨rfl, rfl⟩ := hr
      have hS : (s.heap.push { cls := .type "set", dict := none, data := .set #[] 0 (.fresh 0 0 (!w.params.followText "set-order")) }).get? s.heap.objs.size = some { cls := .type "set", dict := none, data := .set #[] 0 (.fresh 0 0 (!w.params.followText "set-order")) } := Heap.get?_push_size _ rfl
      have hT : Shared.TypeIs { s with heap := s.heap.push { cls := .type "set", dict := none, data := .set #[] 0 (.fresh 0 0 (!w.params.followText "set-order")) } } (.ref s.heap.objs.size) "set" := ⟨_, hS, rfl⟩
      have hli := F.called_set.init.lookup
      have hbi := F.called_set.init.bind (.ref s.heap.objs.size)
      repeat (any_goals (first | assumption | wp_step))

      refine codeAny_mono (codeAny_call_builtin (R := wants (fun r s₂ => r = .none ∧ ∃ h' tk, s₂ = { s with heap := h', toks := tk } ∧ Post h' ∧
          (∀ b o, s.heap.get? b = some o → h'.get? b = some o)) E) F.called_set.init.plain F.entry_set_init (check_set_init_1 hT ?_)) fun r₂ s₂ hr₂ => ?_
      · obtain ⟨ol, hol, hcl, nl, hdl⟩ := hl
        obtain ⟨ocls, odict, odata, oslots⟩ := ol
        simp only at hcl hdl
        subst hcl; subst hdl
        have hol' : (s.heap.push { cls := .type "set", dict := none, data := .set #[] 0 (.fresh 0 0 (!w.params.followText "set-order")) }).get? l = some { cls := .type "list", dict := odict, data := .seq items nl, slots := oslots } := Heap.get?_push_of_some _ hol
        have hsls := F.sub_list_set
        have hslf := F.sub_list_frozenset
        have hne : (Value.type "list" == Value.type "dict") = false := by decide
        have hl1 : (s.heap.push { cls := .type "set", dict := none, data := .set #[] 0 (.fresh 0 0 (!w.params.followText "set-order")) }).IsList l items := ⟨_, hol', rfl, nl, rfl⟩
        unfold Builtin.«set.__init__» noKeywords Builtin.Frozenset.updateFrom
        generalize hPI : pyIter = PI
        wp_walk
        subst hPI

        refine wpAny_pyIter_list hl1 ?_
        refine wpAny_bind (wpAny_runValue ?_)
        have hlS : l < s.heap.objs.size := Heap.lt_size hol
        have hh3 : A.in1.in1.in1.handled = none := by simp [hh]
        have hz1 : (s.heap.push { cls := .type "set", dict := none, data := .set #[] 0 (.fresh 0 0 (!w.params.followText "set-order")) }).objs.size = s.heap.objs.size + 1 := Heap.size_push ..
        have hneI : l ≠ s.heap.objs.size + 1 := Nat.ne_of_lt (Nat.lt_succ_of_lt hlS)
        rw [hz1]
        refine hup _ _ _ (Walks.list hh3 _ l hneI items) ⟨⟨_, by rw [← hz1]; exact Heap.get?_push_size _ rfl, rfl, rfl⟩, (hl1.push _)⟩ (Heap.get?_push_of_some _ hS) (Nat.ne_of_lt hlS) (fun b o e => Heap.get?_push_of_some _ (Heap.get?_push_of_some _ e)) ?_
        intro s' hm hP
        have hkp : ∀ b o, s.heap.get? b = some o → s'.heap.get? b = some o := fun b o e => hm.heap b o (fun hb => by
          have hlt := Heap.lt_size e
          rcases List.mem_cons.mp hb with z | z
          · rw [z] at hlt; exact absurd hlt (Nat.lt_irrefl _)
          · rw [List.mem_singleton.mp z] at hlt; exact absurd hlt (Nat.not_lt.mpr (Nat.le_succ _))) (Heap.get?_push_of_some _ (Heap.get?_push_of_some _ e))
        obtain ⟨h', g2, d', tk', os'⟩ := s'
        have eg : g2 = s.gens := hm.gens
        have ed : d' = s.drawn := hm.drawn
        have eo : os' = s.os := hm.os
        subst eg; subst ed; subst eo
        show wpAny _ _ _ _ _ _
        refine wpAny_pure ?_
        show wpAny _ _ (ret Value.none) _ _ _
        exact wpAny_pure ⟨rfl, h', tk', rfl, hP, hkp⟩

      · cases r₂ with
        | error e => exact hr₂
        | ok fl₂ =>
          cases fl₂ with
          | ret r =>
            obtain ⟨rfl, h', tk, rfl, hP, hk'⟩ := hr₂
            repeat (any_goals (first | assumption | wp_step))
            exact h _ _ hP hk'
          | _ => exact hr₂.elim
    | _ => exact hr.elim
set_option maxRecDepth 100000 in
set_option maxHeartbeats 3200000 in
/-- set(xs), xs a tuple, by what the loop does -/
theorem call_setW_tuple {l : Addr} {items : Array Value} {Q : Value → Shared → Prop} (Post : Heap → Prop) (hh : A.handled = none) (hl : s.heap.IsTuple l items)
    (hup : ∀ (St : Nat → Heap → Prop) (s1 : Shared) (R : Result → Shared → Prop), Walks P w A.in1.in1.in1 (s.heap.objs.size + 1) [s.heap.objs.size + 1, l] [s.heap.objs.size + 1] items.size (fun i v => items[i]? = some v) St → St 0 s1.heap →
      s1.heap.get? s.heap.objs.size = some { cls := .type "set", dict := none, data := .set #[] 0 (.fresh 0 0 (!w.params.followText "set-order")) } → l ≠ s.heap.objs.size → (∀ b o, s.heap.get? b = some o → s1.heap.get? b = some o) →
      (∀ s', Moved (s.heap.objs.size :: [s.heap.objs.size + 1]) (fun a b => b = a) s1 s' → Post s'.heap → R (.ok (.ret .none)) s') → codeAny (model P w) A.in1.in1 (.builtin "set.update.loop" ⟨[.ref s.heap.objs.size, .ref (s.heap.objs.size + 1)], []⟩) R s1)
    (h : ∀ (h' : Heap) (tk : Nat), Post h' → (∀ b o, s.heap.get? b = some o → h'.get? b = some o) → Q (.ref s.heap.objs.size) { s with heap := h', toks := tk }) :
    wpAny (model P w) A (call (.type "set") [.ref l]) Q E s := by
  obtain ⟨c, tl, hmro⟩ := F.called_set.mro
  have hmade := F.called_set.made
  have hsub := F.called_set.sub
  refine wpAny_call (codeAny_of_tree ?_)
  show wpAny _ _ (callAny (.type "set") _) _ _ _
  refine wpAny_pure ⟨Code.quiet_builtin _ (by decide +kernel), codeAny_builtin F.entry_type_call ?_⟩
  rw [Around.under_plain (weight_type_call_type "set" [.ref l] []) rfl]
  have h1 := F.called_set.notType
  have h2 := F.called_set.canCreate
  have hct := F.typeCall_set_1 (.ref l)
  repeat (any_goals (first | assumption | wp_step))

  refine codeAny_mono (code_set_led1 (.ref l) (E := E) (Q₁ := fun obj s₁ => obj = .ref s.heap.objs.size ∧ s₁ = { s with heap := s.heap.push { cls := .type "set", dict := none, data := .set #[] 0 (.fresh 0 0 (!w.params.followText "set-order")) } }) ⟨rfl, rfl⟩) fun r s₁ hr => ?_
  cases r with
  | error e => exact hr
  | ok fl =>
    cases fl with
    | ret obj =>
      obtain ⟨rfl, rfl⟩ := hr
      have hS : (s.heap.push { cls := .type "set", dict := none, data := .set #[] 0 (.fresh 0 0 (!w.params.followText "set-order")) }).get? s.heap.objs.size = some { cls := .type "set", dict := none, data := .set #[] 0 (.fresh 0 0 (!w.params.followText "set-order")) } := Heap.get?_push_size _ rfl
      have hT : Shared.TypeIs { s with heap := s.heap.push { cls := .type "set", dict := none, data := .set #[] 0 (.fresh 0 0 (!w.params.followText "set-order")) } } (.ref s.heap.objs.size) "set" := ⟨_, hS, rfl⟩
      have hli := F.called_set.init.lookup
      have hbi := F.called_set.init.bind (.ref s.heap.objs.size)
      repeat (any_goals (first | assumption | wp_step))

      refine codeAny_mono (codeAny_call_builtin (R := wants (fun r s₂ => r = .none ∧ ∃ h' tk, s₂ = { s with heap := h', toks := tk } ∧ Post h' ∧
          (∀ b o, s.heap.get? b = some o → h'.get? b = some o)) E) F.called_set.init.plain F.entry_set_init (check_set_init_1 hT ?_)) fun r₂ s₂ hr₂ => ?_
      · obtain ⟨ol, hol, hcl, nl, hdl⟩ := hl
        obtain ⟨ocls, odict, odata, oslots⟩ := ol
        simp only at hcl hdl
        subst hcl; subst hdl
        have hol' : (s.heap.push { cls := .type "set", dict := none, data := .set #[] 0 (.fresh 0 0 (!w.params.followText "set-order")) }).get? l = some { cls := .type "tuple", dict := odict, data := .seq items nl, slots := oslots } := Heap.get?_push_of_some _ hol
        have hsls := F.sub_tuple_set
        have hslf := F.sub_tuple_frozenset
        have hne : (Value.type "tuple" == Value.type "dict") = false := by decide
        have hl1 : (s.heap.push { cls := .type "set", dict := none, data := .set #[] 0 (.fresh 0 0 (!w.params.followText "set-order")) }).IsTuple l items := ⟨_, hol', rfl, nl, rfl⟩
        unfold Builtin.«set.__init__» noKeywords Builtin.Frozenset.updateFrom
        generalize hPI : pyIter = PI
        wp_walk
        subst hPI

        refine wpAny_pyIter_tuple hl1 ?_
        refine wpAny_bind (wpAny_runValue ?_)
        have hlS : l < s.heap.objs.size := Heap.lt_size hol
        have hh3 : A.in1.in1.in1.handled = none := by simp [hh]
        have hz1 : (s.heap.push { cls := .type "set", dict := none, data := .set #[] 0 (.fresh 0 0 (!w.params.followText "set-order")) }).objs.size = s.heap.objs.size + 1 := Heap.size_push ..
        have hneI : l ≠ s.heap.objs.size + 1 := Nat.ne_of_lt (Nat.lt_succ_of_lt hlS)
        rw [hz1]
        refine hup _ _ _ (Walks.tuple hh3 _ l hneI items) ⟨⟨_, by rw [← hz1]; exact Heap.get?_push_size _ rfl, rfl, rfl⟩, (hl1.push _)⟩ (Heap.get?_push_of_some _ hS) (Nat.ne_of_lt hlS) (fun b o e => Heap.get?_push_of_some _ (Heap.get?_push_of_some _ e)) ?_
        intro s' hm hP
        have hkp : ∀ b o, s.heap.get? b = some o → s'.heap.get? b = some o := fun b o e => hm.heap b o (fun hb => by
          have hlt := Heap.lt_size e
          rcases List.mem_cons.mp hb with z | z
          · rw [z] at hlt; exact absurd hlt (Nat.lt_irrefl _)
          · rw [List.mem_singleton.mp z] at hlt; exact absurd hlt (Nat.not_lt.mpr (Nat.le_succ _))) (Heap.get?_push_of_some _ (Heap.get?_push_of_some _ e))
        obtain ⟨h', g2, d', tk', os'⟩ := s'
        have eg : g2 = s.gens := hm.gens
        have ed : d' = s.drawn := hm.drawn
        have eo : os' = s.os := hm.os
        subst eg; subst ed; subst eo
        show wpAny _ _ _ _ _ _
        refine wpAny_pure ?_
        show wpAny _ _ (ret Value.none) _ _ _
        exact wpAny_pure ⟨rfl, h', tk', rfl, hP, hkp⟩

      · cases r₂ with
        | error e => exact hr₂
        | ok fl₂ =>
          cases fl₂ with
          | ret r =>
            obtain ⟨rfl, h', tk, rfl, hP, hk'⟩ := hr₂
            repeat (any_goals (first | assumption | wp_step))
            exact h _ _ hP hk'
          | _ => exact hr₂.elim
    | _ => exact hr.elim
theorem call_setK_list {l : Addr} {items : Array Value} (ks : List (Addr × κ)) {Q : Value → Shared → Prop} (hh : A.handled = none) (hl : s.heap.IsList l items) (hit : items.toList = ks.map fun p => Value.ref p.1)
    (hk : ∀ p ∈ ks, kd.is s.heap p.2 p.1) (hfew : ∀ L : List (Addr × κ), (∀ p ∈ L, p ∈ ks) → (L.map (·.2)).Nodup → L.length < 64) (hu : kd.room A.in1.in1.in1)
    (h : ∀ (h' : Heap) (tk : Nat) L es ep t, STR kd h' s.heap.objs.size L es ep t → GotK ks ks.length L → (∀ b o, s.heap.get? b = some o → h'.get? b = some o) → Q (.ref s.heap.objs.size) { s with heap := h', toks := tk }) :
    wpAny (model P w) A (call (.type "set") [.ref l]) Q E s := by
  have hisz : items.size = ks.length := by
    have q := congrArg List.length hit
    rw [Array.length_toList, List.length_map] at q
    exact q
  refine call_setW_list (P := P) (fun h' => ∃ L es ep t, STR kd h' s.heap.objs.size L es ep t ∧ GotK ks ks.length L) hh hl ?_ fun h' tk ⟨L, es, ep, t, a, b⟩ c => h h' tk L es ep t a b c
  intro St s1 R W h0 hS hlS hkp hR
  have hval : ∀ (i : Nat) (v : Value), items[i]? = some v → ∃ p, ks[i]? = some p ∧ v = .ref p.1 := fun i v hv => by
    have q : items.toList[i]? = some v := by rw [Array.getElem?_toList]; exact hv
    rw [hit, List.getElem?_map] at q
    cases hq : ks[i]? with
    | none => rw [hq] at q; cases q
    | some p =>
      rw [hq] at q
      exact ⟨p, rfl, (Option.some.inj q).symm⟩
  have none_of : ∀ b, s.heap.objs.size ≤ b → s.heap.get? b = none := fun b hb => by
    cases q : s.heap.get? b with
    | none => rfl
    | some o => exact absurd (Nat.lt_of_lt_of_le (Heap.lt_size q) hb) (Nat.lt_irrefl _)
  refine set_updateK W.toS s.heap.objs.size (by simp only [List.mem_cons, List.mem_singleton, List.not_mem_nil, or_false, not_or]; exact ⟨Nat.ne_of_lt (Nat.lt_succ_self _), Ne.symm hlS⟩) ks hisz hfew hval s.heap hk (none_of _ (Nat.le_refl _)) (fun b hb => none_of b (by
            rw [List.mem_singleton.mp hb]
            exact Nat.le_succ _)) hu (items.size - 0) 0 _ (by omega) (Nat.zero_le _) h0 hkp ⟨[], #[], 0, _, sTR_fresh hS, GotK.zero ks⟩ fun s' L es ep t hm hS' g' hkp' => ?_
  rw [hisz] at g'
  exact hR s' hm ⟨L, es, ep, t, hS', g'⟩
theorem call_setK_tuple {l : Addr} {items : Array Value} (ks : List (Addr × κ)) {Q : Value → Shared → Prop} (hh : A.handled = none) (hl : s.heap.IsTuple l items) (hit : items.toList = ks.map fun p => Value.ref p.1)
    (hk : ∀ p ∈ ks, kd.is s.heap p.2 p.1) (hfew : ∀ L : List (Addr × κ), (∀ p ∈ L, p ∈ ks) → (L.map (·.2)).Nodup → L.length < 64) (hu : kd.room A.in1.in1.in1)
    (h : ∀ (h' : Heap) (tk : Nat) L es ep t, STR kd h' s.heap.objs.size L es ep t → GotK ks ks.length L → (∀ b o, s.heap.get? b = some o → h'.get? b = some o) → Q (.ref s.heap.objs.size) { s with heap := h', toks := tk }) :
    wpAny (model P w) A (call (.type "set") [.ref l]) Q E s := by
  have hisz : items.size = ks.length := by
    have q := congrArg List.length hit
    rw [Array.length_toList, List.length_map] at q
    exact q
  refine call_setW_tuple (P := P) (fun h' => ∃ L es ep t, STR kd h' s.heap.objs.size L es ep t ∧ GotK ks ks.length L) hh hl ?_ fun h' tk ⟨L, es, ep, t, a, b⟩ c => h h' tk L es ep t a b c
  intro St s1 R W h0 hS hlS hkp hR
  have hval : ∀ (i : Nat) (v : Value), items[i]? = some v → ∃ p, ks[i]? = some p ∧ v = .ref p.1 := fun i v hv => by
    have q : items.toList[i]? = some v := by rw [Array.getElem?_toList]; exact hv
    rw [hit, List.getElem?_map] at q
    cases hq : ks[i]? with
    | none => rw [hq] at q; cases q
    | some p =>
      rw [hq] at q
      exact ⟨p, rfl, (Option.some.inj q).symm⟩
  have none_of : ∀ b, s.heap.objs.size ≤ b → s.heap.get? b = none := fun b hb => by
    cases q : s.heap.get? b with
    | none => rfl
    | some o => exact absurd (Nat.lt_of_lt_of_le (Heap.lt_size q) hb) (Nat.lt_irrefl _)
  refine set_updateK W.toS s.heap.objs.size (by simp only [List.mem_cons, List.mem_singleton, List.not_mem_nil, or_false, not_or]; exact ⟨Nat.ne_of_lt (Nat.lt_succ_self _), Ne.symm hlS⟩) ks hisz hfew hval s.heap hk (none_of _ (Nat.le_refl _)) (fun b hb => none_of b (by
            rw [List.mem_singleton.mp hb]
            exact Nat.le_succ _)) hu (items.size - 0) 0 _ (by omega) (Nat.zero_le _) h0 hkp ⟨[], #[], 0, _, sTR_fresh hS, GotK.zero ks⟩ fun s' L es ep t hm hS' g' hkp' => ?_
  rw [hisz] at g'
  exact hR s' hm ⟨L, es, ep, t, hS', g'⟩
theorem call_setI_list {l : Addr} {items : Array Value} (ns : List Int) {Q : Value → Shared → Prop} (hh : A.handled = none) (hl : s.heap.IsList l items) (hit : IntsAre items.toList ns) (hb : ns.length + 1 < scanBound)
    (h : ∀ (h' : Heap) (tk c : Nat), SetR w h' s.heap.objs.size (fun j => decide (j ∈ ns)) c → (∀ b o, s.heap.get? b = some o → h'.get? b = some o) → Q (.ref s.heap.objs.size) { s with heap := h', toks := tk }) :
    wpAny (model P w) A (call (.type "set") [.ref l]) Q E s := by
  have hisz : items.size = ns.length := by
    have q := IntsAre.length hit
    rw [Array.length_toList] at q
    exact q
  refine call_setW_list (P := P) (fun h' => ∃ c, SetR w h' s.heap.objs.size (fun j => decide (j ∈ ns)) c) hh hl ?_ fun h' tk ⟨L, a⟩ c => h h' tk L a c
  intro St s1 R W h0 hS hlS hkp hR
  have hval : ∀ (i : Nat) (v : Value), items[i]? = some v → ∃ k t, ns[i]? = some k ∧ v = .int k t := fun i v hv => by
    have hi : i < ns.length := by rw [← hisz]; exact (Array.getElem?_eq_some_iff.mp hv).1
    obtain ⟨t, e⟩ := PyProof.Rows.IntsAre.int_at hit i v (by rw [Array.getElem?_toList]; exact hv)
    refine ⟨ns[i], t, List.getElem?_eq_getElem hi, ?_⟩
    rw [e, List.getD_eq_getElem?_getD, List.getElem?_eq_getElem hi] <;> rfl
  refine set_update_ints W.toS s.heap.objs.size (by simp only [List.mem_cons, List.mem_singleton, List.not_mem_nil, or_false, not_or]; exact ⟨Nat.ne_of_lt (Nat.lt_succ_self _), Ne.symm hlS⟩) ns hisz hb hval (items.size - 0) 0 _ (by omega) (Nat.zero_le _) h0 ⟨0, Nat.le_refl 0, setR_new_at hS⟩ fun s' c hm _ hS' => ?_
  exact hR s' hm ⟨c, hS'⟩
theorem call_setI_tuple {l : Addr} {items : Array Value} (ns : List Int) {Q : Value → Shared → Prop} (hh : A.handled = none) (hl : s.heap.IsTuple l items) (hit : IntsAre items.toList ns) (hb : ns.length + 1 < scanBound)
    (h : ∀ (h' : Heap) (tk c : Nat), SetR w h' s.heap.objs.size (fun j => decide (j ∈ ns)) c → (∀ b o, s.heap.get? b = some o → h'.get? b = some o) → Q (.ref s.heap.objs.size) { s with heap := h', toks := tk }) :
    wpAny (model P w) A (call (.type "set") [.ref l]) Q E s := by
  have hisz : items.size = ns.length := by
    have q := IntsAre.length hit
    rw [Array.length_toList] at q
    exact q
  refine call_setW_tuple (P := P) (fun h' => ∃ c, SetR w h' s.heap.objs.size (fun j => decide (j ∈ ns)) c) hh hl ?_ fun h' tk ⟨L, a⟩ c => h h' tk L a c
  intro St s1 R W h0 hS hlS hkp hR
  have hval : ∀ (i : Nat) (v : Value), items[i]? = some v → ∃ k t, ns[i]? = some k ∧ v = .int k t := fun i v hv => by
    have hi : i < ns.length := by rw [← hisz]; exact (Array.getElem?_eq_some_iff.mp hv).1
    obtain ⟨t, e⟩ := PyProof.Rows.IntsAre.int_at hit i v (by rw [Array.getElem?_toList]; exact hv)
    refine ⟨ns[i], t, List.getElem?_eq_getElem hi, ?_⟩
    rw [e, List.getD_eq_getElem?_getD, List.getElem?_eq_getElem hi] <;> rfl
  refine set_update_ints W.toS s.heap.objs.size (by simp only [List.mem_cons, List.mem_singleton, List.not_mem_nil, or_false, not_or]; exact ⟨Nat.ne_of_lt (Nat.lt_succ_self _), Ne.symm hlS⟩) ns hisz hb hval (items.size - 0) 0 _ (by omega) (Nat.zero_le _) h0 ⟨0, Nat.le_refl 0, setR_new_at hS⟩ fun s' c hm _ hS' => ?_
  exact hR s' hm ⟨c, hS'⟩
end
end LPS

set_option autoImplicit false
set_option linter.all false
set_option maxRecDepth 100000
set_option maxHeartbeats 4000000
namespace LPS
open PySem PySem.Spec PyProof.Rows L2
section
variable {P : Program} {w : World} {A : Around} {E : Value → Shared → Prop} {s : Shared}
def ClsAt (P : Program) (w : World) (n : Nat) (s : Shared) (v : Value) : Prop := ∀ (A : Around) (E : Value → Shared → Prop) (Q : Bool → Shared → Prop), Q false s → wpAny (model P w) A (ofAClassStatement n v) Q E s
def HbyAt (P : Program) (w : World) (n : Nat) (s : Shared) (v : Value) : Prop := ∀ (A : Around) (E : Value → Shared → Prop) (Q : Bool → Shared → Prop), (∀ r, Q r s) → wpAny (model P w) A (hashByValue n v) Q E s
theorem ClsAt.tup {n : Nat} {b : Addr} {o : Obj} {vs : Array Value} {m : Nat} (hg : s.heap.get? b = some o) (hc : o.cls = .type "tuple") (hd : o.data = .seq vs m) (hq : ∀ v ∈ vs.toList, ClsAt P w n s v) : ClsAt P w (n + 1) s (.ref b) := fun A E Q h => by
  have hT : s.TypeIs (.ref b) "tuple" := ⟨o, hg, hc⟩
  unfold ofAClassStatement
  refine wpAny_bind (wpAny_typeOf hT ?_)
  dsimp only
  have e : (("tuple" : String) == "tuple") = true := by decide
  simp only [e, if_true, Bool.not_true, Bool.false_eq_true, if_false]
  try refine wpAny_bind (wpAny_pure ?_)
  try simp only [Bool.not_true, Bool.false_eq_true, if_false]
  show wpAny _ _ (seqItems? (.ref b) >>= _) _ _ s
  refine wpAny_bind (wpAny_seqItems hg hd ?_)
  dsimp only
  refine wpAny_bind ?_
  show wpAny _ _ (forIn vs _ _) _ _ s
  rw [← Array.forIn_toList]
  refine wpAny_forIn_list _ (fun rest r s' => r.1 = none ∧ s' = s ∧ ∀ v ∈ rest, ClsAt P w n s v) _ ?_ ?_ _ _ ⟨rfl, rfl, hq⟩
  · rintro v rest r s' ⟨hr, rfl, hall⟩
    refine wpAny_bind (hall v List.mem_cons_self A E _ ?_)
    simp only [Bool.false_eq_true, if_false]
    exact wpAny_pure ⟨rfl, rfl, fun u hu' => hall u (List.mem_cons_of_mem _ hu')⟩
  · rintro ⟨r1, r2⟩ s' ⟨hr, rfl, _⟩
    simp only at hr
    subst hr
    exact wpAny_pure h
theorem HbyAt.tup {n : Nat} {b : Addr} {o : Obj} {vs : Array Value} {m : Nat} (hg : s.heap.get? b = some o) (hc : o.cls = .type "tuple") (hd : o.data = .seq vs m) (hq : ∀ v ∈ vs.toList, HbyAt P w n s v) : HbyAt P w (n + 1) s (.ref b) := fun A E Q h => by
  have hT : s.TypeIs (.ref b) "tuple" := ⟨o, hg, hc⟩
  unfold hashByValue
  refine wpAny_bind (wpAny_specialOf hT F.slot_tuple_hash.lookup ?_)
  show wpAny _ _ (seqItems? (.ref b) >>= _) _ _ s
  refine wpAny_bind (wpAny_seqItems hg hd ?_)
  refine wpAny_bind ?_
  show wpAny _ _ (forIn vs _ _) _ _ s
  rw [← Array.forIn_toList]
  refine wpAny_forIn_list _ (fun rest r s' => (r.1 = none ∨ r.1 = some false) ∧ s' = s ∧ ∀ v ∈ rest, HbyAt P w n s v) _ ?_ ?_ _ _ ⟨.inl rfl, rfl, hq⟩
  · rintro v rest r s' ⟨hr, rfl, hall⟩
    refine wpAny_bind (hall v List.mem_cons_self A E _ fun q => ?_)
    cases q
    · simp only [Bool.not_false, if_true]
      exact wpAny_pure (wpAny_pure (h _))
    · simp only [Bool.not_true, Bool.false_eq_true, if_false]
      exact wpAny_pure ⟨.inl rfl, rfl, fun u hu' => hall u (List.mem_cons_of_mem _ hu')⟩
  · rintro ⟨r1, r2⟩ s' ⟨hr, rfl, _⟩
    simp only at hr
    rcases hr with hr | hr <;> subst hr <;> exact wpAny_pure (h _)
mutual
theorem cls_key : ∀ (k : NestedKey) (v : Value) (n : Nat), NestedIs s.heap k v → k.depth ≤ n → ClsAt P w n s v
  | .none, _, n, x, _ => by intro A E Q h; cases x; cases n <;> exact wpAny_pure h
  | .num i, _, n, x, _ => by intro A E Q h; cases x <;> cases n <;> exact wpAny_pure h
  | .text y, _, n, x, _ => by intro A E Q h; cases x; cases n <;> exact wpAny_pure h
  | .tup ks, _, n, x, hn => by
    cases x with
    | @tup b o vs m _ hg hc hd hk =>
      simp only [NestedKey.depth] at hn
      cases n with
      | zero => omega
      | succ n => exact .tup hg hc hd (cls_keys ks _ n hk (by omega))
theorem cls_keys : ∀ (ks : List NestedKey) (vs : List Value) (n : Nat), NestedAll s.heap ks vs → NestedKey.depthAll ks ≤ n → ∀ v ∈ vs, ClsAt P w n s v
  | [], _, n, x, _, v, hv => by cases x; cases hv
  | k :: ks, _, n, x, hn, v, hv => by
    cases x with
    | cons x1 x2 =>
      simp only [NestedKey.depthAll] at hn
      rcases List.mem_cons.mp hv with e | hv
      · rw [e]; exact cls_key k _ n x1 (by omega)
      · exact cls_keys ks _ n x2 (by omega) v hv
end
mutual
theorem hby_key : ∀ (k : NestedKey) (v : Value) (n : Nat), NestedIs s.heap k v → HbyAt P w n s v
  | .none, _, n, x => by intro A E Q h; cases x; cases n <;> exact wpAny_pure (h _)
  | .num i, _, n, x => by intro A E Q h; cases x <;> cases n <;> exact wpAny_pure (h _)
  | .text y, _, n, x => by intro A E Q h; cases x; cases n <;> exact wpAny_pure (h _)
  | .tup ks, _, n, x => by
    cases x with
    | @tup b o vs m _ hg hc hd hk =>
      cases n with
      | zero => intro A E Q h; exact wpAny_pure (h _)
      | succ n => exact .tup hg hc hd (hby_keys ks _ n hk)
theorem hby_keys : ∀ (ks : List NestedKey) (vs : List Value) (n : Nat), NestedAll s.heap ks vs → ∀ v ∈ vs, HbyAt P w n s v
  | [], _, n, x, v, hv => by cases x; cases hv
  | k :: ks, _, n, x, v, hv => by
    cases x with
    | cons x1 x2 =>
      rcases List.mem_cons.mp hv with e | hv
      · rw [e]; exact hby_key k _ n x1
      · exact hby_keys ks _ n x2 v hv
end
end
/-- tuples of ints, texts, None and such tuples, to depth 8 -/
def nkd (P : Program) (w : World) : SKd P w NestedKey where
  toHeapKind := nestedKind P w
  keepS := fun {h h' k b d o es ep t} x ho hd hs => ⟨NestedIs.at (fun c ob vs n hb hc => by
    refine (hs.2 c fun e => ?_).trans hb
    subst e
    rw [ho] at hb
    cases hb
    rw [hd] at hc
    cases hc) k _ x.1, x.2⟩
  grow := fun {h h' k b} x hg => ⟨NestedIs.at (fun c o vs n hb _ => hg c o hb) k _ x.1, x.2⟩
  cls := fun {A E s k b Q} x h => cls_key k _ 8 x.1 x.2 A E Q h
  hby := fun {A E s k b Q} x h => hby_key k _ 8 x.1 A E Q h
end LPS

set_option autoImplicit false
set_option linter.all false
set_option maxRecDepth 100000
set_option maxHeartbeats 4000000
/-! sorted(set(xs)), len(set(xs)), xs a list of tuples -/
namespace LPS
open PySem PySem.Spec PyProof.Rows L2 LP
theorem perm_of_map {α β : Type} (f : α → β) : ∀ {M : List α} {l : List β}, l.Perm (M.map f) → ∃ M1 : List α, M1.Perm M ∧ M1.map f = l
  | [], l, h => ⟨[], .refl _, (List.Perm.eq_nil (by simpa using h)).symm⟩
  | m :: M, l, h => by
    have hm : f m ∈ l := h.mem_iff.mpr (by simp)
    obtain ⟨a, b, rfl⟩ := List.append_of_mem hm
    have h1 : (a ++ b).Perm (M.map f) := by
      have : (f m :: (a ++ b)).Perm (f m :: M.map f) := (List.perm_middle.symm).trans (by simpa using h)
      exact this.cons_inv
    obtain ⟨M1, p, e⟩ := perm_of_map f h1
    refine ⟨M1.take a.length ++ m :: M1.drop a.length, ?_, ?_⟩
    · refine List.perm_middle.trans (.cons m ?_)
      rw [List.take_append_drop]
      exact p
    · rw [List.map_append, List.map_cons, List.map_take, List.map_drop, e, List.take_left', List.drop_left'] <;> rfl
mutual
def nk : D → NestedKey
  | .int i => .num i
  | .str s => .text (sV s)
  | .tup ds => .tup (nks ds)
  | .non => .none
  | .bl _ => .none
  | .lst _ _ => .none
  | .dct _ _ => .none
  | .ins _ _ _ => .none
  | .scr _ => .none
def nks : List D → List NestedKey
  | [] => []
  | d :: ds => nk d :: nks ds
end
mutual
theorem nk_inj : ∀ (a b : D), keyOk a = true → keyOk b = true → nk a = nk b → a = b
  | a, b, ha, hb, h => by
    cases a <;> cases b <;> first | (simp [keyOk] at ha; done) | (simp [keyOk] at hb; done) | (simp [nk] at h; done) | skip
    · rfl
    · simp only [nk, NestedKey.num.injEq] at h; rw [h]
    · simp only [nk, NestedKey.text.injEq] at h; rw [sV_inj h]
    · rename_i x y
      simp only [nk, NestedKey.tup.injEq] at h
      simp only [keyOk] at ha hb
      rw [nks_inj x y ha hb h]
theorem nks_inj : ∀ (a b : List D), keyOkL a = true → keyOkL b = true → nks a = nks b → a = b
  | [], [], _, _, _ => rfl
  | [], _ :: _, _, _, h => by simp [nks] at h
  | _ :: _, [], _, _, h => by simp [nks] at h
  | x :: a, y :: b, ha, hb, h => by
    simp only [keyOkL, Bool.and_eq_true] at ha hb
    simp only [nks, List.cons.injEq] at h
    rw [nk_inj x y ha.1 hb.1 h.1, nks_inj a b ha.2 hb.2 h.2]
end
mutual
theorem nk_depth : ∀ (d : D) (n : Nat), flatN d n = true → (nk d).depth ≤ n
  | d, n, h => by
    cases d <;> try (simp only [nk, NestedKey.depth]; omega)
    rename_i ds
    cases n <;> simp only [flatN, Bool.false_eq_true] at h
    have := nks_depth ds _ h
    simp only [nk, NestedKey.depth]; omega
theorem nks_depth : ∀ (ds : List D) (n : Nat), flatNL ds n = true → NestedKey.depthAll (nks ds) ≤ n
  | [], n, h => by simp only [nks, NestedKey.depthAll]; omega
  | d :: ds, n, h => by
    simp only [flatNL, Bool.and_eq_true] at h
    have h1 := nk_depth d n h.1
    have h2 := nks_depth ds n h.2
    simp only [nks, NestedKey.depthAll]; omega
end
mutual
theorem nk_is {h : Heap} : ∀ (d : D) (u : Value) (as : List Addr), keyOk d = true → Reads h u (toP d) as → NestedIs h (nk d) u
  | d, u, as, hk, r => by
    cases d <;> first | (simp [keyOk] at hk; done) | skip
    · simp only [toP] at r; cases r; exact .none
    · simp only [toP] at r; cases r; exact .int _ _
    · simp only [toP] at r; cases r; exact .text _ _
    · simp only [toP] at r
      simp only [keyOk] at hk
      cases r with
      | tuple h1 h2 h3 h4 => exact .tup h1 h2 h3 (nks_is _ _ _ hk h4)
theorem nks_is {h : Heap} : ∀ (ds : List D) (us : List Value) (as : List Addr), keyOkL ds = true → ReadsAll h us (toPs ds) as → NestedAll h (nks ds) us
  | [], us, as, hk, r => by simp only [toPs] at r; cases r; exact .nil
  | d :: ds, us, as, hk, r => by
    simp only [keyOkL, Bool.and_eq_true] at hk
    simp only [toPs] at r
    cases r with
    | cons h1 h2 => exact .cons (nk_is d _ _ hk.1 h1) (nks_is ds _ _ hk.2 h2)
end
theorem refs_each {out : List Value} {L : List (Addr × D)} (h : PySem.W.EachIs (fun u (p : Addr × D) => u = Value.ref p.1) out L) : out = L.map fun q => Value.ref q.1 := by
  induction h with
  | nil => rfl
  | cons q _ ih => rw [List.map_cons, ← ih, q]
section
variable {P : Program} {w : World} {A : Around} {E : Value → Shared → Prop} {s : Shared}
open PySem.W in
/-- sorted(set) -/
theorem sorted_setK {a : Addr} {M : List (Addr × D)} {es : Array (Int × Value)} {ep : Nat} {t : SetTable} {Q : Value → Shared → Prop} (R : STR (nkd P w) s.heap a (M.map fun p => (p.1, nk p.2)) es ep t) (hh : A.handled = none)
    (er : ∀ p ∈ M, ∃ as, Reads s.heap (.ref p.1) (toP p.2) as) (hal : AllAlike (M.map fun p => toP p.2)) (hk : Sortable (M.map fun p => toP p.2)) (hu : ∀ p ∈ M, A.units + 2 + (toP p.2).depth < cLine)
    (hQ : ∀ s' p (out : List Value) (c : Nat) (M' : List (Addr × D)), (∀ b o, s.heap.get? b = some o → s'.heap.get? b = some o) → s'.gens = s.gens → s'.os = s.os → s.heap.objs.size ≤ p →
      s'.heap.get? p = some (seqObj "list" out.toArray c) → out = M'.map (fun q => Value.ref q.1) → M'.Perm M → M'.Pairwise (fun q r => dle q.2 r.2) → Q (.ref p) s') :
    wpAny (model P w) A (call (.builtin "sorted") [.ref a]) Q E s := by
  obtain ⟨o, ho, hex, hd⟩ := R.ob
  have hsz := R.size
  have hfew := R.few
  refine Calls.call_function_entry kind_sorted plain_sorted entry_sorted (args_sorted1 _) ?_
  unfold Builtin.«sorted»
  refine wpAny_bind (m := checkCount "sorted" 1 1 _) (wpAny_pure ?_)
  refine wpAny_bind (collect_set (A := A.in1) hh ⟨o, ho, hex.1, hd⟩ R.fits (by unfold scanBound; omega) R.tab.ris R.led fun s1 vs k1 hz g1 o1 pm => ?_)
  have hes : es.toList.map (·.2) = M.map fun q => Value.ref q.1 := by
    rw [R.rows]
    unfold rowsK
    rw [List.map_map, List.map_map] <;> rfl
  rw [hes] at pm
  obtain ⟨M1, pM, e1⟩ := perm_of_map _ pm
  subst e1
  have hl1 : (M1.map fun q => Value.ref q.1).length < 64 := by rw [List.length_map, pM.length_eq]; rw [List.length_map] at hfew; exact hfew
  refine wpAny_bind (wpAny_newList ?_ (by rw [sizeLine_eq]; omega))
  generalize hvs : (M1.map fun q => Value.ref q.1) = vs at hl1 ⊢
  have hoL : (s1.heap.push (seqObj "list" vs.toArray 0)).get? s1.heap.objs.size = some (seqObj "list" vs.toArray 0) := Heap.get?_push_size _ rfl
  have ev : EachIs (fun u (p : Addr × D) => u = Value.ref p.1) vs M1 := by
    rw [← hvs]
    clear hvs hoL hl1 pm pM
    induction M1 with
    | nil => exact .nil
    | cons p M1 ih => exact .cons rfl ih
  have old : ∀ b u, s1.heap.get? b = some u → (sortingHeap (s1.heap.push (seqObj "list" vs.toArray 0)) s1.heap.objs.size vs).get? b = some u := fun b u q => by
    have hlt := Heap.lt_size q
    exact sortingHeap_old (Nat.ne_of_lt hlt) (Heap.get?_push_of_some _ q)
  have er' : EachIs (fun v (b : Addr × D) => ∃ as, Reads (sortingHeap (s1.heap.push (seqObj "list" vs.toArray 0)) s1.heap.objs.size vs) v (toP b.2) as) vs M1 := by
    refine EachIs.of_zip ev.length fun p m => ?_
    have h1 := ev.zip p m
    obtain ⟨as, r⟩ := er p.2 (pM.mem_iff.mp (List.of_mem_zip m).2)
    rw [h1]
    exact ⟨as, PyProof.Rows.Reads.keeps (fun b u q => old b u (k1 b u q)) r⟩
  have hal1 : AllAlike (M1.map fun p => toP p.2) := fun d hd d' hd' => hal d ((pM.map _).mem_iff.mp hd) d' ((pM.map _).mem_iff.mp hd')
  have hk1 : Sortable (M1.map fun p => toP p.2) := by
    rcases hk with h | h
    · exact .inl fun d hd => h d ((pM.map _).mem_iff.mp hd)
    · exact .inr fun d hd => h d ((pM.map _).mem_iff.mp hd)
  have hL : vs.length ≤ sizeLine := by rw [sizeLine_eq]; omega
  refine wpAny_bind (wpAny_holding (wpAny_call_entry slot_list_sort ⟨_, hoL, rfl⟩ entry_list_sort (list_sort_vals (s := { s1 with heap := s1.heap.push (seqObj "list" vs.toArray 0) }) (κ := dataKind (sortingHeap (s1.heap.push (seqObj "list" vs.toArray 0)) s1.heap.objs.size vs) (M1.map fun p => toP p.2)) hoL (SortsAt.data (s := { s1 with heap := sortingHeap (s1.heap.push (seqObj "list" vs.toArray 0)) s1.heap.objs.size vs }) (each_map (R := fun v d => ∃ as, Reads (sortingHeap (s1.heap.push (seqObj "list" vs.toArray 0)) s1.heap.objs.size vs) v d as) (fun p : Addr × D => toP p.2) er') hal1 hk1 (bound_map (A := A.in1.in1) (enc := fun p : Addr × D => toP p.2) fun b hb => hu b (pM.mem_iff.mp hb))) hL ⟨_, rfl, ?_⟩) (args_list_sort _)))
  refine wpAny_pure ⟨_, rfl, ?_⟩
  have eo := sortVals_data (h' := sortingHeap (s1.heap.push (seqObj "list" vs.toArray 0)) s1.heap.objs.size vs) false ev er' hal1
  generalize sortVals (dataKind (sortingHeap (s1.heap.push (seqObj "list" vs.toArray 0)) s1.heap.objs.size vs) (M1.map fun p => toP p.2)) false vs vs = out at eo ⊢
  obtain ⟨c, hc⟩ := sortedHeap_at (vs := vs) (out := out.toArray) hoL
  have pS := List.mergeSort_perm M1 (dataLe false fun p : Addr × D => toP p.2)
  refine hQ _ s1.heap.objs.size out c (M1.mergeSort (dataLe false fun p => toP p.2)) (fun b u e => ?_) g1 o1 hz hc ?_ (pS.trans pM) ?_
  · have q := k1 b u e
    have hlt := Heap.lt_size q
    show (sortedHeap (s1.heap.push (seqObj "list" vs.toArray 0)) s1.heap.objs.size vs out.toArray).get? b = some u
    rw [sortedHeap_old (Nat.ne_of_lt hlt) (by rw [size_push']; exact Nat.lt_succ_of_lt hlt)]
    exact Heap.get?_push_of_some _ q
  · exact refs_each eo
  · have tl := sortLe_total (PyProof.Rows.listOrd PyProof.Rows.itemOrd) false (fun p : Addr × D => keyToks (toP p.2))
    have := List.pairwise_mergeSort (le := dataLe false fun p : Addr × D => toP p.2) (fun a b c => tl.trans a b c) (fun a b => by have := tl.total a b; rw [Bool.or_eq_true]; exact this) M1
    refine this.imp fun {a b} q => ?_
    rw [dataLe_eq] at q
    simpa [dle, dlt] using q
end
end LPS

set_option autoImplicit false
set_option linter.all false
set_option maxRecDepth 100000
set_option maxHeartbeats 4000000
/-! set(xs), sorted(a set) in the layer -/
namespace LPS
open PySem PySem.Spec PyProof.Rows L2 LP
/-- the set at a, without the tuples themselves -/
structure STR0 (P : Program) (w : World) (h : Heap) (a : Addr) (L : List (Addr × NestedKey)) : Prop where
  ex : ∃ (es : Array (Int × Value)) (ep : Nat) (t : SetTable), (∃ o, h.get? a = some o ∧ o.ExactSet ∧ o.data = .set es ep t) ∧ es.toList = rowsK (nkd P w) L ∧ TabOk t (L.map fun p => (nkd P w).hash p.2) ∧ (L.map (·.2)).Nodup ∧
    (w.params.followText "set-order" = true ∨ t.led = true) ∧ L.length * 5 < t.mask * 3 ∧ L.length < 64
def SetNO (P : Program) (w : World) (a : Addr) (L : List (Addr × NestedKey)) : HO := .ext fun h => STR0 P w h a L
theorem STR.t0 {P : Program} {w : World} {h : Heap} {a : Addr} {L : List (Addr × NestedKey)} {es : Array (Int × Value)} {ep : Nat} {t : SetTable} (R : STR (nkd P w) h a L es ep t) : STR0 P w h a L :=
  ⟨es, ep, t, R.ob, R.rows, R.tab, R.nd, R.led, R.room, R.few⟩
theorem STR0.full {P : Program} {w : World} {h : Heap} {a : Addr} {L : List (Addr × NestedKey)} (R : STR0 P w h a L) (ht : ∀ p ∈ L, (nkd P w).is h p.2 p.1) : ∃ es ep t, STR (nkd P w) h a L es ep t := by
  obtain ⟨es, ep, t, h1, h2, h3, h4, h6, h7, h8⟩ := R.ex
  exact ⟨es, ep, t, h1, h2, h3, h4, ht, h6, h7, h8⟩
theorem setNO_new {P : Program} {w : World} {H : Hp} {h : Heap} {a : Addr} {L : List (Addr × NestedKey)} (R : STR0 P w h a L) : ObjOk P w H h a (SetNO P w a L) := by
  have ⟨es, ep, t, ⟨o, ho, r⟩, q⟩ := R.ex
  refine ⟨R, ⟨o, ho⟩, fun h1 h2 p k => ?_⟩
  have ⟨es', ep', t', ⟨o', ho', r'⟩, q'⟩ := STR0.ex p
  exact ⟨es', ep', t', ⟨o', k o' ho', r'⟩, q'⟩
def isTp : D → Bool
  | .tup _ => true
  | _ => false
/-- what a set of tuples asks of its items -/
structure TOk (ds : List D) : Prop where
  ke : keyOkL ds = true
  fl : flatNL ds 8 = true
  tp : ∀ d ∈ ds, isTp d = true
theorem keyOkL_mem : ∀ {ds : List D}, keyOkL ds = true → ∀ d ∈ ds, keyOk d = true
  | [], _, _, m => nomatch m
  | d :: ds, h, e, m => by
    simp only [keyOkL, Bool.and_eq_true] at h
    rcases List.mem_cons.mp m with rfl | m
    · exact h.1
    · exact keyOkL_mem h.2 e m
section
variable {g : Gk} {call : LP.Cll} {σ : L2.St} {F F1 F2 : AS} {H H1 H2 : Hp} {T T1 T2 R : AS} {X : Cx}
/-- a tracked tuple is a key -/
theorem is_of (K : X.K = g.K) {pins : List (Addr × Obj)} {s : Shared} {a : Addr} {d : D} {U : AS} (I : Inv X pins σ H s) (h : Rp g F H d (.ref a) U) (hk : keyOk d = true) (hf : flatN d 8 = true) : (nkd X.prog X.w).is s.heap (nk d) a := by
  obtain ⟨as, r⟩ := Dp.reads I (toP d) (.ref a) (.ref a) (K ▸ flat_dp d 8 _ _ hf h) rfl
  exact ⟨nk_is d _ _ hk r, nk_depth d 8 hf⟩
/-- set(xs), xs a list or tuple of tuples -/
def rSetN (g : Gk) (P : Program) (w : World) : List V → Hp → VK → Prop := fun xs H Q => ∃ (F : AS) (l : Addr) (ks : List (Addr × D)), xs = [V.ref l] ∧ (H l = some (.lst (ks.map fun p => V.ref p.1)) ∨ H l = some (.tup (ks.map fun p => V.ref p.1))) ∧ (∀ p ∈ ks, Rp g F H p.2 (.ref p.1) e0) ∧ TOk (ks.map (·.2)) ∧
  (∀ L : List (Addr × D), (∀ p ∈ L, p ∈ ks) → (L.map (·.2)).Nodup → L.length < 64) ∧
  ∀ (a : Addr) (M : List (Addr × D)), H a = none → (∀ p ∈ M, p ∈ ks) → (∀ p ∈ ks, p.2 ∈ M.map (·.2)) → (M.map (·.2)).Nodup → Q (.ref a) (upd H a (SetNO P w a (M.map fun p => (p.1, nk p.2))))
/-- set(xs), xs a list or tuple of numbers -/
def rSetI (w : World) : List V → Hp → VK → Prop := fun xs H Q => ∃ (l : Addr) (ns : List Int), xs = [V.ref l] ∧ (H l = some (.lst (ns.map V.int)) ∨ H l = some (.tup (ns.map V.int))) ∧ ns.length + 1 < scanBound ∧
  ∀ (a : Addr) (L : List Int), H a = none → L.Nodup → (∀ k, k ∈ L ↔ k ∈ ns) → Q (.ref a) (upd H a (SetO w a (fun j => decide (j ∈ ns)) L.length))
/-- how many -/
theorem setR_cnt {w : World} {h : Heap} {a : Addr} {S : Int → Bool} {n : Nat} (R : SetR w h a S n) : ∃ L : List Int, L.Nodup ∧ (∀ k, k ∈ L ↔ S k = true) ∧ L.length = n := by
  obtain ⟨o, es, ep, t, ho, hex, hd, g, nd, hm, hb, hf, hn, hr, hl⟩ := R
  exact ⟨_, nd, fun k => (hm k).symm, by rw [List.length_map, Array.length_toList]; exact hn⟩
theorem intsV_of : ∀ {ns : List Int} {us : List Value}, Vals (ns.map V.int) us → IntsAre us ns
  | [], _, .nil => .nil
  | n :: ns, _, .cons r t => by
    obtain ⟨k, rfl⟩ := r
    exact .cons n k (intsV_of t)
theorem refsK : ∀ {ks : List (Addr × D)} {us : List Value}, Vals (ks.map fun p => V.ref p.1) us → us = (ks.map fun p => (p.1, nk p.2)).map fun p => Value.ref p.1
  | [], _, .nil => rfl
  | p :: ks, _, .cons r t => by
    cases r
    rw [refsK t] <;> rfl
theorem tok_inj {ds : List D} (h : TOk ds) {a b : D} (ha : a ∈ ds) (hb : b ∈ ds) (e : nk a = nk b) : a = b := nk_inj a b (keyOkL_mem h.ke a ha) (keyOkL_mem h.ke b hb) e
/-- rows of keys are rows of values -/
theorem un_nk {ks : List (Addr × D)} : ∀ {L : List (Addr × NestedKey)}, (∀ p ∈ L, p ∈ ks.map fun p => (p.1, nk p.2)) → ∃ M : List (Addr × D), L = M.map (fun p => (p.1, nk p.2)) ∧ ∀ p ∈ M, p ∈ ks
  | [], _ => ⟨[], rfl, fun p h => nomatch h⟩
  | q :: L, h => by
    obtain ⟨p, hp, e⟩ := List.mem_map.mp (h q List.mem_cons_self)
    obtain ⟨M, e1, h1⟩ := un_nk (L := L) fun r hr => h r (List.mem_cons_of_mem _ hr)
    refine ⟨p :: M, by rw [List.map_cons, e, e1], fun r hr => ?_⟩
    rcases List.mem_cons.mp hr with z | z
    · rw [z]; exact hp
    · exact h1 r z
theorem cr_setN (K : X.K = g.K) (hc : X.calm = true) (hu : X.A.units + 66 < cLine) : CallR X (.type "set") (fun xs H Q => rSetN g X.prog X.w xs H Q ∨ rSetI X.w xs H Q) := by
  intro pins s σ H xs us Q I r h
  rcases h with ⟨F, l, ks, rfl, hl, hk, ok, few, q⟩ | ⟨l, ns, rfl, hl, hb, q⟩
  rotate_left
  · rw [Vals.ref1 r]
    have hn : H s.heap.objs.size = none := I.hok.fresh (Nat.le_refl _)
    have fin : ∀ (h' : Heap) (tk c : Nat), SetR X.w h' s.heap.objs.size (fun j => decide (j ∈ ns)) c → (∀ b o, s.heap.get? b = some o → h'.get? b = some o) → EP X pins σ Q (.ref s.heap.objs.size) { s with heap := h', toks := tk } := fun h' tk c R k => by
      obtain ⟨L, nd, hm, rfl⟩ := setR_cnt R
      exact ⟨.ref s.heap.objs.size, _, I.laid (t' := tk) k (Nat.le_refl _) (setO_new R), rfl, q _ L hn nd fun k => (hm k).trans (by simp)⟩
    rcases hl with hl | hl
    · obtain ⟨its, rv, pl, hz⟩ := I.list (SqL.of hl)
      exact call_setI_list ns (I.ok.hd hc) pl.isList (by simpa using intsV_of rv) hb fin
    · obtain ⟨its, rv, pl, hz⟩ := I.tuple (SqT.of hl)
      exact call_setI_tuple ns (I.ok.hd hc) pl (by simpa using intsV_of rv) hb fin
  rw [Vals.ref1 r]
  have hn : H s.heap.objs.size = none := I.hok.fresh (Nat.le_refl _)
  have h1 : ∀ p ∈ ks.map fun p => (p.1, nk p.2), (nkd X.prog X.w).is s.heap p.2 p.1 := fun p hp => by
    obtain ⟨p', hp', rfl⟩ := List.mem_map.mp hp
    have hm : p'.2 ∈ ks.map (·.2) := List.mem_map.mpr ⟨p', hp', rfl⟩
    exact is_of K I (hk p' hp') (keyOkL_mem ok.ke _ hm) (flatL_mem ok.fl _ hm)
  have h2 : ∀ L : List (Addr × NestedKey), (∀ p ∈ L, p ∈ ks.map fun p => (p.1, nk p.2)) → (L.map (·.2)).Nodup → L.length < 64 := fun L hL hd => by
    obtain ⟨M, rfl, hM⟩ := un_nk hL
    rw [List.length_map]
    refine few M hM ?_
    rw [List.map_map] at hd
    have : M.map ((fun x : Addr × NestedKey => x.2) ∘ fun p => (p.1, nk p.2)) = (M.map (·.2)).map nk := by rw [List.map_map]; rfl
    rw [this] at hd
    exact nodup_of_map hd
  have h3 : X.A.in1.in1.in1.units + 8 < cLine := by simp only [Around.in1_units]; omega
  have h4 : ∀ (h' : Heap) (tk : Nat) L es ep t, STR (nkd X.prog X.w) h' s.heap.objs.size L es ep t → GotK (ks.map fun p => (p.1, nk p.2)) (ks.map fun p => (p.1, nk p.2)).length L → (∀ b o, s.heap.get? b = some o → h'.get? b = some o) → EP X pins σ Q (.ref s.heap.objs.size) { s with heap := h', toks := tk } := fun h' tk L es ep t R gt k => by
    have hsub : ∀ p ∈ L, p ∈ ks.map fun p => (p.1, nk p.2) := fun p hp => List.mem_of_mem_take (gt.sub p hp)
    obtain ⟨M, rfl, hM⟩ := un_nk hsub
    refine ⟨.ref s.heap.objs.size, upd H s.heap.objs.size (SetNO X.prog X.w s.heap.objs.size (M.map fun p => (p.1, nk p.2))), I.laid (t' := tk) k (Nat.le_refl _) (setNO_new R.t0), rfl, q _ M hn hM (fun p hp => ?_) ?_⟩
    · have := gt.all (p.1, nk p.2) (by rw [List.take_length]; exact List.mem_map.mpr ⟨p, hp, rfl⟩)
      rw [List.map_map] at this
      obtain ⟨m, hm, e⟩ := List.mem_map.mp this
      have e' : nk m.2 = nk p.2 := e
      have := tok_inj ok (List.mem_map.mpr ⟨m, hM m hm, rfl⟩) (List.mem_map.mpr ⟨p, hp, rfl⟩) e'
      exact List.mem_map.mpr ⟨m, hm, this⟩
    · have := R.nd
      rw [List.map_map] at this
      have e : M.map ((fun x : Addr × NestedKey => x.2) ∘ fun p => (p.1, nk p.2)) = (M.map (·.2)).map nk := by rw [List.map_map]; rfl
      rw [e] at this
      exact nodup_of_map this
  rcases hl with hl | hl
  · obtain ⟨its, rv, pl, hz⟩ := I.list (SqL.of hl)
    exact call_setK_list (P := X.prog) (w := X.w) (kd := nkd X.prog X.w) (ks.map fun p => (p.1, nk p.2)) (I.ok.hd hc) pl.isList (by simpa using refsK rv) h1 h2 h3 h4
  · obtain ⟨its, rv, pl, hz⟩ := I.tuple (SqT.of hl)
    exact call_setK_tuple (P := X.prog) (w := X.w) (kd := nkd X.prog X.w) (ks.map fun p => (p.1, nk p.2)) (I.ok.hd hc) pl (by simpa using refsK rv) h1 h2 h3 h4
end
end LPS

set_option autoImplicit false
set_option linter.all false
set_option maxRecDepth 100000
set_option maxHeartbeats 4000000
/-! sorted(set(xs)), len(set(xs)) of tuples, in one -/
namespace LPS
open PySem PySem.Spec PyProof.Rows L2 LP
mutual
theorem key_eqv : ∀ (a b : D), keyOk a = true → keyOk b = true → eqv a b = true → a = b
  | a, b, ha, hb, h => by
    cases a <;> cases b <;> first | (simp [keyOk] at ha; done) | (simp [keyOk] at hb; done) | (simp [eqv] at h; done) | skip
    · rfl
    · simp only [eqv, beq_iff_eq] at h; rw [h]
    · simp only [eqv, beq_iff_eq] at h; rw [h]
    · rename_i x y
      simp only [eqv] at h
      simp only [keyOk] at ha hb
      rw [keyL_eqv x y ha hb h]
theorem keyL_eqv : ∀ (a b : List D), keyOkL a = true → keyOkL b = true → eqvL a b = true → a = b
  | [], [], _, _, _ => rfl
  | [], _ :: _, _, _, h => by simp [eqvL] at h
  | _ :: _, [], _, _, h => by simp [eqvL] at h
  | x :: a, y :: b, ha, hb, h => by
    simp only [keyOkL, Bool.and_eq_true] at ha hb
    simp only [eqvL, Bool.and_eq_true] at h
    rw [key_eqv x y ha.1 hb.1 h.1, keyL_eqv a b ha.2 hb.2 h.2]
end
mutual
theorem key_self : ∀ (a : D), keyOk a = true → eqv a a = true
  | a, k => by
    cases a <;> first | (simp [keyOk] at k; done) | skip
    · simp only [eqv]
    · simp only [eqv, beq_self_eq_true]
    · simp only [eqv, beq_self_eq_true]
    · simp only [keyOk] at k
      simp only [eqv]
      exact keyL_self _ k
theorem keyL_self : ∀ (a : List D), keyOkL a = true → eqvL a a = true
  | [], _ => rfl
  | x :: a, k => by
    simp only [keyOkL, Bool.and_eq_true] at k
    simp only [eqvL, key_self x k.1, keyL_self a k.2, Bool.and_self]
end
section
variable {g : Gk} {call : LP.Cll} {σ : L2.St} {F F1 F2 : AS} {H H1 H2 : Hp} {T T1 T2 R : AS} {X : Cx}
/-- sorted(a set) -/
def rSortedN (g : Gk) (P : Program) (w : World) : List V → Hp → VK → Prop := fun vs H Q => ∃ (F : AS) (a : Addr) (M : List (Addr × D)), vs = [V.ref a] ∧ H a = some (SetNO P w a (M.map fun p => (p.1, nk p.2))) ∧ (∀ p ∈ M, Rp g F H p.2 (.ref p.1) e0) ∧ TOk (M.map (·.2)) ∧ sortOk (M.map (·.2)) = true ∧
  ∀ (M' : List (Addr × D)) (p : Addr), M'.Perm M → M'.Pairwise (fun q r => dle q.2 r.2) → H p = none → Q (.ref p) (upd H p (.lst (M'.map fun q => V.ref q.1)))
theorem cr_sortedN (K : X.K = g.K) (hc : X.calm = true) (hu : X.A.units + 66 < cLine) : CallR X (.builtin "sorted") (rSortedN g X.prog X.w) := by
  intro pins s σ H xs us Q I r h
  obtain ⟨F, a, M, rfl, ha, hk, ok, so, q⟩ := h
  have R0 : STR0 X.prog X.w s.heap a (M.map fun p => (p.1, nk p.2)) := (I.hok a _ ha).1
  obtain ⟨es, ep, t, R⟩ := R0.full fun p hp => by
    obtain ⟨p', hp', rfl⟩ := List.mem_map.mp hp
    have hm : p'.2 ∈ M.map (·.2) := List.mem_map.mpr ⟨p', hp', rfl⟩
    exact is_of K I (hk p' hp') (keyOkL_mem ok.ke _ hm) (flatL_mem ok.fl _ hm)
  rw [Vals.ref1 r]
  obtain ⟨hf, hal, hks⟩ := sortOk_iff so
  have em : (M.map fun p => toP p.2) = (M.map (·.2)).map toP := by rw [List.map_map]; rfl
  refine sorted_setK (M := M) R (I.ok.hd hc) (fun p hp => ?_) ?_ ?_ (fun p hp => ?_) fun s' p out c M' k gn o hp hg hout pm pw => ?_
  · have hm : p.2 ∈ M.map (·.2) := List.mem_map.mpr ⟨p, hp, rfl⟩
    exact Dp.reads I (toP p.2) (.ref p.1) (.ref p.1) (K ▸ flat_dp p.2 63 _ _ (flatL_mem hf _ hm) (hk p hp)) rfl
  · rw [em]
    intro d hd d' hd'
    obtain ⟨x, hx, rfl⟩ := List.mem_map.mp hd
    obtain ⟨y, hy, rfl⟩ := List.mem_map.mp hd'
    rw [alk_toP x y 63 63 (flatL_mem hf x hx) (flatL_mem hf y hy)]
    exact alk_mem hal hx hy
  · rw [em]; exact sortable_toP hf hks
  · have := (flat_lay p.2 63 (flatL_mem hf _ (List.mem_map.mpr ⟨p, hp, rfl⟩))).2
    omega
  · have hfew : M'.length < 64 := by rw [pm.length_eq]; have := R.few; rwa [List.length_map] at this
    have hlen : (M'.map fun q => V.ref q.1).length ≤ sizeLine := by rw [List.length_map, sizeLine_eq]; omega
    have hn : H p = none := I.hok.fresh hp
    have hv : Vals (M'.map fun q => V.ref q.1) out := by
      rw [hout]
      clear hlen hfew pw pm hout
      induction M' with
      | nil => exact .nil
      | cons q M' ih => exact .cons rfl ih
    have J : Inv X pins σ (upd H p (.lst (M'.map fun q => V.ref q.1))) { s with heap := s'.heap, gens := s'.gens, drawn := s'.drawn, toks := s'.toks } :=
      I.call (ch := []) (Un.laid k hp hn) (I.hok.laid k hp ⟨hlen, out, c, hv, hg⟩) (by rw [gn]; exact I.bare) (fun _ z => nomatch z)
    have e : s' = { s with heap := s'.heap, gens := s'.gens, drawn := s'.drawn, toks := s'.toks } := by
      cases s'
      cases s
      cases o
      rfl
    rw [e]
    exact ⟨.ref p, _, J, rfl, q M' p pm pw hn⟩
def rSortedA (g : Gk) (P : Program) (w : World) : List V → Hp → VK → Prop := fun vs H Q => rSortedN g P w vs H Q ∨ rSortedSet w vs H Q
theorem cr_sortedA (K : X.K = g.K) (hc : X.calm = true) (hu : X.A.units + 66 < cLine) : CallR X (.builtin "sorted") (rSortedA g X.prog X.w) := by
  intro pins s σ H xs us Q I r h
  rcases h with h | h
  · exact cr_sortedN K hc hu pins s σ H xs us Q I r h
  · exact cr_sortedSet hc pins s σ H xs us Q I r h
/-- len(a set) -/
def rLenA (g : Gk) (P : Program) (w : World) : List V → Hp → VK → Prop := fun vs H Q => (∃ (F : AS) (a : Addr) (M : List (Addr × D)), vs = [V.ref a] ∧ H a = some (SetNO P w a (M.map fun p => (p.1, nk p.2))) ∧ (∀ p ∈ M, Rp g F H p.2 (.ref p.1) e0) ∧ TOk (M.map (·.2)) ∧ Q (.int M.length) H)
  ∨ (∃ (a : Addr) (S : Int → Bool) (n : Nat), vs = [V.ref a] ∧ H a = some (SetO w a S n) ∧ Q (.int n) H)
theorem cr_lenA (K : X.K = g.K) : CallR X (.builtin "len") (rLenA g X.prog X.w) := by
  intro pins s σ H xs us Q I r h
  rcases h with ⟨F, a, M, rfl, ha, hk, ok, q⟩ | ⟨a, S, n, rfl, ha, q⟩
  · have R0 : STR0 X.prog X.w s.heap a (M.map fun p => (p.1, nk p.2)) := (I.hok a _ ha).1
    obtain ⟨es, ep, t, R⟩ := R0.full fun p hp => by
      obtain ⟨p', hp', rfl⟩ := List.mem_map.mp hp
      have hm : p'.2 ∈ M.map (·.2) := List.mem_map.mpr ⟨p', hp', rfl⟩
      exact is_of K I (hk p' hp') (keyOkL_mem ok.ke _ hm) (flatL_mem ok.fl _ hm)
    rw [Vals.ref1 r]
    obtain ⟨o, ho, hex, hd⟩ := R.ob
    have hs : es.size = M.length := by rw [R.size, List.length_map]
    have hl := R.few
    rw [List.length_map] at hl
    exact call_len_set ho hex hd R.fits (by rw [hs]; omega) ⟨.int M.length, H, I.tok _, ⟨_, by rw [hs]⟩, q⟩
  · rw [Vals.ref1 r]
    obtain ⟨o, es, ep, t, ho, hex, hd, g, nd, hm, hb, hf, hn, hr, hl⟩ := setO_get I ha
    have hb2 : es.size < 4096 := hb
    exact call_len_set ho hex hd hf (by omega) ⟨.int n, H, I.tok _, ⟨_, by rw [hn]⟩, q⟩
/-- the ks of a read list of tuples -/
theorem ks_of : ∀ {es : List D} {vs : List V} {U : AS}, LP.persL es = true → (∀ d ∈ es, isTp d = true) → RpL g F H es vs U → ∃ ks : List (Addr × D), vs = ks.map (fun p => V.ref p.1) ∧ es = ks.map (·.2) ∧ ∀ p ∈ ks, Rp g F H p.2 (.ref p.1) e0
  | [], vs, U, _, _, h => by simp only [RpL] at h; subst h; exact ⟨[], rfl, rfl, fun p h => nomatch h⟩
  | d :: es, vs, U, hp, ht, h => by
    simp only [LP.persL, Bool.and_eq_true] at hp
    simp only [RpL] at h
    obtain ⟨v, r, T1, T2, rfl, h1, h2, _⟩ := h
    obtain ⟨ks, rfl, rfl, hk⟩ := ks_of hp.2 (fun e he => ht e (List.mem_cons_of_mem _ he)) h2
    have := ht d List.mem_cons_self
    cases d <;> simp only [isTp, Bool.false_eq_true] at this
    have h0 := Rp.pers _ _ _ e0 hp.1 h1
    obtain ⟨a, vs, rfl, _⟩ := rp_tup h1
    refine ⟨(a, _) :: ks, rfl, rfl, fun p hm => ?_⟩
    rcases List.mem_cons.mp hm with rfl | hm
    · exact h0
    · exact hk p hm
theorem memV_iff {ds : List D} (h : keyOkL ds = true) {x : D} (hx : keyOk x = true) : memV x ds = true ↔ x ∈ ds := by
  induction ds with
  | nil => simp [memV]
  | cons d ds ih =>
    simp only [keyOkL, Bool.and_eq_true] at h
    simp only [memV, Bool.or_eq_true, ih h.2, List.mem_cons]
    constructor
    · rintro (e | e)
      · exact .inl (by
          have := key_eqv d x h.1 hx e
          exact this.symm)
      · exact .inr e
    · rintro (rfl | e)
      · exact .inl (key_self _ hx)
      · exact .inr e
end
end LPS

set_option autoImplicit false
set_option linter.all false
set_option maxRecDepth 100000
set_option maxHeartbeats 4000000
/-! sorted(set(xs)) -/
namespace LPS
open PySem PySem.Spec PyProof.Rows L2 LP
theorem setOk_iff {ds : List D} (h : setOk ds = true) : TOk ds ∧ sortOk ds = true ∧ (dedup ds).length < 64 := by
  unfold setOk at h
  simp only [Bool.and_eq_true, List.all_eq_true, decide_eq_true_eq, Bool.not_eq_true'] at h
  obtain ⟨⟨⟨⟨⟨h1, h2⟩, h3⟩, h4⟩, h5⟩, h6⟩ := h
  refine ⟨⟨h1, h2, fun d hd => ?_⟩, h3, h6⟩
  have a := h4 d hd
  have b := h5 d hd
  cases d <;> simp_all [isTupN, LP.isNon, isTp]
theorem insSet_mem {l : List D} (hk : keyOkL l = true) {x : D} (hx : keyOk x = true) : ∀ {ds : List D}, (∀ d ∈ ds, keyOk d = true) → ∀ y, y ∈ insSet x ds ↔ y = x ∨ y ∈ ds
  | [], _, y => by simp [insSet]
  | d :: ds, hd, y => by
    simp only [insSet]
    split
    · rename_i e
      have := key_eqv x d hx (hd d List.mem_cons_self) e
      subst this
      simp
    · split
      · simp
      · rw [List.mem_cons, insSet_mem hk hx (fun e he => hd e (List.mem_cons_of_mem _ he)), List.mem_cons]
        constructor
        · rintro (a | a | a) <;> simp_all
        · rintro (a | a | a) <;> simp_all
theorem setD_mem {l : List D} (hk : keyOkL l = true) : ∀ {ds : List D}, (∀ d ∈ ds, keyOk d = true) → ∀ y, y ∈ setD ds ↔ y ∈ ds
  | [], _, y => by simp [setD]
  | d :: ds, hd, y => by
    have ih := setD_mem hk (ds := ds) fun e he => hd e (List.mem_cons_of_mem _ he)
    simp only [setD]
    rw [insSet_mem hk (hd d List.mem_cons_self) (fun e he => hd e (List.mem_cons_of_mem _ ((ih e).mp he))), ih, List.mem_cons]
/-- strictly ascending -/
def dst (a b : D) : Prop := dlt a b = true
theorem insSet_pw {l : List D} (h : SOk l) (hk : keyOkL l = true) (x : D) (hx : x ∈ l) : ∀ ds : List D, (∀ d ∈ ds, d ∈ l) → ds.Pairwise dst → (insSet x ds).Pairwise dst
  | [], _, _ => List.pairwise_singleton _ _
  | d :: ds, hm, hp => by
    obtain ⟨p1, p2⟩ := List.pairwise_cons.mp hp
    have hd := hm d List.mem_cons_self
    simp only [insSet]
    split
    · exact hp
    · rename_i ne
      split
      · rename_i c
        rw [h.lt hx hd] at c
        refine List.pairwise_cons.mpr ⟨fun e he => ?_, hp⟩
        rcases List.mem_cons.mp he with rfl | he
        · exact c
        · exact dlt_tr c (p1 e he)
      · rename_i c
        rw [h.lt hx hd, Bool.not_eq_true] at c
        have hdx : dst d x := by
          show dlt d x = true
          cases q : dlt d x with
          | true => rfl
          | false =>
            have := h.one hx hd q c
            subst this
            exact absurd (key_self x (keyOkL_mem hk x hx)) ne
        refine List.pairwise_cons.mpr ⟨fun e he => ?_, insSet_pw h hk x hx ds (fun e he => hm e (List.mem_cons_of_mem _ he)) p2⟩
        rcases (insSet_mem hk (keyOkL_mem hk x hx) (fun e he => keyOkL_mem hk e (hm e (List.mem_cons_of_mem _ he))) e).mp he with rfl | he
        · exact hdx
        · exact p1 e he
theorem setD_pw {l : List D} (h : SOk l) (hk : keyOkL l = true) : ∀ ds : List D, (∀ d ∈ ds, d ∈ l) → (setD ds).Pairwise dst
  | [], _ => List.Pairwise.nil
  | d :: ds, hm => insSet_pw h hk d (hm d List.mem_cons_self) _ (fun e he => hm e (List.mem_cons_of_mem _ ((setD_mem hk (fun f hf => keyOkL_mem hk f (hm f (List.mem_cons_of_mem _ hf))) e).mp he))) (setD_pw h hk ds fun e he => hm e (List.mem_cons_of_mem _ he))
/-- setD is the one ascending list of the members, each once -/
theorem setD_one {ds l : List D} (h : SOk ds) (hk : keyOkL ds = true) (nd : l.Nodup) (hm : ∀ y, y ∈ l ↔ y ∈ ds) (w : l.Pairwise dle) : l = setD ds := by
  have hw := setD_pw h hk ds fun _ m => m
  have ms := setD_mem hk (ds := ds) fun d hd => keyOkL_mem hk d hd
  have nd2 : (setD ds).Nodup := hw.imp fun {a b} q e => by subst e; unfold dst at q; rw [dlt_irr] at q; cases q
  have pm : l.Perm (setD ds) := (List.perm_ext_iff_of_nodup nd nd2).mpr fun y => (hm y).trans (ms y).symm
  exact perm_one pm w (hw.imp fun q => dle_of q) fun a ha b hb => h.one ((hm a).mp ha) ((hm b).mp hb)
theorem dedup_mem {ds : List D} (hk : keyOkL ds = true) : (∀ y, y ∈ dedup ds ↔ y ∈ ds) ∧ (dedup ds).Nodup := by
  induction ds with
  | nil => simp [dedup]
  | cons d ds ih =>
    simp only [keyOkL, Bool.and_eq_true] at hk
    obtain ⟨i1, i2⟩ := ih hk.2
    simp only [dedup]
    split
    · rename_i e
      have := (memV_iff hk.2 hk.1).mp e
      refine ⟨fun y => ?_, i2⟩
      rw [i1, List.mem_cons]
      constructor
      · exact .inr
      · rintro (rfl | z)
        · exact this
        · exact z
    · rename_i e
      refine ⟨fun y => by rw [List.mem_cons, List.mem_cons, i1], List.nodup_cons.mpr ⟨fun z => e ((memV_iff hk.2 hk.1).mpr ((i1 d).mp z)), i2⟩⟩
theorem few_of {ks : List (Addr × D)} (hk : keyOkL (ks.map (·.2)) = true) (hf : (dedup (ks.map (·.2))).length < 64) (L : List (Addr × D)) (hL : ∀ p ∈ L, p ∈ ks) (nd : (L.map (·.2)).Nodup) : L.length < 64 := by
  have h := List.Nodup.length_le_of_subset nd (l₂ := dedup (ks.map (·.2))) fun y hy => by
    obtain ⟨p, hp, rfl⟩ := List.mem_map.mp hy
    exact ((dedup_mem hk).1 _).mpr (List.mem_map.mpr ⟨p, hL p hp, rfl⟩)
  rw [List.length_map] at h
  omega
theorem seqOf_inv {d : D} {es : List D} (h : seqOf d = some es) : LP.persL es = true ∧ (d = .tup es ∨ ∃ o, d = .lst o es) := by
  cases d <;> simp only [seqOf, reduceCtorEq] at h
  all_goals
    split at h
    · rename_i hp
      cases h
      first | exact ⟨hp, .inl rfl⟩ | exact ⟨hp, .inr ⟨_, rfl⟩⟩
    · cases h
/-! ints -/
theorem setOkI_iff {ds : List D} (h : setOkI ds = true) : ∃ ns : List Int, ds = ns.map D.int ∧ ns.length < 4000 ∧ (dedup ds).length < 64 := by
  unfold setOkI at h
  simp only [Bool.and_eq_true, List.all_eq_true, decide_eq_true_eq] at h
  obtain ⟨⟨h1, h2⟩, h3⟩ := h
  have : ∃ ns : List Int, ds = ns.map D.int := by
    clear h2 h3
    induction ds with
    | nil => exact ⟨[], rfl⟩
    | cons d ds ih =>
      obtain ⟨ns, rfl⟩ := ih fun x hx => h1 x (List.mem_cons_of_mem _ hx)
      have := h1 d List.mem_cons_self
      cases d <;> simp only [isI, Bool.false_eq_true] at this
      exact ⟨_ :: ns, rfl⟩
  obtain ⟨ns, rfl⟩ := this
  exact ⟨ns, rfl, by simpa using h2, h3⟩
theorem ints_ke (ns : List Int) : keyOkL (ns.map D.int) = true := by
  induction ns with
  | nil => rfl
  | cons n ns ih => simp only [List.map_cons, keyOkL, ih, keyOk, Bool.and_self]
theorem ints_fl (n : Nat) (ns : List Int) : flatNL (ns.map D.int) n = true := by
  induction ns with
  | nil => rfl
  | cons k ns ih => simp only [List.map_cons, flatNL, ih, Bool.and_true]; cases n <;> rfl
theorem ints_pe (ns : List Int) : LP.persL (ns.map D.int) = true := by
  induction ns with
  | nil => rfl
  | cons k ns ih => simp only [List.map_cons, LP.persL, ih, LP.pers, Bool.and_true]
theorem ints_alk (ns : List Int) : allAlk (ns.map D.int) = true := by
  simp only [allAlk, List.all_eq_true]
  intro a ha b hb
  obtain ⟨x, _, rfl⟩ := List.mem_map.mp ha
  obtain ⟨y, _, rfl⟩ := List.mem_map.mp hb
  rfl
theorem ints_sok (ns : List Int) : SOk (ns.map D.int) := ⟨ints_fl _ _, ints_alk _, ints_pe _⟩
theorem ints_dlt (a b : Int) : dlt (.int a) (.int b) = decide (a < b) := by
  have h := (ints_sok [a, b]).lt (a := .int a) (b := .int b) (by simp) (by simp)
  rw [← h]; rfl
/-- setD of numbers -/
theorem setD_ints {ns l : List Int} (hm : ∀ k, k ∈ l ↔ k ∈ ns) (hp : l.Pairwise (· < ·)) : l.map D.int = setD (ns.map D.int) := by
  refine setD_one (ints_sok ns) (ints_ke ns) ?_ (fun y => ?_) ?_
  · refine List.pairwise_map.mpr (hp.imp fun {a b} h e => ?_)
    cases e
    omega
  · simp only [List.mem_map]
    constructor
    · rintro ⟨k, hk, rfl⟩; exact ⟨k, (hm k).mp hk, rfl⟩
    · rintro ⟨k, hk, rfl⟩; exact ⟨k, (hm k).mpr hk, rfl⟩
  · refine List.pairwise_map.mpr (hp.imp fun {a b} h => ?_)
    show dlt _ _ = false
    rw [ints_dlt]
    simp only [decide_eq_false_iff_not]
    omega
theorem dedup_ints {ns l : List Int} (hm : ∀ k, k ∈ l ↔ k ∈ ns) (nd : l.Nodup) : (dedup (ns.map D.int)).length = l.length := by
  obtain ⟨h1, h2⟩ := dedup_mem (ints_ke ns)
  have nd2 : (l.map D.int).Nodup := List.pairwise_map.mpr (nd.imp fun {a b} h e => h (by cases e; rfl))
  have pm := (List.perm_ext_iff_of_nodup h2 nd2).mpr fun y => by
    rw [h1]
    simp only [List.mem_map]
    constructor
    · rintro ⟨k, hk, rfl⟩; exact ⟨k, (hm k).mpr hk, rfl⟩
    · rintro ⟨k, hk, rfl⟩; exact ⟨k, (hm k).mp hk, rfl⟩
  rw [pm.length_eq, List.length_map]
end LPS

set_option autoImplicit false
set_option linter.all false
set_option maxRecDepth 100000
set_option maxHeartbeats 4000000
/-! sorted(set(xs)) -/
namespace LPS
open PySem PySem.Spec PyProof.Rows L2 LP
theorem keyOkL_of : ∀ {ds : List D}, (∀ d ∈ ds, keyOk d = true) → keyOkL ds = true
  | [], _ => rfl
  | d :: ds, h => by simp only [keyOkL, Bool.and_eq_true]; exact ⟨h d List.mem_cons_self, keyOkL_of fun e he => h e (List.mem_cons_of_mem _ he)⟩
theorem flatNL_of {n : Nat} : ∀ {ds : List D}, (∀ d ∈ ds, flatN d n = true) → flatNL ds n = true
  | [], _ => rfl
  | d :: ds, h => by simp only [flatNL, Bool.and_eq_true]; exact ⟨h d List.mem_cons_self, flatNL_of fun e he => h e (List.mem_cons_of_mem _ he)⟩
theorem sortOk_sub {ds l : List D} (h : sortOk ds = true) (hs : ∀ d ∈ l, d ∈ ds) : sortOk l = true := by
  obtain ⟨h1, h2, h3⟩ := sortOk_iff h
  unfold sortOk flatL
  simp only [Bool.and_eq_true, Bool.or_eq_true, List.all_eq_true, Bool.not_eq_true']
  refine ⟨⟨flatNL_of fun d hd => flatL_mem h1 d (hs d hd), ?_⟩, ?_⟩
  · simp only [allAlk, List.all_eq_true]
    exact fun a ha b hb => alk_mem h2 (hs a ha) (hs b hb)
  · rcases h3 with h3 | h3
    · exact .inl fun d hd => h3 d (hs d hd)
    · exact .inr fun d hd => h3 d (hs d hd)
section
variable {g : Gk} {call : LP.Cll} {σ : L2.St} {F F1 F2 : AS} {H H1 H2 : Hp} {T T1 T2 R : AS} {X : Cx}
theorem sset_inv {ds : List D} {d : D} (h : blt .sortedSet ds = some d) : ∃ e es, ds = [e] ∧ seqOf e = some es ∧ (setOk es = true ∨ setOkI es = true) ∧ d = .lst true (setD es) := by
  match ds, h with
  | [e], h =>
    simp only [blt] at h
    split at h
    · rename_i hp
      split at h
      · rename_i hq
        simp only [Bool.or_eq_true] at hq
        cases h
        exact ⟨e, _, rfl, hp, hq, rfl⟩
      · cases h
    · cases h
theorem lset_inv {ds : List D} {d : D} (h : blt .lenSet ds = some d) : ∃ e es, ds = [e] ∧ seqOf e = some es ∧ (setOk es = true ∨ setOkI es = true) ∧ d = .int (dedup es).length := by
  match ds, h with
  | [e], h =>
    simp only [blt] at h
    split at h
    · rename_i hp
      split at h
      · rename_i hq
        simp only [Bool.or_eq_true] at hq
        cases h
        exact ⟨e, _, rfl, hp, hq, rfl⟩
      · cases h
    · cases h
/-- the reading of what `set` is given -/
theorem rp_seq {d : D} {es : List D} (h : seqOf d = some es) {v : V} {U : AS} (r : Rp g F H d v U) : ∃ l vs, v = .ref l ∧ (H l = some (.lst vs) ∨ H l = some (.tup vs)) ∧ RpL g F H es vs e0 := by
  obtain ⟨hp, rfl | ⟨o, rfl⟩⟩ := seqOf_inv h
  · obtain ⟨b, zs, rfl, hb, rr⟩ := rp_tup r
    exact ⟨b, zs, rfl, .inr hb, rr⟩
  · obtain ⟨b, zs, W', rfl, hb, rr⟩ := rp_lst r
    exact ⟨b, zs, rfl, .inl hb, RpL.of_all hp rr⟩
theorem rp_ints {ns : List Int} {vs : List V} {U : AS} : RpL g F H (ns.map D.int) vs U → vs = ns.map V.int := by
  induction ns generalizing vs U with
  | nil => intro h; simp only [List.map_nil, RpL] at h; rw [h]; rfl
  | cons n ns ih =>
    intro h
    simp only [List.map_cons, RpL] at h
    obtain ⟨v, r, T1, T2, rfl, h1, h2, _⟩ := h
    simp only [Rp] at h1
    rw [ih h2, h1]; rfl
theorem tset_imp {as : Es} {σ : L2.St} {H : Hp} {Q : VK} {P : Program} {w : World} (h : tE g call (.blt .sortedSet as) σ H Q) : tCB (rSortedA g P w) (tCons (tCB (fun xs H Q => rSetN g P w xs H Q ∨ rSetI w xs H Q) (tV g call as)) tNil) σ H Q := by
  obtain ⟨F, ρ, fp, s, o, ho, k⟩ := h
  simp only [LP.ev] at ho
  split at ho
  · rename_i ds ρ' h1
    split at ho
    · rename_i d hd
      cases ho
      obtain ⟨e, es, rfl, hq, so, rfl⟩ := sset_inv hd
      have hp := (seqOf_inv hq).1
      refine ⟨F, ρ, fp, s, _, ρ', h1, fun vs F1 H1 fp1 p1 r1 => ?_⟩
      obtain ⟨v, U, rfl, rr⟩ := rdl1 r1
      obtain ⟨l, ws, rfl, hl, rl⟩ := rp_seq hq rr
      rcases so with so | so
      · obtain ⟨tok, sok, few⟩ := setOk_iff so
        obtain ⟨hf, hal, hks⟩ := sortOk_iff sok
        have hS : SOk es := ⟨hf, hal, hp⟩
        obtain ⟨ks, rfl, rfl, hk⟩ := ks_of hp tok.tp rl
        refine .inl ⟨F1, l, ks, rfl, hl, hk, tok, few_of tok.ke few, fun a M hn hM hall hnd => ?_⟩
        have mem : ∀ y, y ∈ M.map (·.2) ↔ y ∈ ks.map (·.2) := fun y => by
          constructor
          · intro hy
            obtain ⟨p, hp', rfl⟩ := List.mem_map.mp hy
            exact List.mem_map.mpr ⟨p, hM p hp', rfl⟩
          · intro hy
            obtain ⟨p, hp', rfl⟩ := List.mem_map.mp hy
            exact hall p hp'
        obtain ⟨pa, up⟩ := p1.alloc (T := e0) (o := SetNO P w a (M.map fun p => (p.1, nk p.2))) hn (fun _ z => z.elim) (fun _ z => z.elim)
        have hk1 : ∀ p ∈ M, Rp g F1 (upd H1 a (SetNO P w a (M.map fun p => (p.1, nk p.2)))) p.2 (.ref p.1) e0 := fun p hp' => up _ _ _ (hk p (hM p hp')) fun _ z => z.elim
        have tokM : TOk (M.map (·.2)) := ⟨keyOkL_of fun d hd => keyOkL_mem tok.ke d ((mem d).mp hd), flatNL_of fun d hd => flatL_mem tok.fl d ((mem d).mp hd), fun d hd => tok.tp d ((mem d).mp hd)⟩
        refine .inl ⟨F1, a, M, rfl, upd_same, hk1, tokM, sortOk_sub sok fun d hd => (mem d).mp hd, fun M' p pm pw hpn => ?_⟩
        have e1 : M'.map (·.2) = setD (ks.map (·.2)) := setD_one hS tok.ke ((pm.map (·.2)).nodup_iff.mpr hnd) (fun y => ((pm.map (·.2)).mem_iff).trans (mem y)) (List.pairwise_map.mpr pw)
        have rL : RpL g F1 (upd H1 a (SetNO P w a (M.map fun p => (p.1, nk p.2)))) (setD (ks.map (·.2))) (M'.map fun q => V.ref q.1) e0 := by
          rw [← e1]
          have := rpL_of (g := g) (F := F1) (H := upd H1 a (SetNO P w a (M.map fun p => (p.1, nk p.2)))) (L := M'.map fun q => (q.2, V.ref q.1)) fun q hq => by
            obtain ⟨m, hm, rfl⟩ := List.mem_map.mp hq
            exact hk1 m (pm.mem_iff.mp hm)
          rw [List.map_map, List.map_map] at this
          exact this
        obtain ⟨T, p', r⟩ := pa.newV (new_lst pa.st.fz hpn rL)
        exact k _ F1 _ fp1 T p' r
      · obtain ⟨ns, rfl, hl4, few⟩ := setOkI_iff so
        obtain rfl := rp_ints rl
        refine .inr ⟨l, ns, rfl, hl, (show ns.length + 1 < 4096 by omega), fun a L hn nd hm => ?_⟩
        have hL : L.length < 64 := by rw [← dedup_ints hm nd]; exact few
        obtain ⟨pa, up⟩ := p1.alloc (T := e0) (o := SetO w a (fun j => decide (j ∈ ns)) L.length) hn (fun _ z => z.elim) (fun _ z => z.elim)
        refine .inr ⟨a, _, _, rfl, upd_same, hL, fun ms p pw hms hlen hpn => ?_⟩
        have e1 : ms.map D.int = setD (ns.map D.int) := setD_ints (fun k => (hms k).trans (by simp)) pw
        have rL : RpL g F1 (upd H1 a (SetO w a (fun j => decide (j ∈ ns)) L.length)) (setD (ns.map D.int)) (ms.map V.int) e0 := by
          rw [← e1]
          have := rpL_of (g := g) (F := F1) (H := upd H1 a (SetO w a (fun j => decide (j ∈ ns)) L.length)) (L := ms.map fun q => (D.int q, V.int q)) fun q hq => by
            obtain ⟨m, hm, rfl⟩ := List.mem_map.mp hq
            simp only [Rp]
          rw [List.map_map, List.map_map] at this
          exact this
        obtain ⟨T, p', r⟩ := pa.newV (new_lst pa.st.fz hpn rL)
        exact k _ F1 _ fp1 T p' r
    · cases ho
  · cases ho
theorem lset_imp {as : Es} {σ : L2.St} {H : Hp} {Q : VK} {P : Program} {w : World} (h : tE g call (.blt .lenSet as) σ H Q) : tCB (rLenA g P w) (tCons (tCB (fun xs H Q => rSetN g P w xs H Q ∨ rSetI w xs H Q) (tV g call as)) tNil) σ H Q := by
  obtain ⟨F, ρ, fp, s, o, ho, k⟩ := h
  simp only [LP.ev] at ho
  split at ho
  · rename_i ds ρ' h1
    split at ho
    · rename_i d hd
      cases ho
      obtain ⟨e, es, rfl, hq, so, rfl⟩ := lset_inv hd
      have hp := (seqOf_inv hq).1
      refine ⟨F, ρ, fp, s, _, ρ', h1, fun vs F1 H1 fp1 p1 r1 => ?_⟩
      obtain ⟨v, U, rfl, rr⟩ := rdl1 r1
      obtain ⟨l, ws, rfl, hl, rl⟩ := rp_seq hq rr
      rcases so with so | so
      · obtain ⟨tok, sok, few⟩ := setOk_iff so
        obtain ⟨ks, rfl, rfl, hk⟩ := ks_of hp tok.tp rl
        refine .inl ⟨F1, l, ks, rfl, hl, hk, tok, few_of tok.ke few, fun a M hn hM hall hnd => ?_⟩
        have mem : ∀ y, y ∈ M.map (·.2) ↔ y ∈ ks.map (·.2) := fun y => by
          constructor
          · intro hy
            obtain ⟨p, hp', rfl⟩ := List.mem_map.mp hy
            exact List.mem_map.mpr ⟨p, hM p hp', rfl⟩
          · intro hy
            obtain ⟨p, hp', rfl⟩ := List.mem_map.mp hy
            exact hall p hp'
        obtain ⟨pa, up⟩ := p1.alloc (T := e0) (o := SetNO P w a (M.map fun p => (p.1, nk p.2))) hn (fun _ z => z.elim) (fun _ z => z.elim)
        have hk1 : ∀ p ∈ M, Rp g F1 (upd H1 a (SetNO P w a (M.map fun p => (p.1, nk p.2)))) p.2 (.ref p.1) e0 := fun p hp' => up _ _ _ (hk p (hM p hp')) fun _ z => z.elim
        have tokM : TOk (M.map (·.2)) := ⟨keyOkL_of fun d hd => keyOkL_mem tok.ke d ((mem d).mp hd), flatNL_of fun d hd => flatL_mem tok.fl d ((mem d).mp hd), fun d hd => tok.tp d ((mem d).mp hd)⟩
        obtain ⟨d1, d2⟩ := dedup_mem tok.ke
        have hc : (dedup (ks.map (·.2))).length = M.length := by
          have pm := (List.perm_ext_iff_of_nodup d2 hnd).mpr fun y => (d1 y).trans (mem y).symm
          rw [pm.length_eq, List.length_map]
        refine .inl ⟨F1, a, M, rfl, upd_same, hk1, tokM, ?_⟩
        rw [hc] at k
        exact k (.int M.length) F1 _ fp1 e0 pa (mk_int (g := g) (F := F1) (H := upd H1 a (SetNO P w a (M.map fun p => (p.1, nk p.2)))) _ e0)
      · obtain ⟨ns, rfl, hl4, few⟩ := setOkI_iff so
        obtain rfl := rp_ints rl
        refine .inr ⟨l, ns, rfl, hl, (show ns.length + 1 < 4096 by omega), fun a L hn nd hm => ?_⟩
        obtain ⟨pa, up⟩ := p1.alloc (T := e0) (o := SetO w a (fun j => decide (j ∈ ns)) L.length) hn (fun _ z => z.elim) (fun _ z => z.elim)
        refine .inr ⟨a, _, _, rfl, upd_same, ?_⟩
        rw [dedup_ints hm nd] at k
        exact k (.int L.length) F1 _ fp1 e0 pa (mk_int (g := g) (F := F1) (H := upd H1 a (SetO w a (fun j => decide (j ∈ ns)) L.length)) _ e0)
    · cases ho
  · cases ho
end
end LPS

set_option autoImplicit false
set_option linter.all false
set_option maxRecDepth 100000
/-! sorted(set(xs)), len(set(xs)), as expressions -/
namespace LPS
open PySem PySem.Spec PyProof.Rows L2 LP
section
variable {g : Gk} {call : LP.Cll} {X : Cx}
theorem pe_sortedSetL {a : Expr} {p p2 pos pos2 : Pos} {as : Es} (K : X.K = g.K) (hc : X.calm = true) (hu : X.A.units + 66 < cLine) (hg : Gl X "sorted") (hm : X.mg "sorted" = none) (hg2 : Gl X "set") (hm2 : X.mg "set" = none) (ha : PA X [a] (tV g call as))
    (hs : starEach [.Call (.Name "set" p2) [a] [] pos2] X.env = (false, eval (.Call (.Name "set" p2) [a] [] pos2) X.env) :: starEach [] X.env) (hs2 : starEach [a] X.env = (false, eval a X.env) :: starEach [] X.env) :
    PE X (.Call (.Name "sorted" p) [.Call (.Name "set" p2) [a] [] pos2] [] pos) (tE g call (.blt .sortedSet as)) :=
  (pe_callB (cr_sortedA K hc hu) hg hm PyProof.Rows.boot_sorted (pa_cons (pe_callTy (cr_setN K hc hu) hg2 hm2 PyProof.Rows.boot_set ha (by decide) (by decide) hs2 rfl) pa_nil hs) (by decide) (by decide) hs rfl).imp fun σ H Q h => tset_imp h
theorem pe_lenSetL {a : Expr} {p p2 pos pos2 : Pos} {as : Es} (K : X.K = g.K) (hc : X.calm = true) (hu : X.A.units + 66 < cLine) (hg : Gl X "len") (hm : X.mg "len" = none) (hg2 : Gl X "set") (hm2 : X.mg "set" = none) (ha : PA X [a] (tV g call as))
    (hs : starEach [.Call (.Name "set" p2) [a] [] pos2] X.env = (false, eval (.Call (.Name "set" p2) [a] [] pos2) X.env) :: starEach [] X.env) (hs2 : starEach [a] X.env = (false, eval a X.env) :: starEach [] X.env) :
    PE X (.Call (.Name "len" p) [.Call (.Name "set" p2) [a] [] pos2] [] pos) (tE g call (.blt .lenSet as)) :=
  (pe_callB (cr_lenA K) hg hm PySem.boot_len (pa_cons (pe_callTy (cr_setN K hc hu) hg2 hm2 PyProof.Rows.boot_set ha (by decide) (by decide) hs2 rfl) pa_nil hs) (by decide) (by decide) hs rfl).imp fun σ H Q h => lset_imp h
end
end LPS

set_option autoImplicit false
set_option linter.all false
set_option maxRecDepth 100000
/-! xs.extend(ys), xs.pop() -/
namespace LPS
open PySem PySem.Spec PyProof.Rows L2 LP
section
variable {g : Gk} {call : LP.Cll} {σ σ1 σ2 : L2.St} {F F1 F2 : AS} {H H1 H2 : Hp} {ρ ρ1 ρ2 : LP.Env} {fp fp1 fp2 : Nat → AS} {T T1 T2 R : AS} {X : Cx}
def rExtT : V → List V → Hp → VK → Prop := fun x vs H Q => ∃ l b xs zs, x = .ref l ∧ vs = [.ref b] ∧ H l = some (.lst xs) ∧ (H b = some (.tup zs) ∨ H b = some (.lst zs)) ∧ xs.length + zs.length ≤ sizeLine ∧ Q .non (upd H l (.lst (xs ++ zs)))
theorem mt_extT : MtM X "list.extend" rExtT := by
  intro pins s σ H x vs v us Q I rx rv h
  obtain ⟨l, b, xs, zs, rfl, rfl, hH, hB, hz, q⟩ := h
  rcases hB with hB | hB
  rotate_left
  · exact mt_extend pins s σ H _ _ v us Q I rx rv ⟨l, b, xs, zs, rfl, rfl, hH, hB, hz, q⟩
  cases rx
  obtain ⟨u, rfl, ru⟩ := rv.one
  cases ru
  obtain ⟨z, its, n, r, hl, e⟩ := I.lstM hH
  obtain ⟨its2, r2, ⟨o2, h2, c2, n2, d2⟩, z2⟩ := I.tuple (SqT.of hB)
  have hl2 := r2.length
  have hsz : its.toArray.size + its2.toArray.size ≤ sizeLine := by rw [List.size_toArray, List.size_toArray]; omega
  have hlong : ¬ (!its.toArray.isEmpty && Builtin.List.listTooLong (its.toArray.size + its2.toArray.size)) = true := by
    rw [notLongL hsz, Bool.and_false]
    exact Bool.false_ne_true
  refine wpAny_call_entry F.slot_list_extend ⟨_, e, rfl⟩ F.entry_list_extend ?_ (F.args_list_extend_2 _ _)
  show wpAny _ _ (Builtin.List.listExtendWith (.ref l) (.ref b) .none) _ _ s
  unfold Builtin.List.listExtendWith
  refine wpAny_bind (wpAny_typeOf (T := "tuple") ⟨o2, h2, c2⟩ ?_)
  have ht : (Value.type "tuple" == Value.type "tuple") = true := by rfl
  rw [if_pos (by rw [ht]; simp)]
  refine wpAny_bind (listItems_at h2 d2 ?_)
  refine wpAny_bind (listItems_at e rfl ?_)
  rw [if_neg hlong]
  refine wpAny_bind (listUpdate_at e rfl ?_ (by omega) (by rw [Array.size_append]; omega))
  refine wpAny_pure ⟨.none, rfl, ?_⟩
  refine ⟨.non, _, I.lset (t' := s.toks) (its' := its ++ its2) hH e (by simp) (r.append r2) ?_, rfl, q⟩
  rw [List.length_append]
  omega
theorem pe_extendL (inj : ∀ i j, g.an i = g.an j → i = j) (K : X.K = g.K) {o e : Expr} {es : List Expr} {er : E} {ee : Es} {apos cpos : Pos} (ho : PE X o (tE g call er)) (ha : PA X (e :: es) (tEs g call ee))
    (hbase : attributeBase o "extend" X.env (eval o X.env) = eval o X.env)
    (hfew : ((backTo cpos (starEach (e :: es) X.env)).all (fun x => !x.1) && (backToKw cpos (keywordEach [] X.env)).all (fun x => x.1.isSome)
      && decide ((e :: es).length + ([] : List Keyword).length + (if ([] : List Keyword).isEmpty then 0 else 1) < 30)) = true)
    (hline : (apos.endLine == cpos.line) = true) (hs : starEach (e :: es) X.env = (false, eval e X.env) :: starEach es X.env) (hplain : (backTo cpos (starEach es X.env)).any (·.1) = false) :
    PE X (.Call (.Attribute o "extend" apos) (e :: es) [] cpos) (tE g call (.mm .extend er ee)) :=
  (pe_bm (T := "list") F.plainAttrs_list F.slot_list_extend F.type_list_extend mt_extT ho ha hbase hfew hline hs hplain).imp fun σ H Q ⟨F, ρ, fp, s, oo, he, k⟩ => by
    have inv : ∀ e ds x e', mmo .extend e ds = some (x, e') → ∃ l y es, e = .lst true l ∧ ds = [y] ∧ seqOf y = some es ∧ l.length + es.length < lim ∧ x = .non ∧ e' = .lst true (l ++ es) := fun e ds x e' h => by
      unfold mmo at h
      split at h <;> first | (simp at h; done) | skip
      all_goals
        first
        | (split at h
           · split at h
             · rename_i hy hl
               cases h
               exact ⟨_, _, _, rfl, rfl, hy, hl, rfl, rfl⟩
             · cases h
           · cases h)
        | simp_all
    refine mm_rd inj s he (fun d e x e' ds v F1 H1 U hs hm r => ?_) (fun e ds x e' v vs F1 H1 U T1 hm r gU gT dj ra hF q => ?_) (fun e ds x e' h => ?_) k
    · obtain ⟨l, y, es', rfl, _⟩ := inv _ _ _ _ hm
      exact r.tyL (e := d) hs K
    · obtain ⟨l, y, es', rfl, rfl, hy, hl, rfl, rfl⟩ := inv _ _ _ _ hm
      obtain ⟨a, ws, W, rfl, ha, rl, hUa, hW⟩ := rp_own r
      simp only [RpL] at ra
      obtain ⟨vy, r0, Ty, T0, rfl, ry, rfl, hy2, _⟩ := ra
      obtain ⟨b, zs, rfl, hb, rz⟩ : ∃ b zs, vy = .ref b ∧ (H1 b = some (.tup zs) ∨ H1 b = some (.lst zs)) ∧ RpL g F1 H1 es' zs e0 := by
        cases y <;> simp only [seqOf, reduceCtorEq] at hy
        all_goals
          split at hy
          · rename_i hp
            cases hy
            first
            | obtain ⟨b, zs, rfl, hb, rr⟩ := rp_tup ry
              exact ⟨b, zs, rfl, .inl hb, rr⟩
            | obtain ⟨b, zs, W', rfl, hb, rr⟩ := rp_lst ry
              exact ⟨b, zs, rfl, .inr hb, RpL.of_all hp rr⟩
          · cases hy
      refine ⟨a, b, ws, zs, rfl, rfl, ha, hb, by rw [← rl.length, ← rz.length, lim_eq]; omega, ?_⟩
      have mu : MuO (upd H1 a (.lst (ws ++ zs))) a := ⟨_, upd_same, .inl ⟨_, rfl⟩⟩
      refine q .non _ U e0 (Kp.upd1 hUa (gU a hUa).2.ne) ?_ (mk_non _) (fun b hb => ?_) (fun b _ z => z) (gU.upd1 mu) fun b z => z.elim
      · refine mk_own (W := W) upd_same ?_ hUa hW
        have r2 : RpL g F1 (upd H1 a (.lst (ws ++ zs))) es' zs e0 := rz.upd1 gU hUa fun b z => z.elim
        exact (RpL.app2 (rl.upd1 gU hUa fun b hb => (hW b hb).2) r2 fun b hb z => z).mono fun b z => z.elim id fun y => y.elim
      · rcases hb with z | z
        · exact .inl z
        · exact z.elim
    · obtain ⟨l, y, es', rfl, _⟩ := inv _ _ _ _ h
      rfl
end
end LPS

set_option autoImplicit false
set_option linter.all false
set_option maxRecDepth 100000
set_option maxHeartbeats 4000000
/-! sorted(d), d a dict -/
namespace LPS
open PySem PySem.Spec PyProof.Rows L2 LP
section
open PySem.W PySem.Calls PyProof.V
variable {prog : Program} {w : World} {A : Around} {E : Value → Shared → Prop} {s : Shared} {T : String} {r d : Addr} {n : Nat} {P : Nat → Value → Prop} {OK : Heap → Prop}
/-- what a dict's walk collects (turned from KE.KDictSum: with the heap's size) -/
theorem collectZ {R : List Value → Shared → Prop} (K : KdlSrc prog w T r d n P OK) (hh : A.handled = none) (hok : OK s.heap) (hn : n ≤ sizeLine)
    (h : ∀ (h' : Heap) (tk : Nat) (acc : Array Value), (∀ b o, s.heap.get? b = some o → h'.get? b = some o) → s.heap.objs.size ≤ h'.objs.size → ItemsOf P acc n → R acc.toList { s with heap := h', toks := tk }) :
    wpAny (model prog w) A (collect (.ref r)) R E s := by
  have hlt := K.there _ hok
  unfold collect
  refine wpAny_bind (wpAny_runValue (codeAny_builtin entry_proto_collect' ?_))
  rw [Around.under_plainId PySem.F.plain_proto_collect _]
  show wpAny _ A.in1 (newList [] >>= fun l => again (.builtin "list.__iadd__" ⟨[l, .ref r], []⟩)) _ _ s
  refine wpAny_bind (wpAny_newObj_type ?_)
  refine wpAny_pure ⟨plainId_quiet PySem.F.plain_list_iadd _, codeAny_builtin entry_list_iadd' ?_⟩
  rw [Around.under_plainId PySem.F.plain_list_iadd _]
  have hS₁ : (s.heap.push { cls := .type "list", data := .seq ([] : List Value).toArray }).get? s.heap.objs.size = some { cls := .type "list", data := .seq #[] } := Heap.get?_push_size _ rfl
  show wpAny _ A.in1 (Builtin.List.listExtendWith (.ref s.heap.objs.size) (.ref r) (.ref s.heap.objs.size)) _ _ _
  have key := kdl_extend (A := A) (s := { s with heap := s.heap.push { cls := .type "list", data := .seq ([] : List Value).toArray } })
    (R := fun (q : Result) (s' : Shared) => ∃ (h' : Heap) (tk : Nat) (acc' : Array Value) (c' : Nat), q = .ok (.ret (.ref s.heap.objs.size)) ∧ s' = { s with heap := h', toks := tk } ∧
      (∀ b o, s.heap.get? b = some o → h'.get? b = some o) ∧ h'.get? s.heap.objs.size = some { cls := .type "list", dict := none, data := .seq acc' c', slots := #[] } ∧ ItemsOf P acc' n)
    K hh (K.keep _ _ hok fun b _ o e => Heap.get?_push_of_some _ e) s.heap.objs.size (Nat.ne_of_gt hlt.1) (Nat.ne_of_gt hlt.2) (.ref s.heap.objs.size) 0 hS₁
    (fun h' tk acc' c' hk hS' hacc => ⟨h', tk, acc', c', rfl, rfl, fun b o e => hk b o (Nat.ne_of_lt (Heap.lt_size e)) (Heap.get?_push_of_some _ e), hS', hacc⟩) hn
  refine wpAny_mono key (fun fin s' x => ?_) fun e s' x => ?_
  · cases fin with
    | done f =>
      obtain ⟨h', tk, acc', c', e, rfl, hk, hS', hacc⟩ := x
      cases e
      show wpAny _ A (load s.heap.objs.size >>= _) _ _ _
      refine wpAny_bind (wpAny_load hS' ?_)
      exact wpAny_pure (h h' tk acc' hk (Nat.le_of_lt (Heap.lt_size hS')) hacc)
    | again c₁ =>
      refine ⟨x.1, codeAny_mono x.2 fun q s₂ y => ?_⟩
      obtain ⟨h', tk, acc', c', rfl, rfl, hk, hS', hacc⟩ := y
      show wpAny _ A (load s.heap.objs.size >>= _) _ _ _
      refine wpAny_bind (wpAny_load hS' ?_)
      exact wpAny_pure (h h' tk acc' hk (Nat.le_of_lt (Heap.lt_size hS')) hacc)
  · obtain ⟨_, _, _, _, e', _⟩ := x
    cases e'
end
section
variable {P : Program} {w : World} {A : Around} {E : Value → Shared → Prop} {s : Shared}
open PySem.W in
/-- sorted(x), x whose items are collected -/
theorem sorted_col {β : Type} {l : Addr} {bs : List β} {enc : β → PyData} {R : Value → β → Prop} {Q : Value → Shared → Prop} (hh : A.handled = none)
    (col : ∀ (A : Around) (E : Value → Shared → Prop) (Q : List Value → Shared → Prop), A.handled = none → (∀ (h' : Heap) (tk : Nat) (vs : List Value), (∀ b o, s.heap.get? b = some o → h'.get? b = some o) → s.heap.objs.size ≤ h'.objs.size → EachIs R vs bs → Q vs { s with heap := h', toks := tk }) → wpAny (model P w) A (collect (.ref l)) Q E s)
    (er : ∀ v b, b ∈ bs → R v b → ∃ as, Reads s.heap v (enc b) as) (hal : AllAlike (bs.map enc)) (hk : Sortable (bs.map enc)) (hL : bs.length ≤ sizeLine) (hu : ∀ b ∈ bs, A.units + 2 + (enc b).depth < cLine)
    (hQ : ∀ (h' : Heap) (tk p : Nat) (out : List Value) (c : Nat), (∀ b o, s.heap.get? b = some o → h'.get? b = some o) → s.heap.objs.size ≤ p → h'.get? p = some (seqObj "list" out.toArray c) → out.length = bs.length → EachIs R out (bs.mergeSort (dataLe false enc)) → Q (.ref p) { s with heap := h', toks := tk }) :
    wpAny (model P w) A (call (.builtin "sorted") [.ref l]) Q E s := by
  refine Calls.call_function_entry kind_sorted plain_sorted entry_sorted (args_sorted1 _) ?_
  unfold Builtin.«sorted»
  refine wpAny_bind (m := checkCount "sorted" 1 1 _) (wpAny_pure ?_)
  refine wpAny_bind (col A.in1 _ _ hh fun h1 tk vs k1 hz ev => ?_)
  have hl1 : vs.length ≤ sizeLine := by rw [ev.length]; exact hL
  refine wpAny_bind (wpAny_newList ?_ hl1)
  have hoL : (h1.push (seqObj "list" vs.toArray 0)).get? h1.objs.size = some (seqObj "list" vs.toArray 0) := Heap.get?_push_size _ rfl
  have old : ∀ b u, h1.get? b = some u → (sortingHeap (h1.push (seqObj "list" vs.toArray 0)) h1.objs.size vs).get? b = some u := fun b u q => by
    have hlt := Heap.lt_size q
    exact sortingHeap_old (Nat.ne_of_lt hlt) (Heap.get?_push_of_some _ q)
  have er' : EachIs (fun v b => ∃ as, Reads (sortingHeap (h1.push (seqObj "list" vs.toArray 0)) h1.objs.size vs) v (enc b) as) vs bs := by
    refine EachIs.of_zip ev.length fun p m => ?_
    have h2 := ev.zip p m
    obtain ⟨as, r⟩ := er p.1 p.2 (List.of_mem_zip m).2 h2
    exact ⟨as, PyProof.Rows.Reads.keeps (fun b u q => old b u (k1 b u q)) r⟩
  refine wpAny_bind (wpAny_holding (wpAny_call_entry slot_list_sort ⟨_, hoL, rfl⟩ entry_list_sort (list_sort_vals (s := { s with heap := h1.push (seqObj "list" vs.toArray 0), toks := tk }) (κ := dataKind (sortingHeap (h1.push (seqObj "list" vs.toArray 0)) h1.objs.size vs) (bs.map enc)) hoL (SortsAt.data (s := { s with heap := sortingHeap (h1.push (seqObj "list" vs.toArray 0)) h1.objs.size vs, toks := tk }) (each_map (R := fun v d => ∃ as, Reads (sortingHeap (h1.push (seqObj "list" vs.toArray 0)) h1.objs.size vs) v d as) enc er') hal hk (bound_map (A := A.in1.in1) (enc := enc) fun b hb => hu b hb)) hl1 ⟨_, rfl, ?_⟩) (args_list_sort _)))
  refine wpAny_pure ⟨_, rfl, ?_⟩
  have eo := sortVals_data (h' := sortingHeap (h1.push (seqObj "list" vs.toArray 0)) h1.objs.size vs) false ev er' hal
  have el : (sortVals (dataKind (sortingHeap (h1.push (seqObj "list" vs.toArray 0)) h1.objs.size vs) (bs.map enc)) false vs vs).length = bs.length := by rw [sortVals_length false rfl]; exact ev.length
  generalize sortVals (dataKind (sortingHeap (h1.push (seqObj "list" vs.toArray 0)) h1.objs.size vs) (bs.map enc)) false vs vs = out at eo el ⊢
  obtain ⟨c, hc⟩ := sortedHeap_at (vs := vs) (out := out.toArray) hoL
  refine hQ _ _ h1.objs.size out c (fun b u e => ?_) hz hc el eo
  have q := k1 b u e
  have hlt := Heap.lt_size q
  show (sortedHeap (h1.push (seqObj "list" vs.toArray 0)) h1.objs.size vs out.toArray).get? b = some u
  rw [sortedHeap_old (Nat.ne_of_lt hlt) (by rw [size_push']; exact Nat.lt_succ_of_lt hlt)]
  exact Heap.get?_push_of_some _ q
end
section
variable {g : Gk} {call : LP.Cll} {σ : L2.St} {F F1 F2 : AS} {H H1 H2 : Hp} {T T1 T2 R : AS} {X : Cx}
/-- a dict's keys are collected -/
theorem col_dct {pins : List (Addr × Obj)} {s : Shared} (I : Inv X pins σ H s) {o : Bool} {ks : List (D × D)} {v : V} {U : AS} (r : Rp g F H (.dct o ks) v U) :
    ∃ a vs, v = .ref a ∧ RpL g F H (ks.map (·.1)) vs e0 ∧ vs.length ≤ sizeLine ∧ ∀ (A : Around) (E : Value → Shared → Prop) (Q : List Value → Shared → Prop), A.handled = none →
      (∀ (h' : Heap) (tk : Nat) (acc : List Value), (∀ b o, s.heap.get? b = some o → h'.get? b = some o) → s.heap.objs.size ≤ h'.objs.size → Vals vs acc → Q acc { s with heap := h', toks := tk }) → wpAny (model X.prog X.w) A (collect (.ref a)) Q E s := by
  simp only [Rp] at r
  obtain ⟨a, vs, W, rfl, rr, _, c, _⟩ := r
  have hlen : ks.length = vs.length := by rw [RpK_iff] at rr; simpa using rr.length
  rcases c with ⟨kk, e1, _, e2⟩ | ⟨tt, e1, _, e2⟩
  · obtain ⟨z, lo, vs', rk, hd⟩ := dk_rd I.hok e2
    obtain ⟨ep, hat⟩ := hd.dictAt
    have hl : (kk.zip vs).length = vs'.length := Paired.length rk
    refine ⟨a, (kk.zip vs).map fun kv => kV kv.1, rfl, ?_, by rw [List.length_map]; exact z, fun A E Q hh q => ?_⟩
    · have : (kk.zip vs).map (fun kv => kV kv.1) = kk.map kV := by
        have h2 : (kk.zip vs).map (fun kv => kV kv.1) = ((kk.zip vs).map (·.1)).map kV := by rw [List.map_map]; rfl
        rw [h2, List.map_fst_zip (by have := kD_len e1; omega)]
      rw [this]
      exact kD_rp e1
    · refine collectZ (PySem.W.kdl_dict (knd := mixKind X.prog X.w) (kvs := vs') (ep := ep) lo) hh hat (by rw [← hl]; exact z) fun h' tk acc hk hsz hacc => q h' tk acc.toList hk hsz ?_
      have el : acc.toList.length = acc.size := by simp
      refine vals_of_at (by rw [List.length_map, el, hacc.1, hl]) fun j x w h1 h2 => ?_
      obtain ⟨k, y, hky, hi⟩ := hacc.2 j w (by rw [← Array.getElem?_toList]; exact h2)
      have e1 : ((kk.zip vs).map (·.1))[j]? = some k := by
        rw [KV.keys rk, List.getElem?_map, hky] <;> rfl
      have e2 : ((kk.zip vs).map fun kv => kV kv.1)[j]? = some (kV k) := by
        have e3 : ((kk.zip vs).map fun kv => kV kv.1) = ((kk.zip vs).map (·.1)).map kV := by rw [List.map_map] <;> rfl
        rw [e3, List.getElem?_map, e1] <;> rfl
      rw [e2] at h1
      cases h1
      exact keyIs_rel hi
  · obtain ⟨z, hs, ks', pr, o, es, ep, ho, hx, hdt, he, hn⟩ := (show ObjOk X.prog X.w H s.heap a (.dT (tt.zip vs)) from e2.ok I.hok)
    have l1 : es.size = ks'.length := size_of_entries he
    have l2 : (tt.zip vs).length = ks'.length := Paired.length pr
    refine ⟨a, (ks'.map fun x => x.2.1).map V.ref, rfl, tD_rp e1 (by have := tD_len e1; omega) (isKeys_of pr), by rw [List.length_map, List.length_map]; omega, fun A E Q hh q => ?_⟩
    refine collectZ (kdl_raw hs hx hdt) hh ho (by omega) fun h' tk acc' kp hsz it => q h' tk acc'.toList kp hsz ?_
    have ea : acc'.toList = ks'.map fun x => Value.ref x.2.1 := by
      have hl : acc'.toList.length = ks'.length := by rw [Array.length_toList, it.1]; exact l1
      apply List.ext_getElem?
      intro j
      rw [List.getElem?_map]
      cases hj : acc'.toList[j]? with
      | none =>
        have h1 := List.getElem?_eq_none_iff.mp hj
        rw [List.getElem?_eq_none (by omega)]
        all_goals rfl
      | some v =>
        obtain ⟨en, hen, hv⟩ := it.2 j v (by rw [← Array.getElem?_toList]; exact hj)
        have qe := entry_at he j
        rw [hen] at qe
        cases hb : ks'[j]? with
        | none =>
          rw [hb] at qe
          exact nomatch (show some en = none from qe)
        | some b =>
          rw [hb] at qe
          have e2 : en = entryOfKey (tupleKind (mixKind X.prog X.w)) b := Option.some.inj qe
          rw [hv, e2]
          all_goals rfl
    have eb : acc'.toList = (ks'.map fun x => x.2.1).map Value.ref := by rw [ea, List.map_map]; all_goals rfl
    rw [eb]; exact vals_refs _
theorem keysD_pers : ∀ {ds : List D} {k : List Key}, keysD ds = some k → LP.persL ds = true
  | [], _, _ => rfl
  | d :: ds, k, h => by
    simp only [keysD] at h
    split at h
    · rename_i q qs h1 h2
      simp only [LP.persL, keysD_pers h2, Bool.and_true]
      cases d <;> simp only [keyD, reduceCtorEq] at h1 <;> rfl
    · cases h
theorem kD_pers : ∀ {ks : List (D × D)} {kk : List Key}, kD ks = some kk → LP.persL (ks.map (·.1)) = true
  | [], _, _ => rfl
  | (d, e) :: ds, k, h => by
    simp only [kD] at h
    split at h
    · rename_i q qs h1 h2
      simp only [List.map_cons, LP.persL, kD_pers h2, Bool.and_true]
      cases d <;> simp only [keyD, reduceCtorEq] at h1 <;> rfl
    · cases h
theorem tD_pers : ∀ {ks : List (D × D)} {kk : List (List Key)}, tD ks = some kk → LP.persL (ks.map (·.1)) = true
  | [], _, _ => rfl
  | (d, e) :: ds, k, h => by
    simp only [tD] at h
    split at h
    · rename_i q qs h1 h2
      simp only [List.map_cons, LP.persL, tD_pers h2, Bool.and_true]
      cases d <;> simp only [tkD, reduceCtorEq] at h1
      exact keysD_pers h1
    · cases h
theorem dct_pers {o : Bool} {ks : List (D × D)} {v : V} {U : AS} (r : Rp g F H (.dct o ks) v U) : LP.persL (ks.map (·.1)) = true := by
  simp only [Rp] at r
  obtain ⟨a, vs, W, rfl, rr, _, c, _⟩ := r
  rcases c with ⟨kk, e1, _⟩ | ⟨tt, e1, _⟩
  · exact kD_pers e1
  · exact tD_pers e1
theorem cr_sorted (K : X.K = g.K) (hc : X.calm = true) (hu : X.A.units + 66 < cLine) : CallR X (.builtin "sorted") (rC g (blt .sorted)) := by
  rintro pins s σ H xs us Q I r ⟨F, ds, d, rd, hb, hF, q⟩
  have : (∃ x es, ds = [x] ∧ seqOf x = some es ∧ sortOk es = true ∧ d = .lst true (sortD es)) ∨ ∃ o ks, ds = [.dct o ks] ∧ sortOk (ks.map (·.1)) = true ∧ d = .lst true (sortD (ks.map (·.1))) := by
    unfold blt at hb
    split at hb <;> first | (simp at hb; done) | skip
    all_goals first
      | (rename_i heq; cases heq; done)
      | (split at hb
         · rename_i hq
           cases hb
           exact .inr ⟨_, _, rfl, hq, rfl⟩
         · cases hb)
      | (split at hb
         · rename_i hq
           split at hb
           · rename_i hs
             cases hb
             exact .inl ⟨_, _, rfl, hq, hs, rfl⟩
           · cases hb
         · cases hb)
      | (exfalso; simp_all; done)
      | skip
  rcases this with ⟨x, es, rfl, hs, hk, rfl⟩ | ⟨o, ks, rfl, hk, rfl⟩
  · exact cr_sortedS K hu pins s σ H xs us Q I r ⟨F, x, es, rd, hs, hk, hF, q⟩
  · obtain ⟨v, U, rfl, r1⟩ := rdl1 rd
    have hp := dct_pers r1
    obtain ⟨a, vs, rfl, rr, hz, col⟩ := col_dct I r1
    obtain ⟨hf, hal, hks⟩ := sortOk_iff hk
    have hS : SOk (ks.map (·.1)) := ⟨hf, hal, hp⟩
    have hlen : (ks.map (·.1)).length = vs.length := rr.length
    generalize ks.map (·.1) = es at *
    rw [Vals.ref1 r]
    have em : (es.zip vs).map (fun p => toP p.1) = es.map toP := by
      have : (es.zip vs).map (fun p => toP p.1) = ((es.zip vs).map (·.1)).map toP := by rw [List.map_map]; rfl
      rw [this, List.map_fst_zip (by omega)]
    have hzl : (es.zip vs).length = vs.length := by rw [List.length_zip]; omega
    refine sorted_col (bs := es.zip vs) (enc := fun p => toP p.1) (R := fun u (p : D × V) => RelV p.2 u) (I.ok.hd hc) (fun A E Q hh q => col A E Q hh fun h' tk acc k hsz rv => q h' tk acc k hsz (zip_vals rv es hlen)) ?_ ?_ ?_ (by rw [hzl]; exact hz) ?_ fun h' tk p out c k hpz ho hl eo => ?_
    · intro v b hb hr
      have h3 := rpL_zip hp rr _ hb
      exact Dp.reads I _ _ _ (K ▸ flat_dp b.1 63 _ _ (flatL_mem hf _ (List.of_mem_zip hb).1) h3) hr
    · rw [em]
      intro d hd d' hd'
      obtain ⟨x, hx, rfl⟩ := List.mem_map.mp hd
      obtain ⟨y, hy, rfl⟩ := List.mem_map.mp hd'
      rw [alk_toP x y 63 63 (flatL_mem hf x hx) (flatL_mem hf y hy)]
      exact alk_mem hal hx hy
    · rw [em]
      exact sortable_toP hf hks
    · intro p m
      have := (flat_lay p.1 63 (flatL_mem hf _ (List.of_mem_zip m).1)).2
      show X.A.units + 2 + (toP p.1).depth < cLine
      omega
    · obtain ⟨e1, e2⟩ := sort_pairs hS hlen
      have rv' := vals_each eo
      have hl' : (((es.zip vs).mergeSort (PySem.W.dataLe false fun p => toP p.1)).map (·.2)).length ≤ sizeLine := by
        rw [rv'.length, hl, hzl]; exact hz
      have rp' : RpL g F H (sortD es) (((es.zip vs).mergeSort (PySem.W.dataLe false fun p => toP p.1)).map (·.2)) e0 := by
        rw [← e1]
        exact rpL_of fun p m => rpL_zip hp rr p (e2 p m)
      exact ⟨.ref _, upd H p (.lst (((es.zip vs).mergeSort (PySem.W.dataLe false fun p => toP p.1)).map (·.2))), I.laid (t' := tk) k hpz ⟨hl', out, c, rv', ho⟩, rfl, q _ _ (new_lst hF (I.hok.fresh hpz) rp')⟩
end
end LPS

set_option autoImplicit false
set_option linter.all false
set_option maxRecDepth 100000
set_option maxHeartbeats 4000000
/-! max, min -/
namespace LPS
open PySem PySem.Spec PyProof.Rows L2 LP
section
variable {g : Gk} {call : LP.Cll} {σ : L2.St} {F F1 F2 : AS} {H H1 H2 : Hp} {T T1 T2 R : AS} {X : Cx}
theorem reads_allZ {h : Heap} : ∀ {its : List Value} {ds : List D}, its.length = ds.length → (∀ p ∈ its.zip ds, ∃ as, Reads h p.1 (toP p.2) as) → ∃ as, ReadsAll h its (ds.map toP) as
  | [], [], _, _ => ⟨_, .nil⟩
  | [], _ :: _, h, _ => by simp at h
  | _ :: _, [], h, _ => by simp at h
  | u :: us, d :: ds, hl, hr => by
    obtain ⟨as, r⟩ := hr (u, d) (by simp)
    obtain ⟨bs, rs⟩ := reads_allZ (its := us) (ds := ds) (by simpa using hl) fun p hp => hr p (by rw [List.zip_cons_cons]; exact List.mem_cons_of_mem _ hp)
    exact ⟨_, .cons r rs⟩
theorem depth_allZ {n : Nat} : ∀ {ds : List PyData}, (∀ d ∈ ds, d.depth ≤ n) → PyData.depthAll ds ≤ n
  | [], _ => Nat.zero_le _
  | d :: ds, h => by
    have h1 := h d List.mem_cons_self
    have h2 := depth_allZ fun e he => h e (List.mem_cons_of_mem _ he)
    simp only [PyData.depthAll]; omega
theorem ne_none_toP {ds : List D} (hf : flatNL ds 63 = true) (h : (∀ d ∈ ds, isTupC d = true) ∨ ∀ d ∈ ds, isTupN d = false) : ∀ d ∈ ds, toP d ≠ .none := fun d hd e => by
  rcases h with h | h
  · have := h d hd
    cases d <;> simp_all [isTupC, toP]
  · have := h d hd
    have fx := flatL_mem hf d hd
    cases d <;> simp_all [isTupN, toP] <;> simp [flatN] at fx
theorem toP_one {ds : List D} (h : SOk ds) {a b : D} (ha : a ∈ ds) (hb : b ∈ ds) (e : toP a = toP b) : a = b :=
  h.one ha hb (show PySem.W.dataLt _ _ = false by rw [e]; exact lex_irrefl _) (show PySem.W.dataLt _ _ = false by rw [e]; exact lex_irrefl _)
theorem lpmax_mem : ∀ (x : D) (ds : List D), LP.maxD x ds ∈ x :: ds
  | x, [] => by simp [LP.maxD]
  | x, d :: ds => by
    simp only [LP.maxD]
    split
    · exact List.mem_cons_of_mem _ (lpmax_mem d ds)
    · rcases List.mem_cons.mp (lpmax_mem x ds) with e | e
      · rw [e]; exact List.mem_cons_self
      · exact List.mem_cons_of_mem _ (List.mem_cons_of_mem _ e)
theorem lpmin_mem : ∀ (x : D) (ds : List D), LP.minD x ds ∈ x :: ds
  | x, [] => by simp [LP.minD]
  | x, d :: ds => by
    simp only [LP.minD]
    split
    · exact List.mem_cons_of_mem _ (lpmin_mem d ds)
    · rcases List.mem_cons.mp (lpmin_mem x ds) with e | e
      · rw [e]; exact List.mem_cons_self
      · exact List.mem_cons_of_mem _ (List.mem_cons_of_mem _ e)
theorem lpmax_toP {l : List D} (h : SOk l) : ∀ (x : D) (ds : List D), (∀ d ∈ x :: ds, d ∈ l) → toP (LP.maxD x ds) = PySem.W.maxD (toP x) (ds.map toP)
  | x, [], _ => rfl
  | x, d :: ds, hm => by
    have e : ltB x d = PySem.W.dataLt (toP x) (toP d) := h.lt (hm x (by simp)) (hm d (by simp))
    simp only [LP.maxD, List.map_cons, PySem.W.maxD, List.foldl_cons]
    rw [← e]
    split
    · exact lpmax_toP h d ds fun y hy => hm y (List.mem_cons_of_mem _ hy)
    · exact lpmax_toP h x ds fun y hy => hm y (by rcases List.mem_cons.mp hy with z | z <;> simp_all)
theorem lpmin_toP {l : List D} (h : SOk l) : ∀ (x : D) (ds : List D), (∀ d ∈ x :: ds, d ∈ l) → toP (LP.minD x ds) = PySem.W.minD (toP x) (ds.map toP)
  | x, [], _ => rfl
  | x, d :: ds, hm => by
    have e : ltB d x = PySem.W.dataLt (toP d) (toP x) := h.lt (hm d (by simp)) (hm x (by simp))
    simp only [LP.minD, List.map_cons, PySem.W.minD, List.foldl_cons]
    rw [← e]
    split
    · exact lpmin_toP h d ds fun y hy => hm y (List.mem_cons_of_mem _ hy)
    · exact lpmin_toP h x ds fun y hy => hm y (by rcases List.mem_cons.mp hy with z | z <;> simp_all)
theorem max_inv {ds : List D} {d : D} (hb : blt .max ds = some d) : (∃ e x es, ds = [e] ∧ seqOf e = some (x :: es) ∧ sortOk (x :: es) = true ∧ d = LP.maxD x es) ∨ ∃ a b, ds = [.int a, .int b] ∧ d = .int (if b > a then b else a) := by
  rcases ds with _ | ⟨e, _ | ⟨f, _ | ⟨k, r⟩⟩⟩
  · simp [blt] at hb
  · simp only [blt] at hb
    split at hb
    · rename_i x es hq
      split at hb
      · rename_i hs
        cases hb
        exact .inl ⟨_, _, _, rfl, hq, hs, rfl⟩
      · cases hb
    · cases hb
  · cases e <;> cases f <;> simp only [blt, reduceCtorEq, Option.some.injEq] at hb
    exact .inr ⟨_, _, rfl, hb.symm⟩
  · simp [blt] at hb
theorem cr_max (K : X.K = g.K) (hc : X.calm = true) (hu : X.A.units + 66 < cLine) : CallR X (.builtin "max") (rC g (blt .max)) := by
  rintro pins s σ H xs us Q I r ⟨F, ds, d, rd, hb, hF, q⟩
  have : (∃ e x es, ds = [e] ∧ seqOf e = some (x :: es) ∧ sortOk (x :: es) = true ∧ d = LP.maxD x es) ∨ ∃ a b, ds = [.int a, .int b] ∧ d = .int (if b > a then b else a) := by
    exact max_inv hb
  rcases this with ⟨x, y, es, rfl, hs, hk, rfl⟩ | ⟨a, b, rfl, rfl⟩
  · obtain ⟨v, U, rfl, r1⟩ := rdl1 rd
    obtain ⟨hp, _⟩ := seqOf_inv hs
    obtain ⟨l, vs, rfl, hl, rr⟩ := rp_seq hs r1
    obtain ⟨hf, hal, hks⟩ := sortOk_iff hk
    have hS : SOk (y :: es) := ⟨hf, hal, hp⟩
    have hlen : (y :: es).length = vs.length := rr.length
    rw [Vals.ref1 r]
    have key : ∀ its : List Value, Vals vs its → (∃ as, ReadsAll s.heap its ((y :: es).map toP) as) ∧
        ∀ (i : Nat) v h' tk bs, its[i]? = some v → Reads h' v (PySem.W.maxD (toP y) (es.map toP)) bs → (∀ b o, s.heap.get? b = some o → h'.get? b = some o) → EP X pins σ Q v { s with heap := h', toks := tk } := fun its rv => by
      have hl2 : vs.length = its.length := rv.length
      have each : ∀ (i : Nat) (d : D) (u : Value), (y :: es)[i]? = some d → its[i]? = some u → ∃ x, vs[i]? = some x ∧ Rp g F H d x e0 ∧ RelV x u ∧ ∃ as, Reads s.heap u (toP d) as := fun i d u h1 h2 => by
        have hi : i < vs.length := by rw [← hlen]; exact (List.getElem?_eq_some_iff.mp h1).1
        have h3 : vs[i]? = some vs[i] := List.getElem?_eq_getElem hi
        have hz : (d, vs[i]) ∈ (y :: es).zip vs := List.mem_iff_getElem?.mpr ⟨i, by rw [List.getElem?_zip_eq_some]; exact ⟨h1, h3⟩⟩
        have r3 := rpL_zip hp rr _ hz
        obtain ⟨u', e1, r4⟩ := rv.get h3
        rw [e1] at h2
        cases h2
        exact ⟨_, h3, r3, r4, Dp.reads I _ _ _ (K ▸ flat_dp d 63 _ _ (flatL_mem hf _ (List.of_mem_zip hz).1) r3) r4⟩
      refine ⟨reads_allZ (by omega) fun p hp' => ?_, fun i v h' tk bs h1 h2 k => ?_⟩
      · obtain ⟨i, hi⟩ := List.mem_iff_getElem?.mp hp'
        rw [List.getElem?_zip_eq_some] at hi
        obtain ⟨x, _, _, _, h4⟩ := each i p.2 p.1 hi.2 hi.1
        exact h4
      · have hi : i < (y :: es).length := by rw [hlen, hl2]; exact (List.getElem?_eq_some_iff.mp h1).1
        obtain ⟨x, _, r3, r4, as, r5⟩ := each i _ v (List.getElem?_eq_getElem hi) h1
        obtain ⟨e1, _⟩ := reads_det (fun b o z _ => k b o z) r5 h2
        rw [← lpmax_toP hS y es fun _ m => m] at e1
        have e2 := toP_one hS (lpmax_mem y es) (List.getElem_mem hi) e1
        rw [← e2] at r3
        exact ⟨x, H, I.kept k, r4, q _ _ (new_old r3)⟩
    have hal2 : PySem.W.AlikeAll ((y :: es).map toP) := by
      refine ⟨fun d hd d' hd' => ?_, fun d hd => ?_⟩
      · obtain ⟨a, ha, rfl⟩ := List.mem_map.mp hd
        obtain ⟨b, hb', rfl⟩ := List.mem_map.mp hd'
        rw [alk_toP a b 63 63 (flatL_mem hf a ha) (flatL_mem hf b hb')]
        exact alk_mem hal ha hb'
      · obtain ⟨a, ha, rfl⟩ := List.mem_map.mp hd
        exact ne_none_toP hf hks a ha
    have hdep : PyData.depthAll ((y :: es).map toP) ≤ 64 := depth_allZ fun d hd => by
      obtain ⟨a, ha, rfl⟩ := List.mem_map.mp hd
      have := (flat_lay a 63 (flatL_mem hf a ha)).2
      omega
    rcases hl with hl | hl
    · obtain ⟨its, rv, pl, hz⟩ := I.list (SqL.of hl)
      obtain ⟨⟨as, ra⟩, fin⟩ := key its rv
      exact PySem.W.max_list_data (I.ok.hd hc) pl.isList (by simpa using ra) (by simpa using hal2) (by simp only [List.map_cons] at hdep; omega) fun i v h' tk bs h1 h2 k => fin i v h' tk bs (by simpa using h1) h2 k
    · obtain ⟨its, rv, pl, hz⟩ := I.tuple (SqT.of hl)
      obtain ⟨⟨as, ra⟩, fin⟩ := key its rv
      exact PySem.W.max_tuple_data (I.ok.hd hc) pl (by simpa using ra) (by simpa using hal2) (by simp only [List.map_cons] at hdep; omega) fun i v h' tk bs h1 h2 k => fin i v h' tk bs (by simpa using h1) h2 k
  · obtain ⟨v, w, U, W, rfl, r1, r2⟩ := rdl2 rd
    obtain rfl := rp_int r1
    obtain rfl := rp_int r2
    refine call_max2Nu hc pins s σ H _ us Q I r ⟨_, _, .int (if b > a then b else a), rfl, ?_, q _ _ (new_old (mk_int _ _))⟩
    have e : nuLt (V.int a) (V.int b) = some (decide (a < b)) := rfl
    simp only [nuMax2, e]
    by_cases h : a < b <;> simp [h, gt_iff_lt]
theorem min_inv {ds : List D} {d : D} (hb : blt .min ds = some d) : (∃ e x es, ds = [e] ∧ seqOf e = some (x :: es) ∧ sortOk (x :: es) = true ∧ d = LP.minD x es) ∨ ∃ a b, ds = [.int a, .int b] ∧ d = .int (if b < a then b else a) := by
  rcases ds with _ | ⟨e, _ | ⟨f, _ | ⟨k, r⟩⟩⟩
  · simp [blt] at hb
  · simp only [blt] at hb
    split at hb
    · rename_i x es hq
      split at hb
      · rename_i hs
        cases hb
        exact .inl ⟨_, _, _, rfl, hq, hs, rfl⟩
      · cases hb
    · cases hb
  · cases e <;> cases f <;> simp only [blt, reduceCtorEq, Option.some.injEq] at hb
    exact .inr ⟨_, _, rfl, hb.symm⟩
  · simp [blt] at hb
theorem cr_min (K : X.K = g.K) (hc : X.calm = true) (hu : X.A.units + 66 < cLine) : CallR X (.builtin "min") (rC g (blt .min)) := by
  rintro pins s σ H xs us Q I r ⟨F, ds, d, rd, hb, hF, q⟩
  have : (∃ e x es, ds = [e] ∧ seqOf e = some (x :: es) ∧ sortOk (x :: es) = true ∧ d = LP.minD x es) ∨ ∃ a b, ds = [.int a, .int b] ∧ d = .int (if b < a then b else a) := by
    exact min_inv hb
  rcases this with ⟨x, y, es, rfl, hs, hk, rfl⟩ | ⟨a, b, rfl, rfl⟩
  · obtain ⟨v, U, rfl, r1⟩ := rdl1 rd
    obtain ⟨hp, _⟩ := seqOf_inv hs
    obtain ⟨l, vs, rfl, hl, rr⟩ := rp_seq hs r1
    obtain ⟨hf, hal, hks⟩ := sortOk_iff hk
    have hS : SOk (y :: es) := ⟨hf, hal, hp⟩
    have hlen : (y :: es).length = vs.length := rr.length
    rw [Vals.ref1 r]
    have key : ∀ its : List Value, Vals vs its → (∃ as, ReadsAll s.heap its ((y :: es).map toP) as) ∧
        ∀ (i : Nat) v h' tk bs, its[i]? = some v → Reads h' v (PySem.W.minD (toP y) (es.map toP)) bs → (∀ b o, s.heap.get? b = some o → h'.get? b = some o) → EP X pins σ Q v { s with heap := h', toks := tk } := fun its rv => by
      have hl2 : vs.length = its.length := rv.length
      have each : ∀ (i : Nat) (d : D) (u : Value), (y :: es)[i]? = some d → its[i]? = some u → ∃ x, vs[i]? = some x ∧ Rp g F H d x e0 ∧ RelV x u ∧ ∃ as, Reads s.heap u (toP d) as := fun i d u h1 h2 => by
        have hi : i < vs.length := by rw [← hlen]; exact (List.getElem?_eq_some_iff.mp h1).1
        have h3 : vs[i]? = some vs[i] := List.getElem?_eq_getElem hi
        have hz : (d, vs[i]) ∈ (y :: es).zip vs := List.mem_iff_getElem?.mpr ⟨i, by rw [List.getElem?_zip_eq_some]; exact ⟨h1, h3⟩⟩
        have r3 := rpL_zip hp rr _ hz
        obtain ⟨u', e1, r4⟩ := rv.get h3
        rw [e1] at h2
        cases h2
        exact ⟨_, h3, r3, r4, Dp.reads I _ _ _ (K ▸ flat_dp d 63 _ _ (flatL_mem hf _ (List.of_mem_zip hz).1) r3) r4⟩
      refine ⟨reads_allZ (by omega) fun p hp' => ?_, fun i v h' tk bs h1 h2 k => ?_⟩
      · obtain ⟨i, hi⟩ := List.mem_iff_getElem?.mp hp'
        rw [List.getElem?_zip_eq_some] at hi
        obtain ⟨x, _, _, _, h4⟩ := each i p.2 p.1 hi.2 hi.1
        exact h4
      · have hi : i < (y :: es).length := by rw [hlen, hl2]; exact (List.getElem?_eq_some_iff.mp h1).1
        obtain ⟨x, _, r3, r4, as, r5⟩ := each i _ v (List.getElem?_eq_getElem hi) h1
        obtain ⟨e1, _⟩ := reads_det (fun b o z _ => k b o z) r5 h2
        rw [← lpmin_toP hS y es fun _ m => m] at e1
        have e2 := toP_one hS (lpmin_mem y es) (List.getElem_mem hi) e1
        rw [← e2] at r3
        exact ⟨x, H, I.kept k, r4, q _ _ (new_old r3)⟩
    have hal2 : PySem.W.AlikeAll ((y :: es).map toP) := by
      refine ⟨fun d hd d' hd' => ?_, fun d hd => ?_⟩
      · obtain ⟨a, ha, rfl⟩ := List.mem_map.mp hd
        obtain ⟨b, hb', rfl⟩ := List.mem_map.mp hd'
        rw [alk_toP a b 63 63 (flatL_mem hf a ha) (flatL_mem hf b hb')]
        exact alk_mem hal ha hb'
      · obtain ⟨a, ha, rfl⟩ := List.mem_map.mp hd
        exact ne_none_toP hf hks a ha
    have hdep : PyData.depthAll ((y :: es).map toP) ≤ 64 := depth_allZ fun d hd => by
      obtain ⟨a, ha, rfl⟩ := List.mem_map.mp hd
      have := (flat_lay a 63 (flatL_mem hf a ha)).2
      omega
    rcases hl with hl | hl
    · obtain ⟨its, rv, pl, hz⟩ := I.list (SqL.of hl)
      obtain ⟨⟨as, ra⟩, fin⟩ := key its rv
      exact PySem.W.min_list_data (I.ok.hd hc) pl.isList (by simpa using ra) (by simpa using hal2) (by simp only [List.map_cons] at hdep; omega) fun i v h' tk bs h1 h2 k => fin i v h' tk bs (by simpa using h1) h2 k
    · obtain ⟨its, rv, pl, hz⟩ := I.tuple (SqT.of hl)
      obtain ⟨⟨as, ra⟩, fin⟩ := key its rv
      exact PySem.W.min_tuple_data (I.ok.hd hc) pl (by simpa using ra) (by simpa using hal2) (by simp only [List.map_cons] at hdep; omega) fun i v h' tk bs h1 h2 k => fin i v h' tk bs (by simpa using h1) h2 k
  · obtain ⟨v, w, U, W, rfl, r1, r2⟩ := rdl2 rd
    obtain rfl := rp_int r1
    obtain rfl := rp_int r2
    refine call_min2Nu hc pins s σ H _ us Q I r ⟨_, _, .int (if b < a then b else a), rfl, ?_, q _ _ (new_old (mk_int _ _))⟩
    have e : nuLt (V.int b) (V.int a) = some (decide (b < a)) := rfl
    simp only [nuMin2, e]
    by_cases h : b < a <;> simp [h]
end
end LPS

set_option autoImplicit false
set_option linter.all false
set_option maxRecDepth 100000
/-! xs.pop() -/
namespace LPS
open PySem PySem.Spec PyProof.Rows L2 LP
section
variable {g : Gk} {call : LP.Cll} {σ σ1 σ2 : L2.St} {F F1 F2 : AS} {H H1 H2 : Hp} {ρ ρ1 ρ2 : LP.Env} {fp fp1 fp2 : Nat → AS} {T T1 T2 R : AS} {X : Cx}
/-- the last item apart -/
theorem RpL.last : ∀ {ds : List D} {x : D} {vs : List V} {W : AS}, RpL g F H (ds ++ [x]) vs W → ∃ vs1 v W1 T1, vs = vs1 ++ [v] ∧ RpL g F H ds vs1 W1 ∧ Rp g F H x v T1 ∧ (∀ b, W1 b → W b ∧ ¬ T1 b) ∧ (∀ b, T1 b → W b)
  | [], x, vs, W, h => by
    simp only [List.nil_append, RpL] at h
    obtain ⟨v, r, T1, T2, rfl, h1, rfl, h2, _⟩ := h
    exact ⟨[], v, e0, T1, rfl, RpL.nil, h1, fun _ z => z.elim, fun b hb => (h2 b hb).1⟩
  | d :: ds, x, vs, W, h => by
    simp only [List.cons_append, RpL] at h
    obtain ⟨v, r, T1, T2, rfl, h1, h2, h3, h4⟩ := h
    obtain ⟨vs1, w, W1, T3, rfl, a1, a2, a3, a4⟩ := RpL.last h2
    refine ⟨v :: vs1, w, fun b => T1 b ∨ W1 b, T3, rfl, ?_, a2, fun b hb => ?_, fun b hb => h4 b (a4 b hb)⟩
    · exact RpL.cons h1 a1 fun b hb z => (h3 b hb).2 (a3 b z).1
    · rcases hb with z | z
      · exact ⟨(h3 b z).1, fun y => (h3 b z).2 (a4 b y)⟩
      · exact ⟨h4 b (a3 b z).1, (a3 b z).2⟩
theorem tEs_nil {σ : L2.St} {H : Hp} {Q : List V → Hp → Prop} (h : tEs g call .nil σ H Q) : Q [] H := by
  obtain ⟨F, ρ, fp, s, ds, ρ', h, k⟩ := h
  simp only [LP.evs, Option.some.injEq, Prod.mk.injEq] at h
  obtain ⟨rfl, rfl⟩ := h
  exact k [] F H fp e0 (Ps.refl s) .nil
theorem tE_mono {e : E} {σ : L2.St} {H : Hp} {Q Q' : VK} (h : tE g call e σ H Q) (hq : ∀ v H', Q v H' → Q' v H') : tE g call e σ H Q' := by
  obtain ⟨F, ρ, fp, s, o, ho, k⟩ := h
  exact ⟨F, ρ, fp, s, o, ho, fun v F' H' fp' T p r => hq _ _ (k v F' H' fp' T p r)⟩
theorem pe_popL (inj : ∀ i j, g.an i = g.an j → i = j) (K : X.K = g.K) {o : Expr} {er : E} {apos cpos : Pos} (ho : PE X o (tE g call er))
    (hbase : attributeBase o "pop" X.env (eval o X.env) = eval o X.env) (hline : (apos.endLine == cpos.line) = true) :
    PE X (.Call (.Attribute o "pop" apos) [] [] cpos) (tE g call (.mm .pop er .nil)) :=
  (pe_bm0 (T := "list") F.plainAttrs_list F.slot_list_pop F.type_list_pop (fun pins s σ H x vs v us Q I rx rv h => mt_pop pins s σ H x vs v us Q I rx rv h) ho hbase hline).imp fun σ H Q ⟨F, ρ, fp, s, oo, he, k⟩ => by
    have inv : ∀ e ds x e', mmo .pop e ds = some (x, e') → ∃ l, e = .lst true (l ++ [x]) ∧ ds = [] ∧ e' = .lst true l := fun e ds x e' h => by
      unfold mmo at h
      split at h <;> first | (simp at h; done) | skip
      all_goals first | (rename_i heq; cases heq; done) | skip
      all_goals
        split at h
        · rename_i x' hx
          cases h
          obtain ⟨l, rfl⟩ := List.getLast?_eq_some_iff.mp hx
          exact ⟨l, rfl, rfl, by simp⟩
        · cases h
    refine tE_mono (mm_rd inj (P := fun v H1 => tyV X.K "list" v H1) (R := fun v vs H1 => rPop v vs H1 Q) s he (fun d e x e' ds v F1 H1 U hs hm r => ?_) (fun e ds x e' v vs F1 H1 U T1 hm r gU gT dj ra hF q => ?_) (fun e ds x e' h => ?_) k) fun v H1 ⟨hp, hq⟩ => ⟨hp, ?_⟩
    · obtain ⟨l, rfl, _⟩ := inv _ _ _ _ hm
      exact r.tyL (e := d) hs K
    · obtain ⟨l, rfl, rfl, rfl⟩ := inv _ _ _ _ hm
      obtain ⟨a, ws, W, rfl, ha, rl, hUa, hW⟩ := rp_own r
      obtain ⟨vs1, w, W1, T3, rfl, a1, a2, a3, a4⟩ := rl.last
      simp only [RpL] at ra
      refine ⟨a, vs1 ++ [w], w, rfl, ra, ha, by simp, ?_⟩
      rw [List.dropLast_concat]
      have mu : MuO (upd H1 a (.lst vs1)) a := ⟨_, upd_same, .inl ⟨_, rfl⟩⟩
      refine q w _ (fun b => b = a ∨ W1 b) T3 (Kp.upd1 hUa (gU a hUa).2.ne) ?_ (a2.upd1 gU hUa fun b hb => (hW b (a4 b hb)).2) (fun b hb => ?_) (fun b hb z => ?_) ?_ ?_
      · exact mk_own (W := W1) upd_same (a1.upd1 gU hUa fun b hb => (hW b (a3 b hb).1).2) (.inl rfl) fun b hb => ⟨.inr hb, (hW b (a3 b hb).1).2⟩
      · rcases hb with (rfl | z) | z
        · exact .inl hUa
        · exact .inl (hW b (a3 b z).1).1
        · exact .inl (hW b (a4 b z)).1
      · rcases hb with rfl | hb
        · exact (hW _ (a4 _ z)).2 rfl
        · exact (a3 b hb).2 z
      · refine Gd.upd1 (fun b hb => ?_) mu
        rcases hb with rfl | hb
        · exact gU _ hUa
        · exact gU b (hW b (a3 b hb).1).1
      · exact Gd.upd1 (fun b hb => gU b (hW b (a4 b hb)).1) mu
    · obtain ⟨l, rfl, _⟩ := inv _ _ _ _ h
      rfl
    · exact tEs_nil hq
end
end LPS

set_option autoImplicit false
set_option linter.all false
set_option maxRecDepth 100000
/-! list(range(..)), tuple(range(..)), xs[::-1] -/
namespace LPS
open PySem PySem.Spec PyProof.Rows L2 LP
section
variable {g : Gk} {call : LP.Cll} {σ σ1 σ2 : L2.St} {F F1 F2 : AS} {H H1 H2 : Hp} {ρ ρ1 ρ2 : LP.Env} {fp fp1 fp2 : Nat → AS} {T T1 T2 R : AS} {X : Cx}
theorem tV_nil {σ : L2.St} {H : Hp} {Q : List V → Hp → Prop} (h : tV g call .nil σ H Q) : Q [] H := by
  obtain ⟨F, ρ, fp, s, ds, ρ', h, k⟩ := h
  simp only [LP.evV, Option.some.injEq, Prod.mk.injEq] at h
  obtain ⟨rfl, rfl⟩ := h
  exact k [] F H fp (Ps.refl s) (by simp only [RdL])
theorem tV_cons (inj : ∀ i j, g.an i = g.an j → i = j) {e : E} {es : Es} {σ : L2.St} {H : Hp} {Q : List V → Hp → Prop} (h : tV g call (.cons e es) σ H Q) : tE g call e σ H fun v H1 => tV g call es σ H1 fun vs H2 => Q (v :: vs) H2 := by
  obtain ⟨F, ρ, fp, s, ds, ρ', h, k⟩ := h
  simp only [LP.evV] at h
  split at h
  · rename_i o ho
    split at h
    · rename_i ds' ρ2 hr
      simp only [Option.some.injEq, Prod.mk.injEq] at h
      obtain ⟨rfl, rfl⟩ := h
      refine ⟨F, ρ, fp, s, o, ho, fun v F1 H1 fp1 T1 p1 r1 => ⟨F1, _, fp1, p1.st.lock _, ds', ρ2, hr, fun vs F3 H3 fp3 p3 r3 => ?_⟩⟩
      obtain ⟨r1', p4⟩ := r1.stay inj p1 p3
      obtain ⟨U, ru⟩ := r1'.rp inj p4.st
      exact k (v :: vs) F3 H3 fp3 p4 (by simp only [RdL]; exact ⟨v, vs, U, rfl, ru, r3⟩)
    · cases h
  · cases h
theorem rg_all (a b : Int) : RpL g F H (rangeD a b) (rgV a b) e0 := by
  have := rpL_of (g := g) (F := F) (H := H) (L := (List.range (b - a).toNat).map fun k => (D.int (a + (k : Nat)), V.int (a + (k : Nat)))) fun p hp => by
    obtain ⟨k, _, rfl⟩ := List.mem_map.mp hp
    simp only [Rp]
  rw [List.map_map, List.map_map] at this
  exact this
theorem lrg_inv {b : Blt} (hb : b = .listRg ∨ b = .tupRg) {ds : List D} {d : D} (h : blt b ds = some d) : ∃ i j, (ds = [.int j] ∧ i = 0 ∨ ds = [.int i, .int j]) ∧ rOk i = true ∧ rOk j = true ∧ j - i < 65536 ∧ d = (if b = .listRg then .lst true (rangeD i j) else .tup (rangeD i j)) := by
  rcases hb with rfl | rfl <;> (
    unfold blt at h
    split at h <;> first | (simp at h; done) | skip
    all_goals first
      | (rename_i heq; cases heq; done)
      | (split at h
         · rename_i hr
           simp only [Bool.and_eq_true, decide_eq_true_eq] at hr
           cases h
           first
           | exact ⟨0, _, .inl ⟨rfl, rfl⟩, by decide, hr.1, by omega, rfl⟩
           | exact ⟨_, _, .inr rfl, hr.1.1, hr.1.2, hr.2, rfl⟩
         · cases h)
      | (exfalso; simp_all; done))
theorem rgOk_of {i j : Int} (h1 : rOk i = true) (h2 : rOk j = true) (h3 : j - i < 65536) : RgOk i j := by
  simp only [rOk, decide_eq_true_eq] at h1 h2
  refine ⟨by omega, by omega, by omega, by omega, by omega⟩
/-- the call's arguments, the answer's rule -/
theorem blt_to {b : Blt} {as : Es} {σ : L2.St} {H : Hp} {Q : VK} (h : tE g call (.blt b as) σ H Q) : tV g call as σ H fun vs H1 => ∃ F ds d, RdL g F H1 ds vs ∧ blt b ds = some d ∧ (∀ b, F b → H1 b ≠ none) ∧ ∀ v H', NewV g F H1 d v H' → Q v H' := tCB_imp h
theorem pe_listRg1L (inj : ∀ i j, g.an i = g.an j → i = j) {a : Expr} {ea : E} {p p2 pos pos2 : Pos} (hc : X.calm = true) (hg : Gl X "list") (hm : X.mg "list" = none) (hg2 : Gl X "range") (hm2 : X.mg "range" = none) (ha : PE X a (tE g call ea))
    (na2 : starEach [a] X.env = (false, eval a X.env) :: starEach [] X.env) (na : starEach [.Call (.Name "range" p2) [a] [] pos2] X.env = (false, eval (.Call (.Name "range" p2) [a] [] pos2) X.env) :: starEach [] X.env) :
    PE X (.Call (.Name "list" p) [.Call (.Name "range" p2) [a] [] pos2] [] pos) (tE g call (.blt .listRg (.cons ea .nil))) :=
  (pe_listRg hc hg hm (prg_1 hg2 hm2 ha na2) na).imp fun σ H Q h => tE_mono (tV_cons inj (blt_to h)) fun v H1 h1 => by
    obtain ⟨F, ds, d, rd, hb, hF, q⟩ := tV_nil h1
    obtain ⟨i, j, hd, k1, k2, k3, rfl⟩ := lrg_inv (.inl rfl) hb
    rcases hd with ⟨rfl, rfl⟩ | rfl
    · obtain ⟨v', U, e, r⟩ := rdl1 rd
      cases e
      obtain rfl := rp_int r
      exact ⟨j, rfl, rgOk_of k1 k2 k3, fun q' hq => q _ _ (new_lst hF hq (rg_all _ _))⟩
    · obtain ⟨v', w, U, W, e, _⟩ := rdl2 rd
      cases e
theorem pe_tupRg1L (inj : ∀ i j, g.an i = g.an j → i = j) {a : Expr} {ea : E} {p p2 pos pos2 : Pos} (hc : X.calm = true) (hg : Gl X "tuple") (hm : X.mg "tuple" = none) (hg2 : Gl X "range") (hm2 : X.mg "range" = none) (ha : PE X a (tE g call ea))
    (na2 : starEach [a] X.env = (false, eval a X.env) :: starEach [] X.env) (na : starEach [.Call (.Name "range" p2) [a] [] pos2] X.env = (false, eval (.Call (.Name "range" p2) [a] [] pos2) X.env) :: starEach [] X.env) :
    PE X (.Call (.Name "tuple" p) [.Call (.Name "range" p2) [a] [] pos2] [] pos) (tE g call (.blt .tupRg (.cons ea .nil))) :=
  (pe_tupRg hc hg hm (prg_1 hg2 hm2 ha na2) na).imp fun σ H Q h => tE_mono (tV_cons inj (blt_to h)) fun v H1 h1 => by
    obtain ⟨F, ds, d, rd, hb, hF, q⟩ := tV_nil h1
    obtain ⟨i, j, hd, k1, k2, k3, rfl⟩ := lrg_inv (.inr rfl) hb
    rcases hd with ⟨rfl, rfl⟩ | rfl
    · obtain ⟨v', U, e, r⟩ := rdl1 rd
      cases e
      obtain rfl := rp_int r
      exact ⟨j, rfl, rgOk_of k1 k2 k3, fun q' hq => q _ _ (new_tup hF hq (rg_all _ _))⟩
    · obtain ⟨v', w, U, W, e, _⟩ := rdl2 rd
      cases e
theorem pe_listRg2L (inj : ∀ i j, g.an i = g.an j → i = j) {a b : Expr} {ea eb : E} {p p2 pos pos2 : Pos} (hc : X.calm = true) (hg : Gl X "list") (hm : X.mg "list" = none) (hg2 : Gl X "range") (hm2 : X.mg "range" = none) (ha : PE X a (tE g call ea)) (hb : PE X b (tE g call eb))
    (na2 : starEach [a, b] X.env = (false, eval a X.env) :: starEach [b] X.env) (nb : starEach [b] X.env = (false, eval b X.env) :: starEach [] X.env) (hp : (backTo pos2 (starEach [b] X.env)).any (·.1) = false)
    (na : starEach [.Call (.Name "range" p2) [a, b] [] pos2] X.env = (false, eval (.Call (.Name "range" p2) [a, b] [] pos2) X.env) :: starEach [] X.env) :
    PE X (.Call (.Name "list" p) [.Call (.Name "range" p2) [a, b] [] pos2] [] pos) (tE g call (.blt .listRg (.cons ea (.cons eb .nil)))) :=
  (pe_listRg hc hg hm (prg_2 hg2 hm2 ha hb na2 nb hp) na).imp fun σ H Q h => tE_mono (tV_cons inj (blt_to h)) fun v H1 h1 => tE_mono (tV_cons inj h1) fun v2 H2 h2 => by
    obtain ⟨F, ds, d, rd, hb, hF, q⟩ := tV_nil h2
    obtain ⟨i, j, hd, k1, k2, k3, rfl⟩ := lrg_inv (.inl rfl) hb
    rcases hd with ⟨rfl, rfl⟩ | rfl
    · obtain ⟨v', U, e, r⟩ := rdl1 rd
      cases e
    · obtain ⟨v', w, U, W, e, r1, r2⟩ := rdl2 rd
      cases e
      obtain rfl := rp_int r1
      obtain rfl := rp_int r2
      exact ⟨i, j, rfl, rfl, rgOk_of k1 k2 k3, fun q' hq => q _ _ (new_lst hF hq (rg_all _ _))⟩
theorem pe_tupRg2L (inj : ∀ i j, g.an i = g.an j → i = j) {a b : Expr} {ea eb : E} {p p2 pos pos2 : Pos} (hc : X.calm = true) (hg : Gl X "tuple") (hm : X.mg "tuple" = none) (hg2 : Gl X "range") (hm2 : X.mg "range" = none) (ha : PE X a (tE g call ea)) (hb : PE X b (tE g call eb))
    (na2 : starEach [a, b] X.env = (false, eval a X.env) :: starEach [b] X.env) (nb : starEach [b] X.env = (false, eval b X.env) :: starEach [] X.env) (hp : (backTo pos2 (starEach [b] X.env)).any (·.1) = false)
    (na : starEach [.Call (.Name "range" p2) [a, b] [] pos2] X.env = (false, eval (.Call (.Name "range" p2) [a, b] [] pos2) X.env) :: starEach [] X.env) :
    PE X (.Call (.Name "tuple" p) [.Call (.Name "range" p2) [a, b] [] pos2] [] pos) (tE g call (.blt .tupRg (.cons ea (.cons eb .nil)))) :=
  (pe_tupRg hc hg hm (prg_2 hg2 hm2 ha hb na2 nb hp) na).imp fun σ H Q h => tE_mono (tV_cons inj (blt_to h)) fun v H1 h1 => tE_mono (tV_cons inj h1) fun v2 H2 h2 => by
    obtain ⟨F, ds, d, rd, hb, hF, q⟩ := tV_nil h2
    obtain ⟨i, j, hd, k1, k2, k3, rfl⟩ := lrg_inv (.inr rfl) hb
    rcases hd with ⟨rfl, rfl⟩ | rfl
    · obtain ⟨v', U, e, r⟩ := rdl1 rd
      cases e
    · obtain ⟨v', w, U, W, e, r1, r2⟩ := rdl2 rd
      cases e
      obtain rfl := rp_int r1
      obtain rfl := rp_int r2
      exact ⟨i, j, rfl, rfl, rgOk_of k1 k2 k3, fun q' hq => q _ _ (new_tup hF hq (rg_all _ _))⟩
end
end LPS

set_option autoImplicit false
set_option linter.all false
set_option maxRecDepth 100000
/-! plain facts on LP's runs, for the plain laws -/
namespace PB
open LP
theorem callN_at {fs : List Fn} {n f : Nat} {fn : Fn} {ds : List D} {d : D} {ρ : Env} (h : fs[f]? = some fn) (ha : assOk fn.ass ds = true) (he : exs (callN fs n) fn.body (ds.map .ow ++ List.replicate fn.ns .no) = some (.rt d, ρ)) :
    callN fs (n + 1) f ds = some (d, ρ.take fn.np) := by simp only [callN, h, ha, if_true, he]
theorem foldO_inv {α β : Type} {f : α → β → Option β} (Inv : Nat → β → Prop) : ∀ (ds : List α) (b : β) (i : Nat), Inv i b → (∀ j d b, ds[j]? = some d → Inv (i + j) b → ∃ b', f d b = some b' ∧ Inv (i + j + 1) b') → ∃ b', foldO f ds b = some b' ∧ Inv (i + ds.length) b'
  | [], b, i, h, _ => ⟨b, rfl, h⟩
  | d :: ds, b, i, h, st => by
    obtain ⟨b1, e1, h1⟩ := st 0 d b rfl h
    obtain ⟨b2, e2, h2⟩ := foldO_inv Inv ds b1 (i + 1) h1 fun j d b hd hi => by
      have := st (j + 1) d b (by simpa using hd) (by have e : i + (j + 1) = i + 1 + j := by omega
                                                     rw [e]; exact hi)
      obtain ⟨b', e, h⟩ := this
      exact ⟨b', e, by have e' : i + 1 + j + 1 = i + (j + 1) + 1 := by omega
                       rw [e']; exact h⟩
    refine ⟨b2, by simp only [foldO, e1, e2], ?_⟩
    have e : i + (d :: ds).length = i + 1 + ds.length := by simp; omega
    rw [e]; exact h2
theorem forO_inv {f : D → Env → Option (Fl × Env)} (Inv : Nat → Env → Prop) : ∀ (ds : List D) (ρ : Env) (i : Nat), Inv i ρ → (∀ j d ρ, ds[j]? = some d → Inv (i + j) ρ → ∃ fl ρ', f d ρ = some (fl, ρ') ∧ (fl = .nx ∨ fl = .ct) ∧ Inv (i + j + 1) ρ') → ∃ ρ', forO f ds ρ = some (.nx, ρ') ∧ Inv (i + ds.length) ρ'
  | [], ρ, i, h, _ => ⟨ρ, rfl, h⟩
  | d :: ds, ρ, i, h, st => by
    obtain ⟨fl, ρ1, e1, hf, h1⟩ := st 0 d ρ rfl h
    obtain ⟨ρ2, e2, h2⟩ := forO_inv Inv ds ρ1 (i + 1) h1 fun j d ρ hd hi => by
      obtain ⟨fl, ρ', e, hf, h⟩ := st (j + 1) d ρ (by simpa using hd) (by have e : i + (j + 1) = i + 1 + j := by omega
                                                                          rw [e]; exact hi)
      exact ⟨fl, ρ', e, hf, by have e' : i + 1 + j + 1 = i + (j + 1) + 1 := by omega
                               rw [e']; exact h⟩
    refine ⟨ρ2, by rcases hf with rfl | rfl <;> simp only [forO, e1, e2], ?_⟩
    have e : i + (d :: ds).length = i + 1 + ds.length := by simp; omega
    rw [e]; exact h2
/-! ### locks, own slots -/
theorem unlock_lock (k : Kd) (ρ : Env) : unlock k ρ (lock k ρ) = ρ := by
  cases k with
  | val => rfl
  | vw i p =>
    unfold unlock lock
    dsimp only
    cases h : ρ[i]? with
    | none => rfl
    | some s =>
      cases s with
      | ow d =>
        dsimp only
        rw [List.set_set]
        apply List.ext_getElem?
        intro j
        by_cases e : i = j
        · subst e; rw [List.getElem?_set_self (List.getElem?_eq_some_iff.mp h).1, h]
        · rw [List.getElem?_set_ne e]
      | _ => rfl
theorem unset_len : ∀ {is : List Nat} {ρ : Env}, (unsetAll is ρ).length = ρ.length
  | [], ρ => rfl
  | i :: is, ρ => by simp [unsetAll, unset_len]
theorem reset_len : ∀ {is : List Nat} {ρ0 ρ : Env}, (resetAll is ρ0 ρ).length = ρ.length
  | [], _, ρ => rfl
  | i :: is, ρ0, ρ => by
    simp only [resetAll]
    split
    · simp [reset_len]
    · exact reset_len
theorem unset_out : ∀ {is : List Nat} {ρ : Env} {j : Nat}, j ∉ is → (unsetAll is ρ)[j]? = ρ[j]?
  | [], ρ, j, _ => rfl
  | i :: is, ρ, j, h => by
    simp only [unsetAll]
    rw [List.getElem?_set_ne (fun e => h (by simp [e])), unset_out fun z => h (List.mem_cons_of_mem _ z)]
theorem reset_at : ∀ {is : List Nat} {ρ0 ρ : Env} {j : Nat}, ρ0.length = ρ.length → (resetAll is ρ0 ρ)[j]? = if j ∈ is then ρ0[j]? else ρ[j]?
  | [], ρ0, ρ, j, _ => by simp [resetAll]
  | i :: is, ρ0, ρ, j, hl => by
    simp only [resetAll]
    by_cases h : i = j
    · subst h
      split
      · rename_i s hs
        rw [List.getElem?_set_self (by rw [reset_len, ← hl]; exact (List.getElem?_eq_some_iff.mp hs).1)]
        simp [hs]
      · rename_i hs
        rw [List.getElem?_eq_none (by rw [reset_len, ← hl]; simpa using hs)]
        simp [hs]
    · split
      · rw [List.getElem?_set_ne h, reset_at hl]
        simp [Ne.symm h]
      · rw [reset_at hl]
        simp [Ne.symm h]
theorem reset_unset {is : List Nat} {ρ ρ' : Env} (h : unsetAll is ρ' = unsetAll is ρ) : resetAll is ρ ρ' = ρ := by
  have hl : ρ.length = ρ'.length := by
    have := congrArg List.length h
    rw [unset_len, unset_len] at this
    exact this.symm
  apply List.ext_getElem?
  intro j
  rw [reset_at hl]
  by_cases hj : j ∈ is
  · rw [if_pos hj]
  · rw [if_neg hj, ← unset_out (ρ := ρ') hj, h, unset_out hj]
/-- a comprehension whose turns leave the frame as it was -/
theorem lc1_pure {C : Cll} {e it : E} {is : List Nat} {t : Tg} {c : Oe} {ρ ρ1 : Env} {ds : List D} {k : Kd} (f : D → List D) (hw : walk (ev C it ρ) = some (ds, k, ρ1)) (hl : ds.length < lim)
    (h : ∀ d ∈ ds, ∃ ρ2 b ρ3, asgT t d (unsetAll is (lock k ρ1)) = some ρ2 ∧ evC C c ρ2 = some (b, ρ3) ∧
      ((b = false ∧ f d = [] ∧ unsetAll is ρ3 = unsetAll is (lock k ρ1)) ∨ (b = true ∧ ∃ o x ρ4, ev C e ρ3 = some o ∧ own o = some (x, ρ4) ∧ f d = [x] ∧ unsetAll is ρ4 = unsetAll is (lock k ρ1)))) :
    ev C (.lc1 e is t it c) ρ = some ⟨.lst true (ds.flatMap f), .val, ρ1⟩ := by
  obtain ⟨⟨r, ρ4⟩, e1, h1, h2, h3⟩ := foldO_inv (f := fun d (b : List D × Env) => match asgT t d (unsetAll is b.2) with
        | some ρ2 => match evC C c ρ2 with
          | some (true, ρ3) => match ev C e ρ3 with
            | some o => match own o with
              | some (x, ρ4) => if b.1.length + 1 < lim then some (b.1 ++ [x], ρ4) else none
              | none => none
            | none => none
          | some (false, ρ3) => some (b.1, ρ3)
          | none => none
        | none => none) (fun i b => b.1 = (ds.take i).flatMap f ∧ b.1.length ≤ i ∧ unsetAll is b.2 = unsetAll is (lock k ρ1)) ds ([], unsetAll is (lock k ρ1)) 0 ⟨rfl, Nat.le_refl _, by
      apply List.ext_getElem?
      intro j
      by_cases hj : j ∈ is
      · have aux : ∀ (is : List Nat) (ρ : Env), j ∈ is → (unsetAll is ρ)[j]? = (ρ[j]?).map fun _ => Sl.no := by
          intro is
          induction is with
          | nil => intro ρ h; simp at h
          | cons i is ih =>
            intro ρ h
            simp only [unsetAll]
            by_cases e : i = j
            · subst e
              by_cases hl : i < ρ.length
              · rw [List.getElem?_set_self (by rw [unset_len]; exact hl)]; simp [List.getElem?_eq_getElem hl]
              · rw [List.getElem?_eq_none (by rw [List.length_set, unset_len]; omega)]; simp [List.getElem?_eq_none (by omega : ρ.length ≤ i)]
            · rw [List.getElem?_set_ne e]
              exact ih ρ ((List.mem_cons.mp h).resolve_left (Ne.symm e))
        rw [aux is _ hj, aux is _ hj]
        cases (lock k ρ1)[j]? <;> rfl
      · rw [unset_out hj]⟩ fun j d b hd ⟨i1, i2, i3⟩ => by
    rw [Nat.zero_add] at i1 i2 ⊢
    have hj : j < ds.length := (List.getElem?_eq_some_iff.mp hd).1
    have ht : (ds.take (j + 1)).flatMap f = (ds.take j).flatMap f ++ f d := by
      rw [List.take_succ, hd]; simp
    obtain ⟨ρ2, bb, ρ3, e1, e2, e3⟩ := h d (List.mem_of_getElem? hd)
    simp only [i3, e1, e2]
    rcases e3 with ⟨rfl, e3, e4⟩ | ⟨rfl, o, x, ρ4, e3, e4, e5, e6⟩
    · exact ⟨_, rfl, by rw [ht, e3, List.append_nil]; exact i1, Nat.le_succ_of_le i2, e4⟩
    · simp only [e3, e4]
      have : b.1.length + 1 < lim := by omega
      rw [if_pos this]
      exact ⟨_, rfl, by rw [ht, e5, i1], by simp; omega, e6⟩
  simp only [Nat.zero_add, List.take_length] at h1
  simp only [ev, hw]
  split
  · rename_i r' ρ' hh
    have := hh.symm.trans e1
    simp only [Option.some.injEq, Prod.mk.injEq] at this
    obtain ⟨rfl, rfl⟩ := this
    rw [reset_unset h3, unlock_lock]
    rw [h1]
  · rename_i hh
    have := hh.symm.trans e1
    cases this
/-! ### steps (over variables: the kernel must not run them on terms) -/
theorem ev_blt {C : Cll} {b : Blt} {as : Es} {ρ ρ' : Env} {ds : List D} {d : D} (h1 : evV C as ρ = some (ds, ρ')) (h2 : blt b ds = some d) : ev C (.blt b as) ρ = some ⟨d, .val, ρ'⟩ := by simp only [ev, h1, h2]
theorem evV_one {C : Cll} {e : E} {ρ ρ' : Env} {d : D} (h : ev C e ρ = some ⟨d, .val, ρ'⟩) : evV C (.cons e .nil) ρ = some ([d], ρ') := by simp only [evV, h, lock, unlock]
theorem ev_var {C : Cll} {i : Nat} {ρ : Env} {o : Out} (h : rd ρ i = some o) : ev C (.var i) ρ = some o := by simp only [ev, h]
theorem rng1_ok {m : Int} (hr : rOk m = true) : blt .range [.int m] = some (.lst true (rangeD 0 m)) := by simp only [blt, hr, if_true]
theorem walk_ev {o : Option Out} {a b : Int} {ρ : Env} (h : o = some ⟨.lst true (rangeD a b), .val, ρ⟩) : walk o = some (rangeD a b, .val, ρ) := by
  have aux : ∀ {α : Type} (f : α → Int) (l : List α), persL (l.map fun x => .int (f x)) = true := by
    intro α f l
    induction l with
    | nil => rfl
    | cons a l ih => simp [persL, pers, ih]
  have hp : persL (rangeD a b) = true := aux _ _
  subst h
  simp only [walk, hp, if_true]

theorem exs_nx {C : Cll} {s : S} {ss : Ss} {ρ ρ' : Env} (h : ex C s ρ = some (.nx, ρ')) : exs C (.cons s ss) ρ = exs C ss ρ' := by simp only [exs, h]
theorem exs_rt {C : Cll} {s : S} {ss : Ss} {ρ ρ' : Env} {d : D} (h : ex C s ρ = some (.rt d, ρ')) : exs C (.cons s ss) ρ = some (.rt d, ρ') := by simp only [exs, h]
theorem exs_one {C : Cll} {s : S} {ρ ρ' : Env} (h : ex C s ρ = some (.nx, ρ')) : exs C (.cons s .nil) ρ = some (.nx, ρ') := by simp only [exs, h]
theorem ifs_t {C : Cll} {c : E} {a b : Ss} {ρ ρ' : Env} (h : evB C c ρ = some (true, ρ')) : ex C (.ifs c a b) ρ = exs C a ρ' := by simp only [ex, h]
theorem ifs_f {C : Cll} {c : E} {a b : Ss} {ρ ρ' : Env} (h : evB C c ρ = some (false, ρ')) : ex C (.ifs c a b) ρ = exs C b ρ' := by simp only [ex, h]
theorem asg_nm {C : Cll} {i : Nat} {e : E} {d : D} {ρ ρ' : Env} (h : evD C e ρ = some (d, ρ')) (hi : i < ρ'.length) (nro : ∀ x, ρ'[i]? ≠ some (Sl.ro x)) : ex C (.asg (.nm i) e) ρ = some (.nx, ρ'.set i (.ow d)) := by
  simp only [ex, h, asgT]
  rw [List.getElem?_eq_getElem hi] at nro ⊢
  cases hs : ρ'[i] with
  | ro x => exact absurd (by rw [hs]) (nro x)
  | _ => rfl
theorem for_nx {C : Cll} {t : Tg} {it : E} {b : Ss} {ds : List D} {k : Kd} {ρ ρ1 ρ4 : Env} (hw : walk (ev C it ρ) = some (ds, k, ρ1)) (h : forO (fun d ρ2 => match asgT t d ρ2 with
        | some ρ3 => exs C b ρ3
        | none => none) ds (lock k ρ1) = some (.nx, ρ4)) : ex C (.for_ t it b) ρ = some (.nx, unlock k ρ1 ρ4) := by
  simp only [ex, hw]
  split
  · rename_i hh
    have := hh.symm.trans h
    simp only [Option.some.injEq, Prod.mk.injEq] at this
    obtain ⟨rfl, rfl⟩ := this
    rfl
  · rename_i hh
    have := hh.symm.trans h
    cases this
end PB

set_option autoImplicit false
set_option linter.all false
set_option maxRecDepth 100000
/-! SH: typed readings of LP runs -/
namespace SH
open LP
/-! ### encodings -/
abbrev Str := List Char
structure T3 (α β γ : Type) where
  a : α
  b : β
  c : γ
  deriving DecidableEq, Repr, Inhabited
structure T4 (α β γ δ : Type) where
  a : α
  b : β
  c : γ
  d : δ
  deriving DecidableEq, Repr, Inhabited
structure T5 (α β γ δ ε : Type) where
  a : α
  b : β
  c : γ
  d : δ
  e : ε
  deriving DecidableEq, Repr, Inhabited
def eI : Int → D := .int
def eB : Bool → D := .bl
def eN : Unit → D := fun _ => .non
def eS (s : Str) : D := .str (s.map Char.toNat)
section
variable {α β γ δ ε κ : Type}
def eT (f : α → D) (xs : List α) : D := .tup (xs.map f)
def eL (o : Bool) (f : α → D) (xs : List α) : D := .lst o (xs.map f)
def eDi (o : Bool) (f : κ → D) (g : β → D) (xs : List (κ × β)) : D := .dct o (xs.map fun p => (f p.1, g p.2))
def eO (f : α → D) : Option α → D
  | none => .non
  | some a => f a
def e2 (f : α → D) (g : β → D) (p : α × β) : D := .tup [f p.1, g p.2]
def e3 (f : α → D) (g : β → D) (h : γ → D) (p : T3 α β γ) : D := .tup [f p.a, g p.b, h p.c]
def e4 (f : α → D) (g : β → D) (h : γ → D) (i : δ → D) (p : T4 α β γ δ) : D := .tup [f p.a, g p.b, h p.c, i p.d]
def e5 (f : α → D) (g : β → D) (h : γ → D) (i : δ → D) (j : ε → D) (p : T5 α β γ δ ε) : D := .tup [f p.a, g p.b, h p.c, i p.d, j p.e]
def eScr (ns : List Int) : D := .scr ns
/-- nothing in it can be exchanged -/
class Ec (f : α → D) : Prop where
  p : ∀ a, pers (f a) = true
theorem persL_map {f : α → D} (h : ∀ a, pers (f a) = true) : ∀ xs : List α, persL (xs.map f) = true
  | [] => rfl
  | a :: xs => by simp only [List.map_cons, persL, h, persL_map h xs, Bool.and_self]
instance : Ec eI := ⟨fun _ => rfl⟩
instance : Ec eB := ⟨fun _ => rfl⟩
instance : Ec eN := ⟨fun _ => rfl⟩
instance : Ec eS := ⟨fun _ => rfl⟩
instance : Ec eScr := ⟨fun _ => rfl⟩
instance {f : α → D} [Ec f] : Ec (eT f) := ⟨fun xs => persL_map Ec.p xs⟩
instance {f : α → D} [Ec f] : Ec (eL false f) := ⟨fun xs => by simp only [eL, pers, persL_map Ec.p, Bool.not_false, Bool.and_self]⟩
instance {f : α → D} [Ec f] : Ec (eO f) := ⟨fun x => by cases x with
  | none => rfl
  | some a => exact Ec.p (f := f) a⟩
instance {f : α → D} {g : β → D} [Ec f] [Ec g] : Ec (e2 f g) := ⟨fun x => by simp only [e2, pers, persL, Ec.p, Bool.and_self]⟩
instance {f : α → D} {g : β → D} {h : γ → D} [Ec f] [Ec g] [Ec h] : Ec (e3 f g h) := ⟨fun x => by simp only [e3, pers, persL, Ec.p, Bool.and_self]⟩
instance {f : α → D} {g : β → D} {h : γ → D} {i : δ → D} [Ec f] [Ec g] [Ec h] [Ec i] : Ec (e4 f g h i) := ⟨fun x => by simp only [e4, pers, persL, Ec.p, Bool.and_self]⟩
instance {f : α → D} {g : β → D} {h : γ → D} {i : δ → D} {j : ε → D} [Ec f] [Ec g] [Ec h] [Ec i] [Ec j] : Ec (e5 f g h i j) := ⟨fun x => by simp only [e5, pers, persL, Ec.p, Bool.and_self]⟩
theorem persK_map {f : κ → D} {g : β → D} (h : ∀ a, pers (f a) = true) (h2 : ∀ a, pers (g a) = true) : ∀ xs : List (κ × β), persK (xs.map fun p => (f p.1, g p.2)) = true
  | [] => rfl
  | a :: xs => by simp only [List.map_cons, persK, h, h2, persK_map h h2 xs, Bool.and_self]
instance {f : κ → D} {g : β → D} [Ec f] [Ec g] : Ec (eDi false f g) := ⟨fun xs => by simp only [eDi, pers, persK_map Ec.p Ec.p, Bool.not_false, Bool.and_self]⟩
mutual
theorem frz_p : ∀ {d : D}, pers d = true → frz d = d
  | .non, _ => rfl
  | .bl _, _ => rfl
  | .int _, _ => rfl
  | .str _, _ => rfl
  | .scr _, _ => rfl
  | .tup ds, h => by simp only [pers] at h; simp only [frz, frzL_p h]
  | .lst o ds, h => by simp only [pers, Bool.and_eq_true, Bool.not_eq_true'] at h; simp only [frz, frzL_p h.2, h.1]
  | .dct o ks, h => by simp only [pers, Bool.and_eq_true, Bool.not_eq_true'] at h; simp only [frz, frzK_p h.2, h.1]
  | .ins o c fs, h => by simp only [pers, Bool.and_eq_true, Bool.not_eq_true'] at h; simp only [frz, frzF_p h.2, h.1]
theorem frzL_p : ∀ {ds : List D}, persL ds = true → frzL ds = ds
  | [], _ => rfl
  | d :: ds, h => by simp only [persL, Bool.and_eq_true] at h; simp only [frzL, frz_p h.1, frzL_p h.2]
theorem frzK_p : ∀ {ks : List (D × D)}, persK ks = true → frzK ks = ks
  | [], _ => rfl
  | (k, d) :: ks, h => by simp only [persK, Bool.and_eq_true] at h; simp only [frzK, frz_p h.1.2, frzK_p h.2]
theorem frzF_p : ∀ {fs : List (Nat × D)}, persF fs = true → frzF fs = fs
  | [], _ => rfl
  | (k, d) :: fs, h => by simp only [persF, Bool.and_eq_true] at h; simp only [frzF, frz_p h.1, frzF_p h.2]
end
mutual
theorem noD_p : ∀ {d : D}, pers d = true → noD d = true
  | .non, _ => rfl
  | .bl _, _ => rfl
  | .int _, _ => rfl
  | .str _, _ => rfl
  | .scr _, _ => rfl
  | .tup ds, h => by simp only [pers] at h; simp only [noD, noDL_p h]
  | .lst o ds, h => by simp only [pers, Bool.and_eq_true, Bool.not_eq_true'] at h; simp only [noD, noDL_p h.2]
  | .dct o ks, h => by simp only [pers, Bool.and_eq_true, Bool.not_eq_true'] at h; simp only [noD, noDK_p h.2, h.1, Bool.not_false, Bool.and_self]
  | .ins o c fs, h => by simp only [pers, Bool.and_eq_true, Bool.not_eq_true'] at h; simp only [noD, noDF_p h.2]
theorem noDL_p : ∀ {ds : List D}, persL ds = true → noDL ds = true
  | [], _ => rfl
  | d :: ds, h => by simp only [persL, Bool.and_eq_true] at h; simp only [noDL, noD_p h.1, noDL_p h.2, Bool.and_self]
theorem noDK_p : ∀ {ks : List (D × D)}, persK ks = true → noDK ks = true
  | [], _ => rfl
  | (k, d) :: ks, h => by simp only [persK, Bool.and_eq_true] at h; simp only [noDK, noD_p h.1.2, noDK_p h.2, Bool.and_self]
theorem noDF_p : ∀ {fs : List (Nat × D)}, persF fs = true → noDF fs = true
  | [], _ => rfl
  | (k, d) :: fs, h => by simp only [persF, Bool.and_eq_true] at h; simp only [noDF, noD_p h.1, noDF_p h.2, Bool.and_self]
end
/-- frozen -/
class Fz (f : α → D) (f' : outParam (α → D)) : Prop where
  z : ∀ a, frz (f a) = f' a
  n : ∀ a, noD (f a) = true
instance {f : α → D} [Ec f] : Fz f f := ⟨fun a => frz_p (Ec.p a), fun a => noD_p (Ec.p a)⟩
instance {f : α → D} [Ec f] : Fz (eL true f) (eL false f) := ⟨fun a => by simp only [eL, frz, frzL_p (persL_map Ec.p a)], fun a => by simp only [eL, noD, noDL_p (persL_map Ec.p a)]⟩
theorem noDL_map {f f' : α → D} [Fz f f'] : ∀ xs : List α, noDL (xs.map f) = true
  | [] => rfl
  | a :: xs => by simp only [List.map_cons, noDL, Fz.n a, noDL_map xs, Bool.and_self]
/-! equality -/
class Eqv (f : α → D) [DecidableEq α] : Prop where
  e : ∀ a b, eqv (f a) (f b) = decide (a = b)
instance : Eqv eI := ⟨fun a b => by by_cases h : a = b <;> simp [eI, eqv, h]⟩
instance : Eqv eB := ⟨fun a b => by cases a <;> cases b <;> rfl⟩
instance : Eqv eN := ⟨fun a b => by simp [eN, eqv]⟩
theorem toNat_inj {a b : Char} (h : a.toNat = b.toNat) : a = b := Char.ext (UInt32.toNat.inj h)
theorem str_inj : ∀ {a b : List Char}, a.map Char.toNat = b.map Char.toNat → a = b
  | [], [], _ => rfl
  | [], _ :: _, h => by simp at h
  | _ :: _, [], h => by simp at h
  | a :: x, b :: y, h => by
    simp only [List.map_cons, List.cons.injEq] at h
    rw [toNat_inj h.1, str_inj h.2]
instance : Eqv eS := ⟨fun a b => by
  simp only [eS, eqv]
  by_cases h : a = b
  · subst h; simp
  · have z : ¬ a.map Char.toNat = b.map Char.toNat := fun z => h (str_inj z)
    rw [decide_eq_false h]; exact beq_eq_false_iff_ne.mpr z⟩
theorem eqvL_map [DecidableEq α] {f : α → D} (h : ∀ a b, eqv (f a) (f b) = decide (a = b)) : ∀ xs ys : List α, eqvL (xs.map f) (ys.map f) = decide (xs = ys)
  | [], [] => rfl
  | [], _ :: _ => by simp [eqvL]
  | _ :: _, [] => by simp [eqvL]
  | a :: x, b :: y => by simp [eqvL, h, eqvL_map h x y, Bool.decide_and]
instance [DecidableEq α] {f : α → D} [Eqv f] : Eqv (eT f) := ⟨fun a b => by simp only [eT, eqv, eqvL_map Eqv.e]⟩
instance [DecidableEq α] {f : α → D} {o : Bool} [Eqv f] : Eqv (eL o f) := ⟨fun a b => by simp only [eL, eqv, eqvL_map Eqv.e]⟩
instance [DecidableEq α] [DecidableEq β] {f : α → D} {g : β → D} [Eqv f] [Eqv g] : Eqv (e2 f g) := ⟨fun a b => by
  obtain ⟨a1, a2⟩ := a; obtain ⟨b1, b2⟩ := b
  simp [e2, eqv, eqvL, Eqv.e, Bool.decide_and]⟩
instance [DecidableEq α] [DecidableEq β] [DecidableEq γ] {f : α → D} {g : β → D} {h : γ → D} [Eqv f] [Eqv g] [Eqv h] : Eqv (e3 f g h) := ⟨fun a b => by
  obtain ⟨a1, a2, a3⟩ := a; obtain ⟨b1, b2, b3⟩ := b
  simp [e3, eqv, eqvL, Eqv.e, Bool.decide_and]⟩
instance [DecidableEq α] [DecidableEq β] [DecidableEq γ] [DecidableEq δ] {f : α → D} {g : β → D} {h : γ → D} {i : δ → D} [Eqv f] [Eqv g] [Eqv h] [Eqv i] : Eqv (e4 f g h i) := ⟨fun a b => by
  obtain ⟨a1, a2, a3, a4⟩ := a; obtain ⟨b1, b2, b3, b4⟩ := b
  simp [e4, eqv, eqvL, Eqv.e, Bool.decide_and]⟩
instance [DecidableEq α] [DecidableEq β] [DecidableEq γ] [DecidableEq δ] [DecidableEq ε] {f : α → D} {g : β → D} {h : γ → D} {i : δ → D} {j : ε → D} [Eqv f] [Eqv g] [Eqv h] [Eqv i] [Eqv j] : Eqv (e5 f g h i j) := ⟨fun a b => by
  obtain ⟨a1, a2, a3, a4, a5⟩ := a; obtain ⟨b1, b2, b3, b4, b5⟩ := b
  simp [e5, eqv, eqvL, Eqv.e, Bool.decide_and]⟩
/-- it is not None -/
class Nn (f : α → D) : Prop where
  n : ∀ a, isNon (f a) = false
instance : Nn eI := ⟨fun _ => rfl⟩
instance : Nn eB := ⟨fun _ => rfl⟩
instance : Nn eS := ⟨fun _ => rfl⟩
instance {f : α → D} : Nn (eT f) := ⟨fun _ => rfl⟩
instance {f : α → D} {o : Bool} : Nn (eL o f) := ⟨fun _ => rfl⟩
instance {f : α → D} {g : β → D} {o : Bool} : Nn (eDi o f g) := ⟨fun _ => rfl⟩
instance {f : α → D} {g : β → D} : Nn (e2 f g) := ⟨fun _ => rfl⟩
instance {f : α → D} {g : β → D} {h : γ → D} : Nn (e3 f g h) := ⟨fun _ => rfl⟩
instance {f : α → D} {g : β → D} {h : γ → D} {i : δ → D} : Nn (e4 f g h i) := ⟨fun _ => rfl⟩
instance {f : α → D} {g : β → D} {h : γ → D} {i : δ → D} {j : ε → D} : Nn (e5 f g h i j) := ⟨fun _ => rfl⟩
theorem eqv_non_r : ∀ {d : D}, isNon d = false → eqv d .non = false := fun {d} h => by cases d <;> first | rfl | exact absurd h (by simp [isNon])
theorem eqv_non_l : ∀ {d : D}, isNon d = false → eqv .non d = false := fun {d} h => by cases d <;> first | rfl | exact absurd h (by simp [isNon])
instance [DecidableEq α] {f : α → D} [Eqv f] [Nn f] : Eqv (eO f) := ⟨fun a b => by
  cases a with
  | none => cases b with
    | none => rfl
    | some b => simp [eO, eqv_non_l (Nn.n (f := f) b)]
  | some a => cases b with
    | none => simp [eO, eqv_non_r (Nn.n (f := f) a)]
    | some b => simp [eO, Eqv.e]⟩
/-- no dict within, n deep -/
class Fln (f : α → D) (n : outParam Nat) : Prop where
  l : ∀ a m, n ≤ m → flatN (f a) m = true
instance : Fln eI 0 := ⟨fun _ _ _ => by simp only [eI, flatN]⟩
instance : Fln eB 0 := ⟨fun _ _ _ => by simp only [eB, flatN]⟩
instance : Fln eN 0 := ⟨fun _ _ _ => by simp only [eN, flatN]⟩
theorem char_lt (c : Char) : c.toNat < 1114112 := by
  have := c.valid
  simp only [UInt32.isValidChar, Nat.isValidChar] at this
  show c.val.toNat < 1114112
  omega
instance : Fln eS 0 := ⟨fun s _ _ => by simp [eS, flatN, char_lt]⟩
theorem flatNL_map {f : α → D} {m : Nat} (h : ∀ a, flatN (f a) m = true) : ∀ xs : List α, flatNL (xs.map f) m = true
  | [] => rfl
  | a :: xs => by simp only [List.map_cons, flatNL, h, flatNL_map h xs, Bool.and_self]
instance {f : α → D} {n : Nat} [Fln f n] : Fln (eT f) (n + 1) := ⟨fun xs m h => by
  cases m with
  | zero => omega
  | succ m => simp only [eT, flatN, flatNL_map fun a => Fln.l (f := f) a m (by omega)]⟩
instance {f : α → D} {n : Nat} {o : Bool} [Fln f n] : Fln (eL o f) (n + 1) := ⟨fun xs m h => by
  cases m with
  | zero => omega
  | succ m => simp only [eL, flatN, flatNL_map fun a => Fln.l (f := f) a m (by omega)]⟩
instance {f : α → D} {n : Nat} [Fln f n] : Fln (eO f) n := ⟨fun x m h => by
  cases x with
  | none => simp only [eO, flatN]
  | some a => exact Fln.l (f := f) a m h⟩
instance {f : α → D} {g : β → D} {n k : Nat} [Fln f n] [Fln g k] : Fln (e2 f g) (max n k + 1) := ⟨fun x m h => by
  cases m with
  | zero => omega
  | succ m => simp only [e2, flatN, flatNL, Fln.l (f := f) x.1 m (by omega), Fln.l (f := g) x.2 m (by omega), Bool.and_self]⟩
instance {f : α → D} {g : β → D} {h : γ → D} {n k l : Nat} [Fln f n] [Fln g k] [Fln h l] : Fln (e3 f g h) (max n (max k l) + 1) := ⟨fun x m hm => by
  cases m with
  | zero => omega
  | succ m => simp only [e3, flatN, flatNL, Fln.l (f := f) x.a m (by omega), Fln.l (f := g) x.b m (by omega), Fln.l (f := h) x.c m (by omega), Bool.and_self]⟩
instance {f : α → D} {g : β → D} {h : γ → D} {i : δ → D} {n k l p : Nat} [Fln f n] [Fln g k] [Fln h l] [Fln i p] : Fln (e4 f g h i) (max n (max k (max l p)) + 1) := ⟨fun x m hm => by
  cases m with
  | zero => omega
  | succ m => simp only [e4, flatN, flatNL, Fln.l (f := f) x.a m (by omega), Fln.l (f := g) x.b m (by omega), Fln.l (f := h) x.c m (by omega), Fln.l (f := i) x.d m (by omega), Bool.and_self]⟩
instance {f : α → D} {g : β → D} {h : γ → D} {i : δ → D} {j : ε → D} {n k l p q : Nat} [Fln f n] [Fln g k] [Fln h l] [Fln i p] [Fln j q] : Fln (e5 f g h i j) (max n (max k (max l (max p q))) + 1) := ⟨fun x m hm => by
  cases m with
  | zero => omega
  | succ m => simp only [e5, flatN, flatNL, Fln.l (f := f) x.a m (by omega), Fln.l (f := g) x.b m (by omega), Fln.l (f := h) x.c m (by omega), Fln.l (f := i) x.d m (by omega), Fln.l (f := j) x.e m (by omega), Bool.and_self]⟩
/-- sequences -/
class Sq (c : List α → D) (f : outParam (α → D)) : Prop where
  s : (∀ xs, c xs = .tup (xs.map f)) ∨ ∃ o, ∀ xs, c xs = .lst o (xs.map f)
instance {f : α → D} : Sq (eT f) f := ⟨.inl fun _ => rfl⟩
instance {f : α → D} {o : Bool} : Sq (eL o f) f := ⟨.inr ⟨o, fun _ => rfl⟩⟩
/-- keys -/
class Ky (f : α → D) : Prop where
  k : (∀ a, isK (f a) = true) ∨ ∀ a, isTK (f a) = true
class Ky1 (f : α → D) : Prop where
  k : ∀ a, isK (f a) = true
instance : Ky1 eI := ⟨fun _ => rfl⟩
instance : Ky1 eS := ⟨fun _ => rfl⟩
instance {f : α → D} [Ky1 f] : Ky f := ⟨.inl Ky1.k⟩
instance {f : α → D} [Ky1 f] : Ky (eT f) := ⟨.inr fun xs => by simp [eT, isTK, Ky1.k]⟩
instance {f : α → D} {g : β → D} [Ky1 f] [Ky1 g] : Ky (e2 f g) := ⟨.inr fun xs => by simp [e2, isTK, Ky1.k]⟩
instance {f : α → D} {g : β → D} {h : γ → D} [Ky1 f] [Ky1 g] [Ky1 h] : Ky (e3 f g h) := ⟨.inr fun xs => by simp [e3, isTK, Ky1.k]⟩
instance {f : α → D} {g : β → D} {h : γ → D} {i : δ → D} [Ky1 f] [Ky1 g] [Ky1 h] [Ky1 i] : Ky (e4 f g h i) := ⟨.inr fun xs => by simp [e4, isTK, Ky1.k]⟩
/-! ### dicts -/
def dget [DecidableEq κ] : List (κ × β) → κ → Option β
  | [], _ => none
  | (k, v) :: r, x => if k = x then some v else dget r x
def dput [DecidableEq κ] : List (κ × β) → κ → β → List (κ × β)
  | [], x, d => [(x, d)]
  | (k, v) :: r, x, d => if k = x then (k, d) :: r else (k, v) :: dput r x d
theorem kFit_map {f : κ → D} {g : β → D} [Ky f] (ks : List (κ × β)) (k : κ) : kFit (ks.map fun p => (f p.1, g p.2)) (f k) = true := by
  rcases Ky.k (f := f) with h | h <;> simp [kFit, h]
theorem look_map [DecidableEq κ] {f : κ → D} {g : β → D} [Eqv f] : ∀ (ks : List (κ × β)) (k : κ), look (ks.map fun p => (f p.1, g p.2)) (f k) = (dget ks k).map g
  | [], _ => rfl
  | (a, b) :: r, k => by
    simp only [List.map_cons, look, Eqv.e, dget, decide_eq_true_eq, look_map r k]
    split <;> rfl
theorem put_map [DecidableEq κ] {f : κ → D} {g : β → D} [Eqv f] : ∀ (ks : List (κ × β)) (k : κ) (v : β), put (ks.map fun p => (f p.1, g p.2)) (f k) (g v) = (dput ks k v).map fun p => (f p.1, g p.2)
  | [], _, _ => rfl
  | (a, b) :: r, k, v => by
    simp only [List.map_cons, put, Eqv.e, dput, decide_eq_true_eq, put_map r k v]
    split <;> rfl
/-! ### frames -/
def sl : Option D → Sl
  | none => .no
  | some d => .ow d
end
end SH

set_option autoImplicit false
set_option linter.all false
set_option maxRecDepth 100000
namespace SH
open LP PB
section
variable {α β γ δ ε κ : Type} {C : Cll} {ρ : Env}
/-- in ρ the term e gives what m is, ρ stays -/
def EvK (C : Cll) (ρ : Env) (e : E) (m : Option α) (f : α → D) (k : Kd) : Prop := ∀ v, m = some v → ev C e ρ = some ⟨f v, k, ρ⟩
theorem lock_val : lock .val ρ = ρ := rfl
theorem unlock_val {ρ' : Env} : unlock .val ρ ρ' = ρ' := rfl
theorem k_var {i : Nat} {f : α → D} {v : α} [Ec f] (h : slotD ρ i = some (f v)) : EvK C ρ (.var i) (some v) f .val := fun u hu => by
  cases hu; simp only [ev, rd, h, Ec.p, if_true]
theorem k_vw {i : Nat} {f : α → D} {v : α} (h : slotD ρ i = some (f v)) (hp : pers (f v) = false) : EvK C ρ (.var i) (some v) f (.vw i []) := fun u hu => by
  cases hu; simp only [ev, rd, h, hp]; rfl
theorem k_cst {d : D} (f : α → D) (v : α) (h : f v = d) : EvK C ρ (.cst d) (some v) f .val := fun u hu => by
  cases hu; simp only [ev, h]
theorem k_cast {e : E} {m : Option α} {f : α → D} {k : Kd} {g : β → D} {h : α → β} (x : EvK C ρ e m f k) (c : ∀ a, f a = g (h a)) : EvK C ρ e (m.bind fun a => some (h a)) g k := fun v hv => by
  cases m with
  | none => cases hv
  | some a => cases hv; rw [x a rfl, c]
/-- binary operations -/
def OpB (op : Bop) (f : α → D) (g : β → D) (r : α → β → Option γ) (h : γ → D) : Prop := ∀ u v w, r u v = some w → bop op (f u) (g v) = some (h w)
theorem k_bin {op : Bop} {a b : E} {x : Option α} {y : Option β} {f : α → D} {g : β → D} {h : γ → D} {k k2 : Kd} {r : α → β → Option γ} (ha : EvK C ρ a x f k) (hb : EvK C (lock k ρ) b y g k2) (ho : OpB op f g r h) :
    EvK C ρ (.bin op a b) (x.bind fun u => y.bind fun v => r u v) h .val := fun w hw => by
  cases x with
  | none => cases hw
  | some u => cases y with
    | none => cases hw
    | some v => simp only [ev, ha u rfl, hb v rfl, ho u v w hw, unlock_lock]
@[irreducible] noncomputable def mulG (i j : Int) : Option Int := @ite _ ((-w64 < j ∧ j < w64) ∨ (-w64 < i ∧ i < w64)) (Classical.propDecidable _) (some (i * j)) none
@[irreducible] noncomputable def modG (i j : Int) : Option Int := @ite _ (0 < j) (Classical.propDecidable _) (some (i % j)) none
@[irreducible] noncomputable def divG (i j : Int) : Option Int := @ite _ (0 < j ∧ j < 1073741824) (Classical.propDecidable _) (some (i / j)) none
@[irreducible] noncomputable def powG (i j : Int) : Option Int := @ite _ (0 ≤ j ∧ j ≤ 1000 ∧ (-w64 < i ∧ i < w64)) (Classical.propDecidable _) (some (i ^ j.toNat)) none
@[irreducible] noncomputable def shlG (i j : Int) : Option Int := @ite _ (0 ≤ j ∧ j ≤ 1000 ∧ (-w64 < i ∧ i < w64)) (Classical.propDecidable _) (some (i * 2 ^ j.toNat)) none
@[irreducible] noncomputable def shrG (i j : Int) : Option Int := @ite _ (0 ≤ j) (Classical.propDecidable _) (some (i / 2 ^ j.toNat)) none
/-- a list that is not too long -/
@[irreducible] noncomputable def lmG (xs : List α) : Option (List α) := @ite _ (xs.length < lim) (Classical.propDecidable _) (some xs) none
theorem o_add : OpB .add eI eI (fun i j => some (i + j)) eI := fun u v w h => by cases h; rfl
theorem o_sub : OpB .sub eI eI (fun i j => some (i - j)) eI := fun u v w h => by cases h; rfl
theorem o_mul : OpB .mul eI eI mulG eI := fun u v w h => by
  unfold mulG at h
  split at h
  · rename_i hc; cases h; simp only [eI, bop]; rw [if_pos hc.symm]
  · cases h
theorem o_mod : OpB .mod eI eI modG eI := fun u v w h => by
  unfold modG at h
  split at h
  · rename_i hc; cases h; simp only [eI, bop]; rw [if_pos hc]
  · cases h
theorem o_div : OpB .div eI eI divG eI := fun u v w h => by
  unfold divG at h
  split at h
  · rename_i hc; cases h; simp only [eI, bop]; rw [if_pos hc]
  · cases h
theorem o_pow : OpB .pow eI eI powG eI := fun u v w h => by
  unfold powG at h
  split at h
  · rename_i hc; cases h; simp only [eI, bop]; rw [if_pos hc]
  · cases h
theorem o_shl : OpB .shl eI eI shlG eI := fun u v w h => by
  unfold shlG at h
  split at h
  · rename_i hc; cases h; simp only [eI, bop]; rw [if_pos hc]
  · cases h
theorem o_shr : OpB .shr eI eI shrG eI := fun u v w h => by
  unfold shrG at h
  split at h
  · rename_i hc; cases h; simp only [eI, bop]; rw [if_pos hc]
  · cases h
theorem lmG_some {xs w : List α} (h : lmG xs = some w) : xs.length < lim ∧ w = xs := by
  unfold lmG at h
  split at h
  · rename_i hc; cases h; exact ⟨hc, rfl⟩
  · cases h
theorem o_addS : OpB .add eS eS (fun i j => lmG (i ++ j)) eS := fun u v w h => by
  obtain ⟨hl, rfl⟩ := lmG_some h
  simp only [eS, bop, mkS, ← List.map_append, List.length_map, hl, if_true]
theorem o_addT {f : α → D} : OpB .add (eT f) (eT f) (fun i j => lmG (i ++ j)) (eT f) := fun u v w h => by
  obtain ⟨hl, rfl⟩ := lmG_some h
  simp only [eT, bop, mkT, ← List.map_append, List.length_map, hl, if_true]
theorem o_addL {f : α → D} {o o2 : Bool} [Ec f] : OpB .add (eL o f) (eL o2 f) (fun i j => lmG (i ++ j)) (eL true f) := fun u v w h => by
  obtain ⟨hl, rfl⟩ := lmG_some h
  simp only [eL, bop, mkL, ← List.map_append, List.length_map, hl, if_true, persL_map Ec.p, Bool.and_self]
@[irreducible] noncomputable def repG (xs : List α) (j : Int) : Option (List α) := @ite _ (-9223372036854775808 ≤ j ∧ j < 9223372036854775808) (Classical.propDecidable _) (lmG (List.replicate j.toNat xs).flatten) none
theorem rep_map {f : α → D} (xs : List α) (n : Nat) : repD (xs.map f) n = ((List.replicate n xs).flatten).map f := by
  unfold repD
  rw [List.map_flatten, List.map_replicate]
theorem o_mulL {f : α → D} {o : Bool} [Ec f] : OpB .mul (eL o f) eI repG (eL true f) := fun u v w h => by
  unfold repG at h
  split at h
  · rename_i hc
    obtain ⟨hl, rfl⟩ := lmG_some h
    simp only [eL, eI, bop, persL_map Ec.p, hc, and_self, if_true, rep_map, mkL, List.length_map, hl]
  · cases h
theorem k_mulR {a : E} {c : Int} {x : Option Int} {k : Kd} (ha : EvK C ρ a x eI k) (hc : -w64 < c ∧ c < w64 := by decide) : EvK C ρ (.bin .mul a (.cst (.int c))) (x.bind fun u => some (u * c)) eI .val := fun w hw => by
  cases x with
  | none => cases hw
  | some u => cases hw; simp only [ev, ha u rfl, unlock_lock, eI, bop, hc, or_true, and_self, if_true]
theorem k_mulL {a : E} {c : Int} {x : Option Int} {k : Kd} (ha : EvK C ρ a x eI k) (hc : -w64 < c ∧ c < w64 := by decide) : EvK C ρ (.bin .mul (.cst (.int c)) a) (x.bind fun u => some (c * u)) eI .val := fun w hw => by
  cases x with
  | none => cases hw
  | some u => cases hw; simp only [ev, lock_val, ha u rfl, unlock_val, eI, bop, hc, true_or, and_self, if_true]
theorem k_modR {a : E} {c : Int} {x : Option Int} {k : Kd} (ha : EvK C ρ a x eI k) (hc : 0 < c := by decide) : EvK C ρ (.bin .mod a (.cst (.int c))) (x.bind fun u => some (u % c)) eI .val := fun w hw => by
  cases x with
  | none => cases hw
  | some u => cases hw; simp only [ev, ha u rfl, unlock_lock, eI, bop, hc, if_true]
theorem k_divR {a : E} {c : Int} {x : Option Int} {k : Kd} (ha : EvK C ρ a x eI k) (hc : 0 < c ∧ c < 1073741824 := by decide) : EvK C ρ (.bin .div a (.cst (.int c))) (x.bind fun u => some (u / c)) eI .val := fun w hw => by
  cases x with
  | none => cases hw
  | some u => cases hw; simp only [ev, ha u rfl, unlock_lock, eI, bop, hc, and_self, if_true]
theorem k_powC {b c : Int} (d : Int) (h : bop .pow (.int b) (.int c) = some (.int d)) : EvK C ρ (.bin .pow (.cst (.int b)) (.cst (.int c))) (some d) eI .val := fun w hw => by
  cases hw; simp only [ev, lock_val, h, unlock_val, eI]
theorem k_neg {a : E} {x : Option Int} {k : Kd} (ha : EvK C ρ a x eI k) : EvK C ρ (.neg a) (x.bind fun u => some (-u)) eI .val := fun w hw => by
  cases x with
  | none => cases hw
  | some u => cases hw; simp only [ev, ha u rfl, eI]
/-- comparisons -/
def OpC (op : Cop) (f : α → D) (g : β → D) (r : α → β → Bool) : Prop := ∀ u v, cop op (f u) (g v) = some (r u v)
theorem k_cmp {op : Cop} {a b : E} {x : Option α} {y : Option β} {f : α → D} {g : β → D} {k k2 : Kd} {r : α → β → Bool} (ha : EvK C ρ a x f k) (hb : EvK C (lock k ρ) b y g k2) (ho : OpC op f g r) :
    EvK C ρ (.cmp op a b) (x.bind fun u => y.bind fun v => some (r u v)) eB .val := fun w hw => by
  cases x with
  | none => cases hw
  | some u => cases y with
    | none => cases hw
    | some v => cases hw; simp only [ev, ha u rfl, hb v rfl, ho u v, unlock_lock]; rfl
theorem k_cmp2 {op1 op2 : Cop} {a b c : E} {x : Option α} {y : Option β} {z : Option γ} {f : α → D} {g : β → D} {h : γ → D} {k k3 : Kd} {r : α → β → Bool} {s : β → γ → Bool} (ha : EvK C ρ a x f k) (hb : EvK C (lock k ρ) b y g .val) (hc : EvK C ρ c z h k3) (ho : OpC op1 f g r) (ho2 : OpC op2 g h s) :
    EvK C ρ (.cmp2 op1 op2 a b c) (x.bind fun u => y.bind fun v => if r u v then z.bind fun w => some (s v w) else some false) eB .val := fun w hw => by
  cases x with
  | none => cases hw
  | some u => cases y with
    | none => cases hw
    | some v =>
      simp only [Option.bind_some] at hw
      simp only [ev, ha u rfl, hb v rfl, ho u v, unlock_lock]
      cases hr : r u v with
      | false => rw [hr] at hw; cases hw; rfl
      | true =>
        rw [hr] at hw
        cases z with
        | none => cases hw
        | some t => cases hw; simp only [hc t rfl, ho2 v t]; rfl
theorem k_cmp2P {op1 op2 : Cop} {a b c : E} {u : α} {v : β} {t : γ} {f : α → D} {g : β → D} {h : γ → D} {k k3 : Kd} {r : α → β → Bool} {s : β → γ → Bool} (ha : EvK C ρ a (some u) f k) (hb : EvK C (lock k ρ) b (some v) g .val) (hc : EvK C ρ c (some t) h k3) (ho : OpC op1 f g r) (ho2 : OpC op2 g h s) :
    EvK C ρ (.cmp2 op1 op2 a b c) (some (r u v && s v t)) eB .val := fun w hw => k_cmp2 ha hb hc ho ho2 w (by
      cases hw
      show (if r u v then some (s v t) else some false) = _
      cases r u v <;> rfl)
theorem c_eq [DecidableEq α] {f : α → D} {n : Nat} [Eqv f] [Fln f n] (hn : n ≤ 64 := by decide) : OpC .eq f f (fun u v => decide (u = v)) := fun u v => by
  simp only [cop, flat, Fln.l (f := f) _ 64 hn, Bool.and_self, if_true, Eqv.e]
theorem c_ne [DecidableEq α] {f : α → D} {n : Nat} [Eqv f] [Fln f n] (hn : n ≤ 64 := by decide) : OpC .ne f f (fun u v => decide (u ≠ v)) := fun u v => by
  simp only [cop, flat, Fln.l (f := f) _ 64 hn, Bool.and_self, if_true, Eqv.e, decide_not]
theorem c_eqL [DecidableEq α] {f : α → D} {n : Nat} {o o2 : Bool} [Eqv f] [Fln f n] (hn : n ≤ 63 := by decide) : OpC .eq (eL o f) (eL o2 f) (fun u v => decide (u = v)) := fun u v => by
  have h1 := Fln.l (f := eL o f) u 64 (by omega)
  have h2 := Fln.l (f := eL o2 f) v 64 (by omega)
  simp only [cop, flat, h1, h2, Bool.and_self, if_true]
  simp only [eL, eqv, eqvL_map Eqv.e]
theorem c_neL [DecidableEq α] {f : α → D} {n : Nat} {o o2 : Bool} [Eqv f] [Fln f n] (hn : n ≤ 63 := by decide) : OpC .ne (eL o f) (eL o2 f) (fun u v => decide (u ≠ v)) := fun u v => by
  have h1 := Fln.l (f := eL o f) u 64 (by omega)
  have h2 := Fln.l (f := eL o2 f) v 64 (by omega)
  simp only [cop, flat, h1, h2, Bool.and_self, if_true]
  simp only [eL, eqv, eqvL_map Eqv.e, decide_not]
theorem c_eqO [DecidableEq α] {f : α → D} {n : Nat} [Eqv f] [Nn f] [Fln f n] (hn : n ≤ 64 := by decide) : OpC .eq (eO f) f (fun u v => decide (u = some v)) := fun u v => c_eq (f := eO f) (n := n) hn u (some v)
theorem c_neO [DecidableEq α] {f : α → D} {n : Nat} [Eqv f] [Nn f] [Fln f n] (hn : n ≤ 64 := by decide) : OpC .ne (eO f) f (fun u v => decide (u ≠ some v)) := fun u v => c_ne (f := eO f) (n := n) hn u (some v)
theorem c_eqO2 [DecidableEq α] {f : α → D} {n : Nat} [Eqv f] [Nn f] [Fln f n] (hn : n ≤ 64 := by decide) : OpC .eq f (eO f) (fun u v => decide (some u = v)) := fun u v => c_eq (f := eO f) (n := n) hn (some u) v
theorem c_neO2 [DecidableEq α] {f : α → D} {n : Nat} [Eqv f] [Nn f] [Fln f n] (hn : n ≤ 64 := by decide) : OpC .ne f (eO f) (fun u v => decide (some u ≠ v)) := fun u v => c_ne (f := eO f) (n := n) hn (some u) v
theorem c_is {f : α → D} [Nn f] : OpC .is (eO f) eN (fun u _ => u.isNone) := fun u v => by
  cases u with
  | none => rfl
  | some a => simp only [eO, eN, cop, isD, Nn.n, Option.isNone]
theorem c_isn {f : α → D} [Nn f] : OpC .isn (eO f) eN (fun u _ => u.isSome) := fun u v => by
  cases u with
  | none => rfl
  | some a => simp only [eO, eN, cop, isD, Nn.n, Option.isSome]; rfl
theorem c_isF {f : α → D} [Nn f] : OpC .is f eN (fun _ _ => false) := fun u v => by simp only [eN, cop, isD, Nn.n]
theorem c_isnT {f : α → D} [Nn f] : OpC .isn f eN (fun _ _ => true) := fun u v => by simp only [eN, cop, isD, Nn.n]; rfl
theorem alkI (i j : Int) : cmpOk (.int i) (.int j) = true := rfl
theorem c_lt : OpC .lt eI eI (fun u v => decide (u < v)) := fun u v => by simp only [eI, cop, alkI, if_true, ltB]
theorem c_gt : OpC .gt eI eI (fun u v => decide (v < u)) := fun u v => by simp only [eI, cop, alkI, if_true, ltB]
theorem c_le : OpC .le eI eI (fun u v => decide (u ≤ v)) := fun u v => by
  simp only [eI, cop, alkI, if_true, ltB, Option.some.injEq]
  by_cases h : u ≤ v
  · simp [h]
  · simp [h]; omega
theorem c_ge : OpC .ge eI eI (fun u v => decide (v ≤ u)) := fun u v => by
  simp only [eI, cop, alkI, if_true, ltB, Option.some.injEq]
  by_cases h : v ≤ u
  · simp [h]
  · simp [h]; omega
theorem memV_map [DecidableEq α] {f : α → D} [Eqv f] (x : α) : ∀ xs : List α, memV (f x) (xs.map f) = decide (x ∈ xs)
  | [] => by simp [memV]
  | a :: xs => by
    simp only [List.map_cons, memV, Eqv.e, memV_map x xs, List.mem_cons]
    by_cases h : a = x
    · subst h; simp
    · have : ¬ x = a := fun z => h z.symm
      simp [h, this]
theorem c_inS [DecidableEq α] {c : List α → D} {f : α → D} {n : Nat} [Sq c f] [Eqv f] [Fln f n] (hn : n ≤ 63 := by decide) : OpC .in_ f c (fun u v => decide (u ∈ v)) := fun u v => by
  have h1 := Fln.l (f := f) u 64 (by omega)
  have h2 := flatNL_map (f := f) (m := 63) (fun a => Fln.l a 63 hn) v
  rcases Sq.s (c := c) (f := f) with h | ⟨o, h⟩ <;> rw [h] <;> simp only [cop, flat, flatL, h1, h2, Bool.and_self, if_true, memV_map]
theorem c_ninS [DecidableEq α] {c : List α → D} {f : α → D} {n : Nat} [Sq c f] [Eqv f] [Fln f n] (hn : n ≤ 63 := by decide) : OpC .nin f c (fun u v => decide (u ∉ v)) := fun u v => by
  have h1 := Fln.l (f := f) u 64 (by omega)
  have h2 := flatNL_map (f := f) (m := 63) (fun a => Fln.l a 63 hn) v
  rcases Sq.s (c := c) (f := f) with h | ⟨o, h⟩ <;> rw [h] <;> simp only [cop, flat, flatL, h1, h2, Bool.and_self, if_true, memV_map, decide_not]
/-- an option among those that are there -/
def optIn [DecidableEq α] : Option α → List α → Bool
  | none, _ => false
  | some a, v => decide (a ∈ v)
theorem memV_non {f : α → D} [Nn f] : ∀ xs : List α, memV .non (xs.map f) = false
  | [] => rfl
  | a :: xs => by simp only [List.map_cons, memV, eqv_non_r (Nn.n (f := f) a), memV_non xs, Bool.or_self]
theorem c_inO [DecidableEq α] {f : α → D} {n : Nat} [Eqv f] [Nn f] [Fln f n] (hn : n ≤ 63 := by decide) : OpC .in_ (eO f) (eT f) (fun u v => optIn u v) := fun u v => by
  cases u with
  | some a => exact c_inS (c := eT f) hn a v
  | none =>
    have h2 := flatNL_map (f := f) (m := 63) (fun a => Fln.l a 63 hn) v
    simp only [eO, eT, cop, flatL, h2, flat, flatN, Bool.and_self, if_true, memV_non, optIn]
theorem c_ninO [DecidableEq α] {f : α → D} {n : Nat} [Eqv f] [Nn f] [Fln f n] (hn : n ≤ 63 := by decide) : OpC .nin (eO f) (eT f) (fun u v => !optIn u v) := fun u v => by
  cases u with
  | some a =>
    have := c_ninS (c := eT f) (f := f) hn a v
    simp only [eO, optIn]
    rw [this]
    simp
  | none =>
    have h2 := flatNL_map (f := f) (m := 63) (fun a => Fln.l a 63 hn) v
    simp only [eO, eT, cop, flatL, h2, flat, flatN, Bool.and_self, if_true, memV_non, optIn]
theorem c_inD [DecidableEq κ] {o : Bool} {f : κ → D} {g : β → D} [Ky f] [Eqv f] : OpC .in_ f (eDi o f g) (fun u v => (dget v u).isSome) := fun u v => by
  simp only [eDi, cop, kFit_map, if_true, look_map, Option.isSome_map]
theorem c_ninD [DecidableEq κ] {o : Bool} {f : κ → D} {g : β → D} [Ky f] [Eqv f] : OpC .nin f (eDi o f g) (fun u v => !(dget v u).isSome) := fun u v => by
  simp only [eDi, cop, kFit_map, if_true, look_map, Option.isSome_map]
/-! and, or, not, if -/
theorem k_not {a : E} {x : Option Bool} {k : Kd} (ha : EvK C ρ a x eB k) : EvK C ρ (.not_ a) (x.bind fun u => some (!u)) eB .val := fun w hw => by
  cases x with
  | none => cases hw
  | some u => cases hw; simp only [ev, ha u rfl, eB, truth]
theorem k_and {a b : E} {x y : Option Bool} (ha : EvK C ρ a x eB .val) (hb : EvK C ρ b y eB .val) : EvK C ρ (.and_ a b) (x.bind fun u => if u then y else some false) eB .val := fun w hw => by
  cases x with
  | none => cases hw
  | some u =>
    simp only [ev, ha u rfl, eB, truth]
    cases u with
    | false => cases hw; rfl
    | true => exact hb w hw
theorem k_andP {a b : E} {u v : Bool} (ha : EvK C ρ a (some u) eB .val) (hb : EvK C ρ b (some v) eB .val) : EvK C ρ (.and_ a b) (some (u && v)) eB .val := fun w hw => k_and ha hb w (by cases hw; cases u <;> rfl)
theorem k_or {a b : E} {x y : Option Bool} (ha : EvK C ρ a x eB .val) (hb : EvK C ρ b y eB .val) : EvK C ρ (.or_ a b) (x.bind fun u => if u then some true else y) eB .val := fun w hw => by
  cases x with
  | none => cases hw
  | some u =>
    simp only [ev, ha u rfl, eB, truth]
    cases u with
    | true => cases hw; rfl
    | false => exact hb w hw
theorem k_orP {a b : E} {u v : Bool} (ha : EvK C ρ a (some u) eB .val) (hb : EvK C ρ b (some v) eB .val) : EvK C ρ (.or_ a b) (some (u || v)) eB .val := fun w hw => k_or ha hb w (by cases hw; cases u <;> rfl)
/-- truth -/
class Tr (f : α → D) (t : outParam (α → Bool)) : Prop where
  t : ∀ a, truth (f a) = some (t a)
instance : Tr eB id := ⟨fun _ => rfl⟩
instance : Tr eI (fun i => !(i == 0)) := ⟨fun _ => rfl⟩
instance {f : α → D} : Tr (eT f) (fun xs => !xs.isEmpty) := ⟨fun xs => by cases xs <;> rfl⟩
instance {f : α → D} {o : Bool} : Tr (eL o f) (fun xs => !xs.isEmpty) := ⟨fun xs => by cases xs <;> rfl⟩
theorem k_ite {c a b : E} {x : Option Bool} {y z : Option α} {f : α → D} {k k2 : Kd} (hc : EvK C ρ c x eB k) (ha : EvK C ρ a y f k2) (hb : EvK C ρ b z f k2) : EvK C ρ (.ite c a b) (x.bind fun u => if u then y else z) f k2 := fun w hw => by
  cases x with
  | none => cases hw
  | some u =>
    simp only [ev, hc u rfl, eB, truth]
    cases u with
    | true => exact ha w hw
    | false => exact hb w hw
theorem k_iteP {c a b : E} {u : Bool} {y z : α} {f : α → D} {k k2 : Kd} (hc : EvK C ρ c (some u) eB k) (ha : EvK C ρ a (some y) f k2) (hb : EvK C ρ b (some z) f k2) : EvK C ρ (.ite c a b) (some (if u then y else z)) f k2 := fun w hw => k_ite hc ha hb w (by cases hw; cases u <;> rfl)
/-! displays -/
theorem evs_cons {e : E} {es : Es} {d : D} {ds : List D} (h1 : ev C e ρ = some ⟨d, .val, ρ⟩) (h2 : evs C es ρ = some (ds, ρ)) : evs C (.cons e es) ρ = some (d :: ds, ρ) := by
  simp only [evs, h1, own, h2]
theorem evs_nil : evs C .nil ρ = some ([], ρ) := rfl
/-- a row of terms of one kind -/
def EsK (C : Cll) (ρ : Env) (es : Es) (m : Option (List α)) (f : α → D) : Prop := ∀ v, m = some v → evs C es ρ = some (v.map f, ρ)
theorem k_esn {f : α → D} : EsK C ρ .nil (some []) f := fun v h => by cases h; rfl
theorem k_esc {e : E} {es : Es} {x : Option α} {y : Option (List α)} {f : α → D} (h1 : EvK C ρ e x f .val) (h2 : EsK C ρ es y f) : EsK C ρ (.cons e es) (x.bind fun u => y.bind fun v => some (u :: v)) f := fun w hw => by
  cases x with
  | none => cases hw
  | some u => cases y with
    | none => cases hw
    | some v => cases hw; exact evs_cons (h1 u rfl) (h2 v rfl)
def esLen : Es → Nat
  | .nil => 0
  | .cons _ es => esLen es + 1
theorem evs_len : ∀ {es : Es} {ρ ρ' : Env} {ds : List D}, evs C es ρ = some (ds, ρ') → ds.length = esLen es
  | .nil, ρ, ρ', ds, h => by simp only [evs, Option.some.injEq, Prod.mk.injEq] at h; rw [← h.1]; rfl
  | .cons e es, ρ, ρ', ds, h => by
    simp only [evs] at h
    split at h
    · split at h
      · split at h
        · rename_i h3
          cases h
          simp only [List.length_cons, esLen, evs_len h3]
        · cases h
      · cases h
    · cases h
theorem k_lst {es : Es} {x : Option (List α)} {f : α → D} (h : EsK C ρ es x f) (hn : esLen es < 1000 := by decide) : EvK C ρ (.lst es) x (eL true f) .val := fun w hw => by
  have h1 := h w hw
  have h2 := evs_len h1
  simp only [ev, h1, mkL, h2]
  rw [if_pos (Nat.lt_trans hn (by unfold lim; decide))]
  rfl
theorem frzL_map {f f' : α → D} [Fz f f'] : ∀ xs : List α, frzL (xs.map f) = xs.map f'
  | [] => rfl
  | a :: xs => by simp only [List.map_cons, frzL, Fz.z, frzL_map xs]
theorem k_tupS {es : Es} {x : Option (List α)} {f f' : α → D} [Fz f f'] (h : EsK C ρ es x f) (hn : esLen es < 1000 := by decide) : EvK C ρ (.tup es) x (eT f') .val := fun w hw => by
  have h1 := h w hw
  have h2 := evs_len h1
  simp only [ev, h1, mkT, frzL_map, List.length_map, noDL_map, if_true] at h2 ⊢
  rw [if_pos (by rw [h2]; exact Nat.lt_trans hn (by unfold lim; decide))]
  rfl
theorem k_tup2 {a b : E} {x : Option α} {y : Option β} {f f' : α → D} {g g' : β → D} [Fz f f'] [Fz g g'] (ha : EvK C ρ a x f .val) (hb : EvK C ρ b y g .val) :
    EvK C ρ (.tup (.cons a (.cons b .nil))) (x.bind fun u => y.bind fun v => some (u, v)) (e2 f' g') .val := fun w hw => by
  cases x with
  | none => cases hw
  | some u => cases y with
    | none => cases hw
    | some v => cases hw; simp [ev, ha u rfl, hb v rfl, evs, own, noDL, Fz.n, frzL, Fz.z, mkT, lim, e2]
theorem k_tup3 {a b c : E} {x : Option α} {y : Option β} {z : Option γ} {f f' : α → D} {g g' : β → D} {h h' : γ → D} [Fz f f'] [Fz g g'] [Fz h h'] (ha : EvK C ρ a x f .val) (hb : EvK C ρ b y g .val) (hc : EvK C ρ c z h .val) :
    EvK C ρ (.tup (.cons a (.cons b (.cons c .nil)))) (x.bind fun u => y.bind fun v => z.bind fun w => some ⟨u, v, w⟩) (e3 f' g' h') .val := fun w hw => by
  cases x with
  | none => cases hw
  | some u => cases y with
    | none => cases hw
    | some v => cases z with
      | none => cases hw
      | some t => cases hw; simp [ev, ha u rfl, hb v rfl, hc t rfl, evs, own, noDL, Fz.n, frzL, Fz.z, mkT, lim, e3]
theorem k_tup4 {a b c d : E} {x : Option α} {y : Option β} {z : Option γ} {s : Option δ} {f f' : α → D} {g g' : β → D} {h h' : γ → D} {i i' : δ → D} [Fz f f'] [Fz g g'] [Fz h h'] [Fz i i'] (ha : EvK C ρ a x f .val) (hb : EvK C ρ b y g .val) (hc : EvK C ρ c z h .val) (hd : EvK C ρ d s i .val) :
    EvK C ρ (.tup (.cons a (.cons b (.cons c (.cons d .nil))))) (x.bind fun u => y.bind fun v => z.bind fun w => s.bind fun t => some ⟨u, v, w, t⟩) (e4 f' g' h' i') .val := fun w hw => by
  cases x with
  | none => cases hw
  | some u => cases y with
    | none => cases hw
    | some v => cases z with
      | none => cases hw
      | some t => cases s with
        | none => cases hw
        | some s => cases hw; simp [ev, ha u rfl, hb v rfl, hc t rfl, hd s rfl, evs, own, noDL, Fz.n, frzL, Fz.z, mkT, lim, e4]
theorem k_dct0 {f : κ → D} {g : β → D} : EvK C ρ (.dct .nil) (some []) (eDi true f g) .val := fun w hw => by cases hw; rfl
/-! places -/
@[irreducible] def getI (xs : List α) (i : Int) : Option α := (ixOf xs.length i).bind fun n => xs[n]?
theorem sq_step {c : List α → D} {f : α → D} [Sq c f] {xs : List α} {i : Int} {a : α} (h : getI xs i = some a) : ∃ n, stepOf (c xs) (.int i) = some (.ix n) ∧ getS (c xs) (.ix n) = some (f a) := by
  unfold getI at h
  cases hn : ixOf xs.length i with
  | none => rw [hn] at h; cases h
  | some n =>
    rw [hn] at h
    have h : xs[n]? = some a := h
    refine ⟨n, ?_⟩
    rcases Sq.s (c := c) (f := f) with e | ⟨o, e⟩ <;> rw [e] <;> simp [stepOf, getS, hn, h]
theorem idx_gen {a b : E} {d e : D} {k k2 : Kd} {s : Stp} {i : D} (ha : ev C a ρ = some ⟨d, k, ρ⟩) (hb : ev C b (lock k ρ) = some ⟨i, k2, lock k ρ⟩) (h1 : stepOf d i = some s) (h2 : getS d s = some e) (hp : pers e = true) : ev C (.idx a b) ρ = some ⟨e, .val, ρ⟩ := by
  have hs : subOut ⟨d, k, ρ⟩ s = some ⟨e, .val, ρ⟩ := by
    cases k with
    | val => simp only [subOut, h2]
    | vw i p => simp only [subOut, h2, viewAt, hp, if_true]
  simp only [ev, ha, hb, unlock_lock]
  cases d with
  | scr ns => simp [stepOf] at h1
  | str s => simp [stepOf] at h1
  | _ => simp only [h1, hs]
theorem k_idx {a b : E} {x : Option (List α)} {y : Option Int} {c : List α → D} {f : α → D} {k k2 : Kd} [Sq c f] [Ec f] (ha : EvK C ρ a x c k) (hb : EvK C (lock k ρ) b y eI k2) :
    EvK C ρ (.idx a b) (x.bind fun u => y.bind fun v => getI u v) f .val := fun w hw => by
  cases x with
  | none => cases hw
  | some u => cases y with
    | none => cases hw
    | some v =>
      obtain ⟨n, h1, h2⟩ := sq_step (c := c) (f := f) (show getI u v = some w from hw)
      exact idx_gen (ha u rfl) (hb v rfl) h1 h2 (Ec.p w)
/-- a place of a tuple -/
theorem k_idxT {a : E} {i : Int} {x : Option α} {f : α → D} {g : β → D} {pr : α → β} {n : Nat} {k : Kd} [Ec g] (ha : EvK C ρ a x f k) (h1 : ∀ u, stepOf (f u) (.int i) = some (.ix n)) (h2 : ∀ u, getS (f u) (.ix n) = some (g (pr u))) :
    EvK C ρ (.idx a (.cst (.int i))) (x.bind fun u => some (pr u)) g .val := fun w hw => by
  cases x with
  | none => cases hw
  | some u => cases hw; exact idx_gen (k2 := .val) (ha u rfl) rfl (h1 u) (h2 u) (Ec.p _)
theorem k_idxD [DecidableEq κ] {a b : E} {x : Option (List (κ × β))} {y : Option κ} {f : κ → D} {g : β → D} {o : Bool} {k k2 : Kd} [Ky f] [Eqv f] [Ec g] (ha : EvK C ρ a x (eDi o f g) k) (hb : EvK C (lock k ρ) b y f k2) :
    EvK C ρ (.idx a b) (x.bind fun u => y.bind fun v => dget u v) g .val := fun w hw => by
  cases x with
  | none => cases hw
  | some u => cases y with
    | none => cases hw
    | some v =>
      have hw : dget u v = some w := hw
      refine idx_gen (s := .ky (f v)) (ha u rfl) (hb v rfl) ?_ ?_ (Ec.p w)
      · simp only [eDi, stepOf, kFit_map, if_true]
      · simp only [eDi, getS, kFit_map, if_true, look_map, hw, Option.map_some]
theorem k_idxScr {a b : E} {ns : List Int} {y : Option Int} {k2 : Kd} (ha : EvK C ρ a (some ns) eScr .val) (hb : EvK C ρ b y eI k2) :
    EvK C ρ (.idx a b) (y.bind fun v => getI ns v) eI .val := fun w hw => by
  cases y with
  | none => cases hw
  | some v =>
    have hw : getI ns v = some w := hw
    unfold getI at hw
    have h2 := hb v rfl
    simp only [ev, ha ns rfl, lock, h2, eScr, eI, unlock]
    cases hn : ixOf ns.length v with
    | none => rw [hn] at hw; cases hw
    | some n =>
      rw [hn] at hw
      have hw : ns[n]? = some w := hw
      simp only [hw]
theorem k_get [DecidableEq κ] {a b : E} {x : Option (List (κ × β))} {y : Option κ} {f : κ → D} {g : β → D} {o : Bool} {k k2 : Kd} [Ky f] [Eqv f] [Ec g] (ha : EvK C ρ a x (eDi o f g) k) (hb : EvK C (lock k ρ) b y f k2) :
    EvK C ρ (.get a (.cons b .nil)) (x.bind fun u => y.bind fun v => some (dget u v)) (eO g) .val := fun w hw => by
  cases x with
  | none => cases hw
  | some u => cases y with
    | none => cases hw
    | some v =>
      cases hw
      simp only [ev, ha u rfl, evV, hb v rfl, unlock_lock]
      simp only [eDi, getD, kFit_map, if_true, look_map, Option.isSome_map]
      cases h : dget u v with
      | none => rfl
      | some w =>
        simp only [Option.isSome_some, if_true]
        have : getS (.dct o (u.map fun p => (f p.1, g p.2))) (.ky (f v)) = some (g w) := by simp only [getS, kFit_map, if_true, look_map, h, Option.map_some]
        cases k with
        | val => simp only [subOut, this]; rfl
        | vw i p => simp only [subOut, this, viewAt, Ec.p, if_true]; rfl
theorem k_get2 [DecidableEq κ] {a b c : E} {x : Option (List (κ × β))} {y : Option κ} {z : Option β} {f : κ → D} {g : β → D} {o : Bool} {k k2 : Kd} [Ky f] [Eqv f] [Ec f] [Ec g] (ha : EvK C ρ a x (eDi o f g) k) (hb : EvK C (lock k ρ) b y f .val) (hc : EvK C (lock k ρ) c z g k2) :
    EvK C ρ (.get a (.cons b (.cons c .nil))) (x.bind fun u => y.bind fun v => z.bind fun w => some ((dget u v).getD w)) g .val := fun w hw => by
  cases x with
  | none => cases hw
  | some u => cases y with
    | none => cases hw
    | some v => cases z with
      | none => cases hw
      | some t =>
      cases hw
      have e1 := hb v rfl
      have e2 := hc t rfl
      simp only [ev, ha u rfl, evV, e1, lock_val, e2, unlock_lock, unlock_val]
      simp only [eDi, getD, kFit_map, if_true, look_map, Option.isSome_map, Ec.p, Bool.and_self]
      cases h : dget u v with
      | none => rfl
      | some w =>
        simp only [Option.isSome_some, if_true]
        have : getS (.dct o (u.map fun p => (f p.1, g p.2))) (.ky (f v)) = some (g w) := by simp only [getS, kFit_map, if_true, look_map, h, Option.map_some]
        cases k with
        | val => simp only [subOut, this]; rfl
        | vw i p => simp only [subOut, this, viewAt, Ec.p, if_true]; rfl
/-! slices -/
def EoK (C : Cll) (ρ : Env) (e : Oe) (m : Option (Option Int)) : Prop := ∀ v, m = some v → evO C e ρ = some (v.map D.int, ρ)
theorem k_no : EoK C ρ .no (some none) := fun v h => by cases h; rfl
theorem k_so {e : E} {x : Option Int} (h : EvK C ρ e x eI .val) : EoK C ρ (.so e) (x.bind fun u => some (some u)) := fun v hv => by
  cases x with
  | none => cases hv
  | some u => cases hv; simp only [evO, h u rfl, own]; rfl
theorem optI_map (v : Option Int) : optI (v.map D.int) = some v := by cases v <;> rfl
theorem k_slc {a : E} {lo hi : Oe} {x : Option α} {y z : Option (Option Int)} {f : α → D} {g : β → D} {k : Kd} {r : α → Option Int → Option Int → Option β} (ha : EvK C ρ a x f k) (hl : EoK C (lock k ρ) lo y) (hh : EoK C (lock k ρ) hi z) (ho : ∀ u l h w, r u l h = some w → slc (f u) l h = some (g w)) :
    EvK C ρ (.slc a lo hi) (x.bind fun u => y.bind fun l => z.bind fun h => r u l h) g .val := fun w hw => by
  cases x with
  | none => cases hw
  | some u => cases y with
    | none => cases hw
    | some l => cases z with
      | none => cases hw
      | some h =>
        simp only [ev, ha u rfl, hl l rfl, hh h rfl, optI_map, ho u l h w hw, unlock_lock]
theorem cut_map {f : α → β} (xs : List α) (l h : Option Int) : cut (xs.map f) l h = (cut xs l h).map f := by simp [cut, List.map_take, List.map_drop]
theorem s_tup {f : α → D} : ∀ u l h w, (fun (u : List α) l h => some (cut u l h)) u l h = some w → slc (eT f u) l h = some (eT f w) := fun u l h w hw => by
  cases hw; simp only [eT, slc, cut_map]
theorem s_lst {f : α → D} {o : Bool} [Ec f] : ∀ u l h w, (fun (u : List α) l h => some (cut u l h)) u l h = some w → slc (eL o f u) l h = some (eL true f w) := fun u l h w hw => by
  cases hw; simp only [eL, slc, cut_map, persL_map Ec.p, if_true]
/-- a slice of a tuple, its bounds written -/
theorem k_slcT {a : E} {lo hi : Oe} {l h : Option Int} {x : Option α} {f : α → D} {g : β → D} {pr : α → β} {k : Kd} (ha : EvK C ρ a x f k) (hl : EoK C (lock k ρ) lo (some l)) (hh : EoK C (lock k ρ) hi (some h)) (ho : ∀ u, slc (f u) l h = some (g (pr u))) :
    EvK C ρ (.slc a lo hi) (x.bind fun u => some (pr u)) g .val := fun w hw => by
  cases x with
  | none => cases hw
  | some u => cases hw; simp only [ev, ha u rfl, hl l rfl, hh h rfl, optI_map, ho u, unlock_lock]
end
end SH

set_option autoImplicit false
set_option linter.all false
set_option maxRecDepth 100000
namespace SH
open LP PB
section
variable {α β γ δ ε κ : Type} {C : Cll} {ρ : Env}
/-! ### built-ins -/
def OpF (b : Blt) (f : α → D) (r : α → Option β) (g : β → D) : Prop := ∀ u w, r u = some w → blt b [f u] = some (g w)
theorem k_blt {b : Blt} {a : E} {x : Option α} {f : α → D} {g : β → D} {k : Kd} {r : α → Option β} (ha : EvK C ρ a x f k) (ho : OpF b f r g) : EvK C ρ (.blt b (.cons a .nil)) (x.bind fun u => r u) g .val := fun w hw => by
  cases x with
  | none => cases hw
  | some u => simp only [ev, evV, ha u rfl, unlock_lock, ho u w hw]
theorem k_blt2 {b : Blt} {a c : E} {x : Option α} {y : Option β} {f : α → D} {g : β → D} {h : γ → D} {k k2 : Kd} {r : α → β → Option γ} (ha : EvK C ρ a x f k) (hb : EvK C (lock k ρ) c y g k2) (ho : ∀ u v w, r u v = some w → blt b [f u, g v] = some (h w)) : EvK C ρ (.blt b (.cons a (.cons c .nil))) (x.bind fun u => y.bind fun v => r u v) h .val := fun w hw => by
  cases x with
  | none => cases hw
  | some u => cases y with
    | none => cases hw
    | some v => simp only [ev, evV, ha u rfl, hb v rfl, unlock_lock, ho u v w hw]
theorem b_len {c : List α → D} {f : α → D} [Sq c f] : OpF .len c (fun u => some (u.length : Int)) eI := fun u w h => by
  cases h
  rcases Sq.s (c := c) (f := f) with h | ⟨o, h⟩ <;> rw [h] <;> simp [blt, eI]
theorem b_lenS : OpF .len eScr (fun u => some (u.length : Int)) eI := fun u w h => by cases h; rfl
theorem b_lenD {o : Bool} {f : κ → D} {g : β → D} [Ky1 f] : OpF .len (eDi o f g) (fun u => some (u.length : Int)) eI := fun u w h => by
  cases h; simp [eDi, blt, Ky1.k, eI]
theorem b_abs : OpF .abs eI (fun u => some (u.natAbs : Int)) eI := fun u w h => by cases h; rfl
theorem b_int : OpF .int eI (fun u => some u) eI := fun u w h => by cases h; rfl
theorem b_intB : OpF .int eB (fun u => some (b2i u)) eI := fun u w h => by cases h; rfl
theorem b_tuple {c : List α → D} {f : α → D} [Sq c f] [Ec f] : OpF .tuple c (fun u => some u) (eT f) := fun u w h => by
  cases h
  rcases Sq.s (c := c) (f := f) with h | ⟨o, h⟩ <;> rw [h] <;> simp [blt, eT, persL_map (Ec.p (f := f))]
theorem b_list {c : List α → D} {f : α → D} [Sq c f] [Ec f] : OpF .list c (fun u => some u) (eL true f) := fun u w h => by
  cases h
  rcases Sq.s (c := c) (f := f) with h | ⟨o, h⟩ <;> rw [h] <;> simp [blt, eL, persL_map (Ec.p (f := f))]
theorem blsOf_map : ∀ bs : List Bool, blsOf (bs.map eB) = some bs
  | [] => rfl
  | b :: bs => by simp only [List.map_cons, eB, blsOf]; rw [show bs.map D.bl = bs.map eB from rfl, blsOf_map bs]
theorem intsOf_map : ∀ bs : List Int, intsOf (bs.map eI) = some bs
  | [] => rfl
  | b :: bs => by simp only [List.map_cons, eI, intsOf]; rw [show bs.map D.int = bs.map eI from rfl, intsOf_map bs]
theorem b_all {o : Bool} : OpF .all (eL o eB) (fun u => some (u.all id)) eB := fun u w h => by cases h; simp only [eL, blt, blsOf_map]; rfl
theorem b_any {o : Bool} : OpF .any (eL o eB) (fun u => some (u.any id)) eB := fun u w h => by cases h; simp only [eL, blt, blsOf_map]; rfl
theorem b_sum {o : Bool} : OpF .sum (eL o eI) (fun u => some u.sum) eI := fun u w h => by cases h; simp only [eL, blt, intsOf_map]; rfl
def rangeI (a b : Int) : List Int := (List.range (b - a).toNat).map fun k => a + (k : Nat)
theorem rangeD_eq (a b : Int) : rangeD a b = (rangeI a b).map eI := by simp [rangeD, rangeI, eI, Function.comp_def]
@[irreducible] noncomputable def rngG (a b : Int) : Option (List Int) := @ite _ ((rOk a && rOk b) = true) (Classical.propDecidable _) (some (rangeI a b)) none
theorem b_rng1 : OpF .range eI (fun n => rngG 0 n) (eL true eI) := fun u w h => by
  have h : rngG 0 u = some w := h
  unfold rngG at h
  split at h
  · rename_i hc
    cases h
    simp only [Bool.and_eq_true] at hc
    simp only [eI, blt, hc.2, if_true, rangeD_eq]; rfl
  · cases h
theorem b_rng2 : ∀ a b w, rngG a b = some w → blt .range [eI a, eI b] = some (eL true eI w) := fun a b w h => by
  unfold rngG at h
  split at h
  · rename_i hc; cases h; simp only [eI, blt, hc, if_true, rangeD_eq]; rfl
  · cases h
/-! ### walks -/
def WkK (C : Cll) (ρ : Env) (e : E) (m : Option (List α)) (f : α → D) (k : Kd) : Prop := ∀ v, m = some v → walk (ev C e ρ) = some (v.map f, k, ρ)
theorem k_walk {e : E} {m : Option (List α)} {c : List α → D} {f : α → D} [Sq c f] [Ec f] (h : EvK C ρ e m c .val) : WkK C ρ e m f .val := fun v hv => by
  rw [h v hv]
  rcases Sq.s (c := c) (f := f) with h | ⟨o, h⟩ <;> rw [h] <;> simp [walk, persL_map (Ec.p (f := f))]
theorem k_walkV {e : E} {m : Option (List α)} {f : α → D} {o : Bool} {i : Nat} [Ec f] (h : EvK C ρ e m (eL o f) (.vw i [])) : WkK C ρ e m f (.vw i []) := fun v hv => by
  rw [h v hv]
  simp [walk, eL, persL_map (Ec.p (f := f))]
/-! ### comprehensions -/
@[irreducible] noncomputable def lcM (xs : List α) (f : α → Option (Option β)) : Option (List β) := @ite _ (xs.length < lim) (Classical.propDecidable _) ((xs.mapM f).map (·.filterMap id)) none
@[irreducible] noncomputable def lcMap (xs : List α) (g : α → β) : Option (List β) := @ite _ (xs.length < lim) (Classical.propDecidable _) (some (xs.map g)) none
@[irreducible] noncomputable def lcFil (xs : List α) (p : α → Bool) (g : α → β) : Option (List β) := @ite _ (xs.length < lim) (Classical.propDecidable _) (some ((xs.filter p).map g)) none
theorem mapM_filter {f : α → Option (Option β)} {p : α → Bool} {g : α → β} (h : ∀ a, f a = some (if p a then some (g a) else none)) : ∀ xs : List α, (xs.mapM f).map (·.filterMap id) = some ((xs.filter p).map g)
  | [] => rfl
  | a :: xs => by
    have ih := mapM_filter h xs
    rw [List.mapM_cons, h a]
    cases hx : xs.mapM f with
    | none => rw [hx] at ih; cases ih
    | some ys =>
      rw [hx] at ih
      simp only [Option.map_some, Option.some.injEq] at ih
      by_cases hp : p a = true
      · simp [hp, ih, Option.bind, bind, pure, List.filter_cons]
      · simp [hp, ih, Option.bind, bind, pure, List.filter_cons]
theorem lcM_fil {xs : List α} {f : α → Option (Option β)} {p : α → Bool} {g : α → β} (h : ∀ a, f a = some (if p a then some (g a) else none)) : lcM xs f = lcFil xs p g := by
  unfold lcM lcFil
  split
  · exact mapM_filter h xs
  · rfl
theorem lcM_map {xs : List α} {f : α → Option (Option β)} {g : α → β} (h : ∀ a, f a = some (some (g a))) : lcM xs f = lcMap xs g := by
  rw [lcM_fil (p := fun _ => true) (g := g) fun a => by rw [h a]; rfl]
  unfold lcFil lcMap
  rw [List.filter_eq_self.mpr fun _ _ => rfl]
/-- a turn of a comprehension: the frame is as it was but for the own slots -/
structure TurnK (C : Cll) (is : List Nat) (t : Tg) (c : Oe) (e : E) (ρ0 : Env) (f : α → D) (r : α → Option (Option β)) (g : β → D) : Prop where
  run : ∀ a w, r a = some w → ∃ ρ2 b, asgT t (f a) (unsetAll is ρ0) = some ρ2 ∧ evC C c ρ2 = some (b, ρ2) ∧ unsetAll is ρ2 = unsetAll is ρ0 ∧
    ((b = false ∧ w = none) ∨ (b = true ∧ ∃ x, w = some x ∧ ev C e ρ2 = some ⟨g x, .val, ρ2⟩))
theorem t_one {is : List Nat} {t : Tg} {c : E} {e : E} {ρ0 : Env} {f : α → D} {g : β → D} {p : α → Option Bool} {q : α → Option β} {ρ2 : α → Env} {k : Kd} (h1 : ∀ a, asgT t (f a) (unsetAll is ρ0) = some (ρ2 a)) (hu : ∀ a, unsetAll is (ρ2 a) = unsetAll is ρ0)
    (hc : ∀ a, EvK C (ρ2 a) c (p a) eB k) (he : ∀ a, EvK C (ρ2 a) e (q a) g .val) : TurnK C is t (.so c) e ρ0 f (fun a => (p a).bind fun b => if b then (q a).bind fun x => some (some x) else some none) g := ⟨fun a w hw => by
  cases hp : p a with
  | none => rw [hp] at hw; cases hw
  | some b =>
    rw [hp] at hw
    refine ⟨ρ2 a, b, h1 a, ?_, hu a, ?_⟩
    · simp only [evC, hc a b hp, eB, truth]
    · cases b with
      | false => cases hw; exact .inl ⟨rfl, rfl⟩
      | true =>
        have hw : ((q a).bind fun x => some (some x)) = some w := hw
        cases hq : q a with
        | none => rw [hq] at hw; cases hw
        | some x => rw [hq] at hw; cases hw; exact .inr ⟨rfl, x, rfl, he a x hq⟩⟩
theorem t_no {is : List Nat} {t : Tg} {e : E} {ρ0 : Env} {f : α → D} {g : β → D} {q : α → Option β} {ρ2 : α → Env} (h1 : ∀ a, asgT t (f a) (unsetAll is ρ0) = some (ρ2 a)) (hu : ∀ a, unsetAll is (ρ2 a) = unsetAll is ρ0)
    (he : ∀ a, EvK C (ρ2 a) e (q a) g .val) : TurnK C is t .no e ρ0 f (fun a => (q a).bind fun x => some (some x)) g := ⟨fun a w hw => by
  cases hq : q a with
  | none => rw [hq] at hw; cases hw
  | some x => rw [hq] at hw; cases hw; exact ⟨ρ2 a, true, h1 a, rfl, hu a, .inr ⟨rfl, x, rfl, he a x hq⟩⟩⟩
theorem mapM_flat {f : α → D} {r : α → Option (Option β)} : ∀ {xs : List α} {ys : List (Option β)}, xs.mapM r = some ys → ∀ a ∈ xs, ∃ w, r a = some w
  | [], _, _, a, h => by simp at h
  | x :: xs, ys, h, a, ha => by
    rw [List.mapM_cons] at h
    cases hx : r x with
    | none => rw [hx] at h; cases h
    | some w =>
      rw [hx] at h
      cases hm : xs.mapM r with
      | none => rw [hm] at h; cases h
      | some zs =>
        rcases List.mem_cons.mp ha with rfl | hb
        · exact ⟨w, hx⟩
        · exact mapM_flat (f := f) hm a hb
theorem k_lc {e it : E} {is : List Nat} {t : Tg} {c : Oe} {x : Option (List α)} {f : α → D} {g : β → D} {k : Kd} {r : α → Option (Option β)} (hw : WkK C ρ it x f k) (ht : TurnK C is t c e (lock k ρ) f r g) :
    EvK C ρ (.lc1 e is t it c) (x.bind fun xs => lcM xs r) (eL true g) .val := fun w hw2 => by
  cases x with
  | none => cases hw2
  | some xs =>
    have hw2 : lcM xs r = some w := hw2
    unfold lcM at hw2
    split at hw2
    · rename_i hl
      cases hm : xs.mapM r with
      | none => rw [hm] at hw2; cases hw2
      | some ys =>
        rw [hm] at hw2
        cases hw2
        have key : ∀ (xs : List α) (ys : List (Option β)) (acc : List D) (ρ' : Env), xs.mapM r = some ys → unsetAll is ρ' = unsetAll is (lock k ρ) → acc.length + xs.length < lim →
            ∃ ρ4, foldO (fun d (b : List D × Env) => match asgT t d (unsetAll is b.2) with
              | some ρ2 => match evC C c ρ2 with
                | some (true, ρ3) => match ev C e ρ3 with
                  | some o => match own o with
                    | some (x, ρ4) => if b.1.length + 1 < lim then some (b.1 ++ [x], ρ4) else none
                    | none => none
                  | none => none
                | some (false, ρ3) => some (b.1, ρ3)
                | none => none
              | none => none) (xs.map f) (acc, ρ') = some (acc ++ (ys.filterMap id).map g, ρ4) ∧ unsetAll is ρ4 = unsetAll is (lock k ρ) := by
          intro xs
          induction xs with
          | nil => intro ys acc ρ' hm hu _; cases hm; exact ⟨ρ', by simp [foldO], hu⟩
          | cons a xs ih =>
            intro ys acc ρ' hm hu hl
            rw [List.mapM_cons] at hm
            cases hr : r a with
            | none => rw [hr] at hm; cases hm
            | some y =>
              rw [hr] at hm
              cases hm2 : xs.mapM r with
              | none => rw [hm2] at hm; cases hm
              | some zs =>
                rw [hm2] at hm
                cases hm
                obtain ⟨ρ2, b, e1, e2, e3, e4⟩ := ht.run a y hr
                simp only [List.length_cons] at hl
                rcases e4 with ⟨rfl, rfl⟩ | ⟨rfl, x, rfl, e4⟩
                · obtain ⟨ρ4, q, q2⟩ := ih zs acc ρ2 hm2 e3 (by omega)
                  exact ⟨ρ4, by simp only [List.map_cons, foldO, hu, e1, e2, q]; rfl, q2⟩
                · obtain ⟨ρ4, q, q2⟩ := ih zs (acc ++ [g x]) ρ2 hm2 e3 (by simp; omega)
                  refine ⟨ρ4, ?_, q2⟩
                  have hl2 : acc.length + 1 < lim := by omega
                  have ho : own ⟨g x, .val, ρ2⟩ = some (g x, ρ2) := rfl
                  simp only [List.map_cons, foldO, hu, e1, e2, e4, ho, hl2, if_true, q]
                  simp
        obtain ⟨ρ4, q, q2⟩ := key xs ys [] (unsetAll is (lock k ρ)) hm (by
          apply List.ext_getElem?
          intro j
          by_cases hj : j ∈ is
          · have aux : ∀ (is : List Nat) (ρ : Env), j ∈ is → (unsetAll is ρ)[j]? = (ρ[j]?).map fun _ => Sl.no := by
              intro is
              induction is with
              | nil => intro ρ h; simp at h
              | cons i is ih =>
                intro ρ h
                simp only [unsetAll]
                by_cases hij : i = j
                · subst hij
                  by_cases hl : i < ρ.length
                  · rw [List.getElem?_set_self (by rw [unset_len]; exact hl)]
                    simp [hl]
                  · rw [List.getElem?_eq_none (by rw [List.length_set, unset_len]; omega)]
                    simp [List.getElem?_eq_none (show ρ.length ≤ i by omega)]
                · rw [List.getElem?_set_ne hij]
                  exact ih ρ (by simpa [Ne.symm hij] using h)
            rw [aux is _ hj, aux is _ hj]
            cases (lock k ρ)[j]? <;> rfl
          · rw [unset_out hj]) (by simpa using hl)
        simp only [ev, hw xs rfl]
        split
        · rename_i r' ρ' hh
          have := hh.symm.trans q
          simp only [Option.some.injEq, Prod.mk.injEq] at this
          obtain ⟨rfl, rfl⟩ := this
          rw [reset_unset q2, unlock_lock]
          rfl
        · rename_i hh
          have := hh.symm.trans q
          cases this
    · cases hw2
/-- .. whose turns are total -/
theorem k_lcF {e it c : E} {is : List Nat} {t : Tg} {x : Option (List α)} {f : α → D} {g : β → D} {k k2 : Kd} {p : α → Bool} {q : α → β} {ρ2 : α → Env} (hw : WkK C ρ it x f k) (h1 : ∀ a, asgT t (f a) (unsetAll is (lock k ρ)) = some (ρ2 a)) (hu : ∀ a, unsetAll is (ρ2 a) = unsetAll is (lock k ρ))
    (hc : ∀ a, EvK C (ρ2 a) c (some (p a)) eB k2) (he : ∀ a, EvK C (ρ2 a) e (some (q a)) g .val) : EvK C ρ (.lc1 e is t it (.so c)) (x.bind fun xs => lcFil xs p q) (eL true g) .val := by
  have h := k_lc hw (t_one h1 hu hc he)
  have e1 : (x.bind fun xs => lcM xs fun a => (some (p a)).bind fun b => if b then (some (q a)).bind fun x => some (some x) else some none) = x.bind fun xs => lcFil xs p q := by
    cases x with
    | none => rfl
    | some xs => exact lcM_fil fun a => by cases h : p a <;> simp [h]
  rwa [e1] at h
theorem k_lcP {e it : E} {is : List Nat} {t : Tg} {x : Option (List α)} {f : α → D} {g : β → D} {k : Kd} {q : α → β} {ρ2 : α → Env} (hw : WkK C ρ it x f k) (h1 : ∀ a, asgT t (f a) (unsetAll is (lock k ρ)) = some (ρ2 a)) (hu : ∀ a, unsetAll is (ρ2 a) = unsetAll is (lock k ρ))
    (he : ∀ a, EvK C (ρ2 a) e (some (q a)) g .val) : EvK C ρ (.lc1 e is t it .no) (x.bind fun xs => lcMap xs q) (eL true g) .val := by
  have h := k_lc hw (t_no h1 hu he)
  have e1 : (x.bind fun xs => lcM xs fun a => (some (q a)).bind fun x => some (some x)) = x.bind fun xs => lcMap xs q := by
    cases x with
    | none => rfl
    | some xs => exact lcM_map fun a => rfl
  rwa [e1] at h
/-! ### calls whose arguments cannot be exchanged -/
/-- the function i gives what m is -/
def Cal (C : Cll) (i : Nat) (ds : List D) (m : Option α) (f : α → D) : Prop := ∀ v, m = some v → ∃ ss, C i ds = some (f v, ss) ∧ ss.length = ds.length
theorem arOk_p {ρ : Env} : ∀ {as : List Ar} {ds : List D} {is : List Nat}, as.length = ds.length → persL ds = true → arOk ρ as ds is = true
  | [], [], _, _, _ => rfl
  | .val _ :: as, d :: ds, is, h, hp => by
    simp only [persL, Bool.and_eq_true] at hp
    simp only [arOk, arOk_p (as := as) (ds := ds) (by simpa using h) hp.2]
  | .pl i p :: as, d :: ds, is, h, hp => by
    simp only [persL, Bool.and_eq_true] at hp
    simp only [arOk, hp.1, Bool.true_or, if_true, arOk_p (as := as) (ds := ds) (by simpa using h) hp.2, Bool.and_self]
theorem arBack_p {ρ : Env} : ∀ {as : List Ar} {ds : List D} {ss : List Sl}, as.length = ds.length → ss.length = ds.length → persL ds = true → arBack ρ as ds ss = some ρ
  | [], [], [], _, _, _ => rfl
  | .val _ :: as, d :: ds, s :: ss, h, h2, hp => by
    simp only [persL, Bool.and_eq_true] at hp
    simp only [arBack, arBack_p (as := as) (ds := ds) (ss := ss) (by simpa using h) (by simpa using h2) hp.2]
  | .pl i p :: as, d :: ds, s :: ss, h, h2, hp => by
    simp only [persL, Bool.and_eq_true] at hp
    simp only [arBack, hp.1, if_true, arBack_p (as := as) (ds := ds) (ss := ss) (by simpa using h) (by simpa using h2) hp.2]
theorem arsD_len {ρ : Env} : ∀ {as : List Ar} {ds : List D}, arsD ρ as = some ds → as.length = ds.length
  | [], ds, h => by simp only [arsD, Option.some.injEq] at h; rw [← h]; rfl
  | a :: as, ds, h => by
    simp only [arsD] at h
    split at h
    · rename_i h1 h2
      cases h
      simp [arsD_len h2]
    · cases h
/-- arguments: what they are, and the values at the call -/
def EaK (C : Cll) (ρ : Env) (as : As) (m : Option γ) (ar : γ → List Ar) : Prop := ∀ v, m = some v → evAr C as ρ = some (ar v, ρ)
theorem k_an : EaK C ρ .nil (some ()) (fun _ => []) := fun _ _ => rfl
theorem k_ar {i : Nat} {as : As} {d : D} {x : Option γ} {ar : γ → List Ar} (h : slotD ρ i = some d) (ha : EaK C ρ as x ar) : EaK C ρ (.ref i as) x (fun u => .pl i [] :: ar u) := fun v hv => by
  simp only [evAr, h, ha v hv]
theorem k_ae {e : E} {as : As} {y : Option α} {f : α → D} {x : Option γ} {ar : γ → List Ar} (h : EvK C ρ e y f .val) (ha : EaK C ρ as x ar) : EaK C ρ (.cons e as) (y.bind fun v => x.bind fun u => some (v, u)) (fun p => .val (f p.1) :: ar p.2) := fun v hv => by
  cases y with
  | none => cases hv
  | some a => cases x with
    | none => cases hv
    | some u => cases hv; simp only [evAr, h a rfl, own, ha u rfl]
theorem k_call {i : Nat} {as : As} {x : Option γ} {ar : γ → List Ar} {dd : γ → List D} {m : γ → Option α} {f : α → D} (ha : EaK C ρ as x ar) (h1 : ∀ u, arsD ρ (ar u) = some (dd u)) (hp : ∀ u, persL (dd u) = true) (hc : ∀ u, Cal C i (dd u) (m u) f) :
    EvK C ρ (.call i as) (x.bind fun u => m u) f .val := fun w hw => by
  cases x with
  | none => cases hw
  | some u =>
    obtain ⟨ss, e1, e2⟩ := hc u w hw
    have hl := arsD_len (h1 u)
    simp only [ev, ha u rfl, runCall, h1 u, arOk_p hl (hp u), if_true, e1, arBack_p hl e2 (hp u)]
theorem pl_nil : persL [] = true := rfl
theorem pl_cons {d : D} {ds : List D} (h : pers d = true) (h2 : persL ds = true) : persL (d :: ds) = true := by simp only [persL, h, h2, Bool.and_self]
end
end SH

set_option autoImplicit false
set_option linter.all false
set_option maxRecDepth 100000
namespace SH
open LP PB
section
variable {α β γ δ ε κ σ τ : Type} {C : Cll} {ρ : Env}
/-- blocks, one behind the other -/
def run (C : Cll) : List Ss → Env → Option (Fl × Env)
  | [], ρ => some (.nx, ρ)
  | b :: bs, ρ => match exs C b ρ with
    | some (.nx, ρ') => run C bs ρ'
    | r => r
theorem run_cons {s : S} {ss : Ss} {bs : List Ss} : run C (.cons s ss :: bs) ρ = match ex C s ρ with
    | some (.nx, ρ') => run C (ss :: bs) ρ'
    | r => r := by
  simp only [run, exs]
  cases ex C s ρ with
  | none => rfl
  | some p => obtain ⟨fl, ρ'⟩ := p; cases fl <;> rfl
theorem run_nx {s : S} {ss : Ss} {bs : List Ss} {ρ' : Env} (h : ex C s ρ = some (.nx, ρ')) : run C (.cons s ss :: bs) ρ = run C (ss :: bs) ρ' := by rw [run_cons, h]
theorem run_out {s : S} {ss : Ss} {bs : List Ss} {ρ' : Env} {fl : Fl} (h : ex C s ρ = some (fl, ρ')) (hf : fl ≠ .nx) : run C (.cons s ss :: bs) ρ = some (fl, ρ') := by
  rw [run_cons, h]
  cases fl with
  | nx => exact absurd rfl hf
  | _ => rfl
theorem run_one {b : Ss} : run C [b] ρ = exs C b ρ := by
  simp only [run]
  cases exs C b ρ with
  | none => rfl
  | some p => obtain ⟨fl, ρ'⟩ := p; cases fl <;> rfl
theorem run_app {b : Ss} {bs : List Ss} {ρ' : Env} (h : run C [b] ρ = some (.nx, ρ')) : run C (b :: bs) ρ = run C bs ρ' := by
  rw [run_one] at h; simp only [run, h]
theorem run_app2 {b : Ss} {bs : List Ss} {ρ' : Env} {fl : Fl} (h : run C [b] ρ = some (fl, ρ')) (hf : fl ≠ .nx) : run C (b :: bs) ρ = some (fl, ρ') := by
  rw [run_one] at h; simp only [run, h]
  cases fl with
  | nx => exact absurd rfl hf
  | _ => rfl
/-- where S gives r, the run x ends so that P -/
def RM (S : Option β) (x : Option (Fl × Env)) (P : β → Fl → Env → Prop) : Prop := ∀ r, S = some r → ∃ fl ρ', x = some (fl, ρ') ∧ P r fl ρ'
/-- the same of a part of a run, with what comes behind it -/
def WX (S : Option β) (x : Option τ) (K : Option β → τ → Prop) : Prop := ∀ r, S = some r → ∃ S' o, S' = some r ∧ x = some o ∧ K S' o
theorem wx_of {S : Option β} {x : Option τ} {K : Option β → τ → Prop} {o : τ} (h : x = some o) (k : K S o) : WX S x K := fun r hr => ⟨S, o, hr, h, k⟩
theorem wx_op {m : Option α} {S : α → Option β} {x : Option τ} {K : Option β → τ → Prop} {f : α → τ} (h : ∀ u, m = some u → x = some (f u)) (k : ∀ u, K (S u) (f u)) : WX (m.bind S) x K := fun r hr => by
  cases m with
  | none => cases hr
  | some u => exact ⟨S u, f u, hr, h u rfl, k u⟩
theorem wx_bind {S : Option β} {x : Option τ} {P : Option β → τ → Prop} {K : Prop} {r : β} (h : WX S x P) (hr : S = some r) : ∃ S' o, S' = some r ∧ x = some o ∧ P S' o := h r hr
variable {S : Option β} {P : β → Fl → Env → Prop} {ss : Ss} {bs : List Ss}
/-- evD -/
def OwK (C : Cll) (ρ : Env) (e : E) (m : Option α) (g : α → D) (ρ1 : α → Env) : Prop := ∀ v, m = some v → evD C e ρ = some (g v, ρ1 v)
theorem w_val {e : E} {m : Option α} {f : α → D} (h : EvK C ρ e m f .val) : OwK C ρ e m f (fun _ => ρ) := fun v hv => by simp only [evD, h v hv, own]
theorem w_frz {e : E} {v : α} {f f' : α → D} {i : Nat} [Fz f f'] (h : EvK C ρ e (some v) f (.vw i [])) (hi : ρ[i]? = some (.ow (f v))) : OwK C ρ e (some v) f' (fun _ => ρ.set i (.ow (f' v))) := fun u hu => by
  cases hu; simp only [evD, h v rfl, own, hi, modP, Fz.z, Fz.n, if_true]
theorem w_mv {v : α} {f : α → D} {i : Nat} (hi : ρ[i]? = some (.ow (f v))) : OwK C ρ (.mv i) (some v) f (fun _ => ρ.set i .no) := fun u hu => by
  cases hu; simp only [evD, ev, hi, own]
/-! ### statements -/
theorem rm_nil (k : RM S (run C bs ρ) P) : RM S (run C (.nil :: bs) ρ) P := k
theorem rm_end {r : β} (k : P r .nx ρ) : RM (some r) (run C [] ρ) P := fun r' h => by cases h; exact ⟨.nx, ρ, rfl, k⟩
theorem rm_nar {x : Option α} {S : α → Option β} {y : Option (Fl × Env)} (h : ∀ v, x = some v → RM (S v) y P) : RM (x.bind S) y P := fun r hr => by
  cases x with
  | none => cases hr
  | some v => exact h v rfl r hr
theorem rm_none {y : Option (Fl × Env)} : RM none y P := fun r hr => by cases hr
theorem rm_asg {t : Tg} {e : E} {v : α} {g : α → D} {ρ1 : α → Env} {ρ2 : Env} (h : OwK C ρ e (some v) g ρ1) (ht : asgT t (g v) (ρ1 v) = some ρ2) (k : RM S (run C (ss :: bs) ρ2) P) : RM S (run C (.cons (.asg t e) ss :: bs) ρ) P := by
  rw [run_nx (ρ' := ρ2) (by simp only [ex, h v rfl, ht])]; exact k
theorem rm_asgB {t : Tg} {e : E} {m : Option α} {S : α → Option β} {g : α → D} {ρ1 ρ2 : α → Env} (h : OwK C ρ e m g ρ1) (ht : ∀ v, asgT t (g v) (ρ1 v) = some (ρ2 v)) (k : ∀ v, RM (S v) (run C (ss :: bs) (ρ2 v)) P) : RM (m.bind S) (run C (.cons (.asg t e) ss :: bs) ρ) P := fun r hr => by
  cases m with
  | none => cases hr
  | some v =>
    rw [run_nx (ρ' := ρ2 v) (by simp only [ex, h v rfl, ht])]; exact k v r hr
theorem rm_ret {e : E} {v : α} {r : β} {g : α → D} {ρ1 : α → Env} (h : OwK C ρ e (some v) g ρ1) (k : P r (.rt (g v)) (ρ1 v)) : RM (some r) (run C (.cons (.ret e) ss :: bs) ρ) P := fun r' hr => by
  cases hr
  exact ⟨_, _, run_out (by simp only [ex, h v rfl]) (by simp), k⟩
theorem rm_retB {e : E} {m : Option α} {q : α → β} {g : α → D} {ρ1 : α → Env} (h : OwK C ρ e m g ρ1) (k : ∀ v, P (q v) (.rt (g v)) (ρ1 v)) : RM (m.bind fun v => some (q v)) (run C (.cons (.ret e) ss :: bs) ρ) P := fun r' hr => by
  cases m with
  | none => cases hr
  | some v => cases hr; exact ⟨_, _, run_out (by simp only [ex, h v rfl]) (by simp), k v⟩
theorem rm_retN {r : β} (k : P r (.rt .non) ρ) : RM (some r) (run C (.cons .retN ss :: bs) ρ) P := fun r' hr => by
  cases hr; exact ⟨_, _, run_out (by simp only [ex]) (by simp), k⟩
theorem rm_brk {r : β} (k : P r .br ρ) : RM (some r) (run C (.cons .brk ss :: bs) ρ) P := fun r' hr => by
  cases hr; exact ⟨_, _, run_out (by simp only [ex]) (by simp), k⟩
theorem rm_cont {r : β} (k : P r .ct ρ) : RM (some r) (run C (.cons .cont ss :: bs) ρ) P := fun r' hr => by
  cases hr; exact ⟨_, _, run_out (by simp only [ex]) (by simp), k⟩
theorem rm_pass (k : RM S (run C (ss :: bs) ρ) P) : RM S (run C (.cons .pass ss :: bs) ρ) P := by rw [run_nx (ρ' := ρ) (by simp only [ex])]; exact k
/-! branches -/
theorem evB_of {c : E} {t : Bool} {k : Kd} (h : EvK C ρ c (some t) eB k) : evB C c ρ = some (t, ρ) := by simp only [evB, h t rfl, eB, truth]
theorem run_if {c : E} {a b : Ss} {t : Bool} {ρ' : Env} (h : evB C c ρ = some (t, ρ')) : run C (.cons (.ifs c a b) ss :: bs) ρ = run C ((if t then a else b) :: ss :: bs) ρ' := by
  have e : ex C (.ifs c a b) ρ = exs C (if t then a else b) ρ' := by cases t <;> simp only [ex, h] <;> rfl
  rw [run_cons, e]
  simp only [run]
theorem rm_if {c : E} {a b : Ss} {t : Bool} {A B : Option β} {k : Kd} (hc : EvK C ρ c (some t) eB k) (ka : t = true → RM A (run C (a :: ss :: bs) ρ) P) (kb : t = false → RM B (run C (b :: ss :: bs) ρ) P) : RM (if t then A else B) (run C (.cons (.ifs c a b) ss :: bs) ρ) P := by
  rw [run_if (evB_of hc)]
  cases t with
  | true => exact ka rfl
  | false => exact kb rfl
theorem rm_ifB {c : E} {a b : Ss} {m : Option Bool} {A B : Option β} {k : Kd} (hc : EvK C ρ c m eB k) (ka : m = some true → RM A (run C (a :: ss :: bs) ρ) P) (kb : m = some false → RM B (run C (b :: ss :: bs) ρ) P) : RM (m.bind fun t => if t then A else B) (run C (.cons (.ifs c a b) ss :: bs) ρ) P := by
  cases m with
  | none => exact rm_none
  | some t => exact rm_if hc (fun h => ka (by rw [h])) (fun h => kb (by rw [h]))
/-- both branches go on: what holds behind them is J -/
theorem rm_ifJ {c : E} {a b : Ss} {t : Bool} {A B : Option α} {S : α → Option β} {k : Kd} (J : α → Env → Prop) (hc : EvK C ρ c (some t) eB k) (ka : t = true → RM A (run C [a] ρ) (fun r fl ρ' => fl = .nx ∧ J r ρ')) (kb : t = false → RM B (run C [b] ρ) (fun r fl ρ' => fl = .nx ∧ J r ρ')) (kk : ∀ r ρ', J r ρ' → RM (S r) (run C (ss :: bs) ρ') P) :
    RM ((if t then A else B).bind S) (run C (.cons (.ifs c a b) ss :: bs) ρ) P := fun r hr => by
  rw [run_if (evB_of hc)]
  cases t with
  | true =>
    cases hA : A with
    | none => rw [hA] at hr; cases hr
    | some u =>
      obtain ⟨fl, ρ', e, rfl, hj⟩ := ka rfl u hA
      rw [hA] at hr
      rw [if_pos rfl, run_app e]
      exact kk u ρ' hj r hr
  | false =>
    cases hB : B with
    | none => rw [hB] at hr; cases hr
    | some u =>
      obtain ⟨fl, ρ', e, rfl, hj⟩ := kb rfl u hB
      rw [hB] at hr
      rw [if_neg (by decide), run_app e]
      exact kk u ρ' hj r hr
theorem rm_ifJB {c : E} {a b : Ss} {m : Option Bool} {A B : Option α} {S : α → Option β} {k : Kd} (J : α → Env → Prop) (hc : EvK C ρ c m eB k) (ka : m = some true → RM A (run C [a] ρ) (fun r fl ρ' => fl = .nx ∧ J r ρ')) (kb : m = some false → RM B (run C [b] ρ) (fun r fl ρ' => fl = .nx ∧ J r ρ')) (kk : ∀ r ρ', J r ρ' → RM (S r) (run C (ss :: bs) ρ') P) :
    RM (m.bind fun t => (if t then A else B).bind S) (run C (.cons (.ifs c a b) ss :: bs) ρ) P := by
  cases m with
  | none => exact rm_none
  | some t => exact rm_ifJ J hc (fun h => ka (by rw [h])) (fun h => kb (by rw [h])) kk
/-- some ways leave -/
def jn (r : Option (α ⊕ β)) (S : α → Option β) : Option β := match r with
  | none => none
  | some (.inl s) => S s
  | some (.inr x) => some x
theorem rm_ifX {c : E} {a b : Ss} {t : Bool} {A B : Option (α ⊕ β)} {S : α → Option β} {k : Kd} (J : α → Env → Prop) (hc : EvK C ρ c (some t) eB k)
    (ka : t = true → RM A (run C [a] ρ) (fun r fl ρ' => match r with
      | .inl j => fl = .nx ∧ J j ρ'
      | .inr x => fl ≠ .nx ∧ P x fl ρ'))
    (kb : t = false → RM B (run C [b] ρ) (fun r fl ρ' => match r with
      | .inl j => fl = .nx ∧ J j ρ'
      | .inr x => fl ≠ .nx ∧ P x fl ρ')) (kk : ∀ r ρ', J r ρ' → RM (S r) (run C (ss :: bs) ρ') P) :
    RM (jn (if t then A else B) S) (run C (.cons (.ifs c a b) ss :: bs) ρ) P := fun r hr => by
  rw [run_if (evB_of hc)]
  have key : ∀ (A : Option (α ⊕ β)) (a : Ss), RM A (run C [a] ρ) (fun r fl ρ' => match r with
      | .inl j => fl = .nx ∧ J j ρ'
      | .inr x => fl ≠ .nx ∧ P x fl ρ') → jn A S = some r → ∃ fl ρ', run C (a :: ss :: bs) ρ = some (fl, ρ') ∧ P r fl ρ' := by
    intro A a h hr
    cases A with
    | none => cases hr
    | some u =>
      obtain ⟨fl, ρ', e, hj⟩ := h u rfl
      cases u with
      | inl j =>
        obtain ⟨rfl, hj⟩ := hj
        rw [run_app e]
        exact kk j ρ' hj r hr
      | inr x =>
        cases hr
        exact ⟨fl, ρ', run_app2 e hj.1, hj.2⟩
  cases t with
  | true => exact key A a (ka rfl) hr
  | false => exact key B b (kb rfl) hr
theorem rm_ifXB {c : E} {a b : Ss} {m : Option Bool} {A B : Option (α ⊕ β)} {S : α → Option β} {k : Kd} (J : α → Env → Prop) (hc : EvK C ρ c m eB k)
    (ka : m = some true → RM A (run C [a] ρ) (fun r fl ρ' => match r with
      | .inl j => fl = .nx ∧ J j ρ'
      | .inr x => fl ≠ .nx ∧ P x fl ρ'))
    (kb : m = some false → RM B (run C [b] ρ) (fun r fl ρ' => match r with
      | .inl j => fl = .nx ∧ J j ρ'
      | .inr x => fl ≠ .nx ∧ P x fl ρ')) (kk : ∀ r ρ', J r ρ' → RM (S r) (run C (ss :: bs) ρ') P) :
    RM (m.bind fun t => jn (if t then A else B) S) (run C (.cons (.ifs c a b) ss :: bs) ρ) P := by
  cases m with
  | none => exact rm_none
  | some t => exact rm_ifX J hc (fun h => ka (by rw [h])) (fun h => kb (by rw [h])) kk
/-! loops -/
inductive Ct (σ β : Type) where
  | nx (s : σ) | br (s : σ) | rt (x : β)
def forN (step : α → σ → Option σ) : List α → σ → Option σ
  | [], s => some s
  | a :: as, s => (step a s).bind fun s' => forN step as s'
def forC (step : α → σ → Option (Ct σ β)) : List α → σ → Option (σ ⊕ β)
  | [], s => some (.inl s)
  | a :: as, s => (step a s).bind fun r => match r with
    | .nx s' => forC step as s'
    | .br s' => some (.inl s')
    | .rt x => some (.inr x)
theorem forO_N {f : α → D} {g : D → Env → Option (Fl × Env)} {step : α → σ → Option σ} {Inv : σ → Env → Prop} (hb : ∀ a s ρ', Inv s ρ' → RM (step a s) (g (f a) ρ') (fun s' fl ρ3 => (fl = .nx ∨ fl = .ct) ∧ Inv s' ρ3)) : ∀ (xs : List α) (s s' : σ) (ρ' : Env), Inv s ρ' → forN step xs s = some s' → ∃ ρ3, forO g (xs.map f) ρ' = some (.nx, ρ3) ∧ Inv s' ρ3
  | [], s, s', ρ', h, e => by cases e; exact ⟨ρ', rfl, h⟩
  | a :: xs, s, s', ρ', h, e => by
    simp only [forN] at e
    cases hs : step a s with
    | none => rw [hs] at e; cases e
    | some s1 =>
      rw [hs] at e
      obtain ⟨fl, ρ1, e1, hf, h1⟩ := hb a s ρ' h s1 hs
      obtain ⟨ρ3, e3, h3⟩ := forO_N hb xs s1 s' ρ1 h1 e
      exact ⟨ρ3, by rcases hf with rfl | rfl <;> simp only [List.map_cons, forO, e1, e3], h3⟩
theorem forO_C {f : α → D} {g : D → Env → Option (Fl × Env)} {step : α → σ → Option (Ct σ β)} {Inv : σ → Env → Prop} {PX : β → D → Env → Prop} (hb : ∀ a s ρ', Inv s ρ' → RM (step a s) (g (f a) ρ') (fun r fl ρ3 => match r with
      | .nx s' => (fl = .nx ∨ fl = .ct) ∧ Inv s' ρ3
      | .br s' => fl = .br ∧ Inv s' ρ3
      | .rt x => ∃ d, fl = .rt d ∧ PX x d ρ3)) : ∀ (xs : List α) (s : σ) (r : σ ⊕ β) (ρ' : Env), Inv s ρ' → forC step xs s = some r → ∃ fl ρ3, forO g (xs.map f) ρ' = some (fl, ρ3) ∧ (match r with
      | .inl s' => fl = .nx ∧ Inv s' ρ3
      | .inr x => ∃ d, fl = .rt d ∧ PX x d ρ3)
  | [], s, r, ρ', h, e => by cases e; exact ⟨.nx, ρ', rfl, rfl, h⟩
  | a :: xs, s, r, ρ', h, e => by
    simp only [forC] at e
    cases hs : step a s with
    | none => rw [hs] at e; cases e
    | some c =>
      rw [hs] at e
      obtain ⟨fl, ρ1, e1, h1⟩ := hb a s ρ' h c hs
      cases c with
      | nx s1 =>
        obtain ⟨hf, h1⟩ := h1
        obtain ⟨fl3, ρ3, e3, h3⟩ := forO_C hb xs s1 r ρ1 h1 e
        exact ⟨fl3, ρ3, by rcases hf with rfl | rfl <;> simp only [List.map_cons, forO, e1, e3], h3⟩
      | br s1 =>
        obtain ⟨rfl, h1⟩ := h1
        cases e
        exact ⟨.nx, ρ1, by simp only [List.map_cons, forO, e1], rfl, h1⟩
      | rt x =>
        obtain ⟨d, rfl, h1⟩ := h1
        cases e
        exact ⟨.rt d, ρ1, by simp only [List.map_cons, forO, e1], d, rfl, h1⟩
/-- the body of a for loop, its target set -/
def fbody (C : Cll) (t : Tg) (b : Ss) (d : D) (ρ : Env) : Option (Fl × Env) := match asgT t d ρ with
  | some ρ3 => exs C b ρ3
  | none => none
theorem ex_for {t : Tg} {it : E} {b : Ss} {ds : List D} {k : Kd} {ρ1 ρ4 : Env} {fl : Fl} (hw : walk (ev C it ρ) = some (ds, k, ρ1)) (h : forO (fbody C t b) ds (lock k ρ1) = some (fl, ρ4)) : ex C (.for_ t it b) ρ = some (fl, unlock k ρ1 ρ4) := by
  simp only [ex, hw]
  split
  · rename_i hh
    have := hh.symm.trans h
    simp only [Option.some.injEq, Prod.mk.injEq] at this
    obtain ⟨rfl, rfl⟩ := this
    rfl
  · rename_i hh
    have := hh.symm.trans h
    cases this
theorem rm_body {t : Tg} {b : Ss} {d : D} {ρ2 : Env} (ht : asgT t d ρ = some ρ2) (h : RM S (run C [b] ρ2) P) : RM S (fbody C t b d ρ) P := by
  unfold fbody; rw [ht]; rw [run_one] at h; exact h
theorem rm_forWN {it : E} {t : Tg} {b : Ss} {xs : List α} {f : α → D} {k : Kd} {ρ1 : Env} {step : α → σ → Option σ} {s0 : σ} {S : σ → Option β} (Inv : σ → Env → Prop) (hw : walk (ev C it ρ) = some (xs.map f, k, ρ1)) (h0 : Inv s0 (lock k ρ1))
    (hb : ∀ a s ρ', Inv s ρ' → RM (step a s) (fbody C t b (f a) ρ') (fun s' fl ρ3 => (fl = .nx ∨ fl = .ct) ∧ Inv s' ρ3)) (kk : ∀ s ρ', Inv s ρ' → RM (S s) (run C (ss :: bs) (unlock k ρ1 ρ')) P) :
    RM ((forN step xs s0).bind S) (run C (.cons (.for_ t it b) ss :: bs) ρ) P := fun r hr => by
  cases hf : forN step xs s0 with
  | none => rw [hf] at hr; cases hr
  | some s =>
    rw [hf] at hr
    obtain ⟨ρ3, e3, h3⟩ := forO_N hb xs s0 s _ h0 hf
    rw [run_nx (ex_for hw e3)]
    exact kk s ρ3 h3 r hr
theorem rm_for {it : E} {t : Tg} {b : Ss} {xs : List α} {f : α → D} {k : Kd} {step : α → σ → Option σ} {s0 : σ} {S : σ → Option β} (Inv : σ → Env → Prop) (hw : WkK C ρ it (some xs) f k) (h0 : Inv s0 (lock k ρ))
    (hb : ∀ a s ρ', Inv s ρ' → RM (step a s) (fbody C t b (f a) ρ') (fun s' fl ρ3 => (fl = .nx ∨ fl = .ct) ∧ Inv s' ρ3)) (kk : ∀ s ρ', Inv s ρ' → RM (S s) (run C (ss :: bs) (unlock k ρ ρ')) P) :
    RM ((forN step xs s0).bind S) (run C (.cons (.for_ t it b) ss :: bs) ρ) P := rm_forWN Inv (hw xs rfl) h0 hb kk
theorem rm_forB {it : E} {t : Tg} {b : Ss} {m : Option (List α)} {f : α → D} {k : Kd} {step : α → σ → Option σ} {s0 : σ} {S : σ → Option β} (Inv : σ → Env → Prop) (hw : WkK C ρ it m f k) (h0 : Inv s0 (lock k ρ))
    (hb : ∀ a s ρ', Inv s ρ' → RM (step a s) (fbody C t b (f a) ρ') (fun s' fl ρ3 => (fl = .nx ∨ fl = .ct) ∧ Inv s' ρ3)) (kk : ∀ s ρ', Inv s ρ' → RM (S s) (run C (ss :: bs) (unlock k ρ ρ')) P) :
    RM (m.bind fun xs => (forN step xs s0).bind S) (run C (.cons (.for_ t it b) ss :: bs) ρ) P := by
  cases m with
  | none => exact rm_none
  | some xs => exact rm_for Inv hw h0 hb kk
theorem rm_forWC {it : E} {t : Tg} {b : Ss} {xs : List α} {f : α → D} {k : Kd} {ρ1 : Env} {step : α → σ → Option (Ct σ β)} {s0 : σ} {S : σ → Option β} (Inv : σ → Env → Prop) (hw : walk (ev C it ρ) = some (xs.map f, k, ρ1)) (h0 : Inv s0 (lock k ρ1))
    (hb : ∀ a s ρ', Inv s ρ' → RM (step a s) (fbody C t b (f a) ρ') (fun r fl ρ3 => match r with
      | .nx s' => (fl = .nx ∨ fl = .ct) ∧ Inv s' ρ3
      | .br s' => fl = .br ∧ Inv s' ρ3
      | .rt x => ∃ d, fl = .rt d ∧ P x (.rt d) (unlock k ρ1 ρ3))) (kk : ∀ s ρ', Inv s ρ' → RM (S s) (run C (ss :: bs) (unlock k ρ1 ρ')) P) :
    RM (jn (forC step xs s0) S) (run C (.cons (.for_ t it b) ss :: bs) ρ) P := fun r hr => by
  cases hf : forC step xs s0 with
  | none => rw [hf] at hr; cases hr
  | some s =>
    rw [hf] at hr
    obtain ⟨fl, ρ3, e3, h3⟩ := forO_C (PX := fun x d ρ3 => P x (.rt d) (unlock k ρ1 ρ3)) hb xs s0 s _ h0 hf
    cases s with
    | inl s =>
      obtain ⟨rfl, h3⟩ := h3
      rw [run_nx (ex_for hw e3)]
      exact kk s ρ3 h3 r hr
    | inr x =>
      obtain ⟨d, rfl, h3⟩ := h3
      cases hr
      exact ⟨.rt d, _, run_out (ex_for hw e3) (by simp), h3⟩
theorem rm_forC {it : E} {t : Tg} {b : Ss} {xs : List α} {f : α → D} {k : Kd} {step : α → σ → Option (Ct σ β)} {s0 : σ} {S : σ → Option β} (Inv : σ → Env → Prop) (hw : WkK C ρ it (some xs) f k) (h0 : Inv s0 (lock k ρ))
    (hb : ∀ a s ρ', Inv s ρ' → RM (step a s) (fbody C t b (f a) ρ') (fun r fl ρ3 => match r with
      | .nx s' => (fl = .nx ∨ fl = .ct) ∧ Inv s' ρ3
      | .br s' => fl = .br ∧ Inv s' ρ3
      | .rt x => ∃ d, fl = .rt d ∧ P x (.rt d) (unlock k ρ ρ3))) (kk : ∀ s ρ', Inv s ρ' → RM (S s) (run C (ss :: bs) (unlock k ρ ρ')) P) :
    RM (jn (forC step xs s0) S) (run C (.cons (.for_ t it b) ss :: bs) ρ) P := rm_forWC Inv (hw xs rfl) h0 hb kk
theorem rm_forCB {it : E} {t : Tg} {b : Ss} {m : Option (List α)} {f : α → D} {k : Kd} {step : α → σ → Option (Ct σ β)} {s0 : σ} {S : σ → Option β} (Inv : σ → Env → Prop) (hw : WkK C ρ it m f k) (h0 : Inv s0 (lock k ρ))
    (hb : ∀ a s ρ', Inv s ρ' → RM (step a s) (fbody C t b (f a) ρ') (fun r fl ρ3 => match r with
      | .nx s' => (fl = .nx ∨ fl = .ct) ∧ Inv s' ρ3
      | .br s' => fl = .br ∧ Inv s' ρ3
      | .rt x => ∃ d, fl = .rt d ∧ P x (.rt d) (unlock k ρ ρ3))) (kk : ∀ s ρ', Inv s ρ' → RM (S s) (run C (ss :: bs) (unlock k ρ ρ')) P) :
    RM (m.bind fun xs => jn (forC step xs s0) S) (run C (.cons (.for_ t it b) ss :: bs) ρ) P := by
  cases m with
  | none => exact rm_none
  | some xs => exact rm_forC Inv hw h0 hb kk
/-- while -/
def whN (c : σ → Option Bool) (step : σ → Option σ) : Nat → σ → Option σ
  | 0, _ => none
  | n + 1, s => (c s).bind fun t => if t then (step s).bind fun s' => whN c step n s' else some s
def whC (c : σ → Option Bool) (step : σ → Option (Ct σ β)) : Nat → σ → Option (σ ⊕ β)
  | 0, _ => none
  | n + 1, s => (c s).bind fun t => if t then (step s).bind fun r => (match r with
    | .nx s' => whC c step n s'
    | .br s' => some (.inl s')
    | .rt x => some (.inr x)) else some (.inl s)
theorem whO_C {c : E} {b : Ss} {cs : σ → Option Bool} {step : σ → Option (Ct σ β)} {Inv : σ → Env → Prop} {PX : β → D → Env → Prop} (hc : ∀ s ρ', Inv s ρ' → ∃ k, EvK C ρ' c (cs s) eB k) (hb : ∀ s ρ', Inv s ρ' → cs s = some true → RM (step s) (run C [b] ρ') (fun r fl ρ3 => match r with
      | .nx s' => (fl = .nx ∨ fl = .ct) ∧ Inv s' ρ3
      | .br s' => fl = .br ∧ Inv s' ρ3
      | .rt x => ∃ d, fl = .rt d ∧ PX x d ρ3)) : ∀ (n : Nat) (s : σ) (r : σ ⊕ β) (ρ' : Env), Inv s ρ' → whC cs step n s = some r → ∃ fl ρ3, whileO (evB C c) (exs C b) n ρ' = some (fl, ρ3) ∧ (match r with
      | .inl s' => fl = .nx ∧ Inv s' ρ3
      | .inr x => ∃ d, fl = .rt d ∧ PX x d ρ3)
  | 0, s, r, ρ', h, e => by cases e
  | n + 1, s, r, ρ', h, e => by
    simp only [whC] at e
    cases hs : cs s with
    | none => rw [hs] at e; cases e
    | some t =>
      rw [hs] at e
      obtain ⟨kd, hk⟩ := hc s ρ' h
      rw [hs] at hk
      have hv := evB_of hk
      cases t with
      | false =>
        cases e
        exact ⟨.nx, ρ', by simp only [whileO, hv], rfl, h⟩
      | true =>
        have e : ((step s).bind fun r => (match r with
          | .nx s' => whC cs step n s'
          | .br s' => some (.inl s')
          | .rt x => some (.inr x))) = some r := e
        cases hst : step s with
        | none => rw [hst] at e; cases e
        | some c1 =>
          rw [hst] at e
          obtain ⟨fl, ρ1, e1, h1⟩ := hb s ρ' h hs c1 hst
          rw [run_one] at e1
          cases c1 with
          | nx s1 =>
            obtain ⟨hf, h1⟩ := h1
            obtain ⟨fl3, ρ3, e3, h3⟩ := whO_C hc hb n s1 r ρ1 h1 e
            exact ⟨fl3, ρ3, by rcases hf with rfl | rfl <;> simp only [whileO, hv, e1, e3], h3⟩
          | br s1 =>
            obtain ⟨rfl, h1⟩ := h1
            cases e
            exact ⟨.nx, ρ1, by simp only [whileO, hv, e1], rfl, h1⟩
          | rt x =>
            obtain ⟨d, rfl, h1⟩ := h1
            cases e
            exact ⟨.rt d, ρ1, by simp only [whileO, hv, e1], d, rfl, h1⟩
theorem rm_whC {c : E} {b : Ss} {cs : σ → Option Bool} {step : σ → Option (Ct σ β)} {s0 : σ} {S : σ → Option β} (Inv : σ → Env → Prop) (h0 : Inv s0 ρ) (hc : ∀ s ρ', Inv s ρ' → ∃ k, EvK C ρ' c (cs s) eB k) (hb : ∀ s ρ', Inv s ρ' → cs s = some true → RM (step s) (run C [b] ρ') (fun r fl ρ3 => match r with
      | .nx s' => (fl = .nx ∨ fl = .ct) ∧ Inv s' ρ3
      | .br s' => fl = .br ∧ Inv s' ρ3
      | .rt x => ∃ d, fl = .rt d ∧ P x (.rt d) ρ3)) (kk : ∀ s ρ', Inv s ρ' → RM (S s) (run C (ss :: bs) ρ') P) :
    RM (jn (whC cs step turns s0) S) (run C (.cons (.while_ c b) ss :: bs) ρ) P := fun r hr => by
  cases hf : whC cs step turns s0 with
  | none => rw [hf] at hr; cases hr
  | some s =>
    rw [hf] at hr
    obtain ⟨fl, ρ3, e3, h3⟩ := whO_C (PX := fun x d ρ3 => P x (.rt d) ρ3) hc hb turns s0 s _ h0 hf
    cases s with
    | inl s =>
      obtain ⟨rfl, h3⟩ := h3
      rw [run_nx (by simp only [ex]; exact e3)]
      exact kk s ρ3 h3 r hr
    | inr x =>
      obtain ⟨d, rfl, h3⟩ := h3
      cases hr
      exact ⟨.rt d, _, run_out (by simp only [ex]; exact e3) (by simp), h3⟩
theorem whC_N {cs : σ → Option Bool} {step : σ → Option σ} : ∀ (n : Nat) (s : σ), whC (β := β) cs (fun s => (step s).bind fun s' => some (.nx s')) n s = (whN cs step n s).bind fun s => some (.inl s)
  | 0, s => rfl
  | n + 1, s => by
    simp only [whC, whN]
    cases cs s with
    | none => rfl
    | some t =>
      cases t with
      | false => rfl
      | true =>
        cases hs : step s with
        | none => simp [hs]
        | some s1 => simp [hs, whC_N n s1]
theorem rm_wh {c : E} {b : Ss} {cs : σ → Option Bool} {step : σ → Option σ} {s0 : σ} {S : σ → Option β} (Inv : σ → Env → Prop) (h0 : Inv s0 ρ) (hc : ∀ s ρ', Inv s ρ' → ∃ k, EvK C ρ' c (cs s) eB k) (hb : ∀ s ρ', Inv s ρ' → cs s = some true → RM (step s) (run C [b] ρ') (fun s' fl ρ3 => (fl = .nx ∨ fl = .ct) ∧ Inv s' ρ3)) (kk : ∀ s ρ', Inv s ρ' → RM (S s) (run C (ss :: bs) ρ') P) :
    RM ((whN cs step turns s0).bind S) (run C (.cons (.while_ c b) ss :: bs) ρ) P := by
  have h := rm_whC (β := β) (P := P) (step := fun s => (step s).bind fun s' => some (.nx s')) (S := S) Inv h0 hc (fun s ρ' hi ht r hr => by
    cases hs : step s with
    | none => simp [hs] at hr
    | some s1 =>
      obtain ⟨fl, ρ3, e, hp⟩ := hb s ρ' hi ht s1 hs
      simp only [hs, Option.bind_some, Option.some.injEq] at hr
      subst hr
      exact ⟨fl, ρ3, e, hp⟩) kk
  rw [whC_N] at h
  have e : jn ((whN cs step turns s0).bind fun s => some (.inl s)) S = (whN cs step turns s0).bind S := by cases whN cs step turns s0 <;> rfl
  rwa [e] at h
/-! ### stores -/
@[irreducible] noncomputable def pushG (xs : List α) (v : α) : Option (List α) := @ite _ (xs.length + 1 < lim) (Classical.propDecidable _) (some (xs ++ [v])) none
theorem ex_append {i : Nat} {e : E} {f : α → D} {xs : List α} {v : α} {ρ1 : Env} {ys : List α} (hi : slotD ρ i = some (eL true f xs)) (h : evD C e ρ = some (f v, ρ1)) (h1 : ρ1[i]? = some (.ow (eL true f xs))) (hy : pushG xs v = some ys) :
    ex C (.expr (.mm .append (.var i) (.cons e .nil))) ρ = some (.nx, ρ1.set i (.ow (eL true f ys))) := by
  unfold pushG at hy
  split at hy
  · rename_i hl
    cases hy
    have hp : pers (eL true f xs) = false := rfl
    unfold evD at h
    split at h
    · rename_i o ho
      have hl2 : (xs.map f).length + 1 < lim := by simpa using hl
      simp only [eL] at hi hp h1 ⊢
      simp only [ex, ev, rd, hi, hp, Bool.false_eq_true, if_false, lockD, Kd.deep, evs, ho, h, atView, unlockD, h1, getP, samK, if_true, mmo, hl2, modP, List.map_append, List.map_cons, List.map_nil]
    · cases h
  · cases hy
theorem rm_append {i : Nat} {e : E} {f : α → D} {xs : List α} {v : α} {ρ1 : α → Env} {S : List α → Option β} {ρ2 : List α → Env} (h : OwK C ρ e (some v) f ρ1) (hi : slotD ρ i = some (eL true f xs)) (h1 : (ρ1 v)[i]? = some (.ow (eL true f xs))) (h2 : ∀ ys, (ρ1 v).set i (.ow (eL true f ys)) = ρ2 ys) (k : ∀ ys, RM (S ys) (run C (ss :: bs) (ρ2 ys)) P) :
    RM ((pushG xs v).bind S) (run C (.cons (.expr (.mm .append (.var i) (.cons e .nil))) ss :: bs) ρ) P := fun r hr => by
  cases hp : pushG xs v with
  | none => rw [hp] at hr; cases hr
  | some ys =>
    rw [hp] at hr
    rw [run_nx (ex_append hi (h v rfl) h1 hp), h2]
    exact k ys r hr
theorem rm_appendB {i : Nat} {e : E} {f : α → D} {xs : List α} {m : Option α} {ρ1 : α → Env} {S : List α → Option β} {ρ2 : α → List α → Env} (h : OwK C ρ e m f ρ1) (hi : slotD ρ i = some (eL true f xs)) (h1 : ∀ v, (ρ1 v)[i]? = some (.ow (eL true f xs))) (h2 : ∀ v ys, (ρ1 v).set i (.ow (eL true f ys)) = ρ2 v ys) (k : ∀ v ys, RM (S ys) (run C (ss :: bs) (ρ2 v ys)) P) :
    RM (m.bind fun v => (pushG xs v).bind S) (run C (.cons (.expr (.mm .append (.var i) (.cons e .nil))) ss :: bs) ρ) P := by
  cases m with
  | none => exact rm_none
  | some v => exact rm_append h hi (h1 v) (h2 v) (k v)
@[irreducible] noncomputable def putG [DecidableEq κ] (ks : List (κ × β)) (k : κ) (v : β) : Option (List (κ × β)) := @ite _ (ks.length < lim) (Classical.propDecidable _) (some (dput ks k v)) none
theorem ex_put [DecidableEq κ] {i : Nat} {e ke : E} {f : κ → D} {g : γ → D} {ks ys : List (κ × γ)} {k : κ} {v : γ} {ρ1 : Env} {k2 : Kd} [Ky f] [Eqv f] (h : evD C e ρ = some (g v, ρ1)) (h1 : ρ1[i]? = some (.ow (eDi true f g ks))) (hk : EvK C ρ1 ke (some k) f k2) (hy : putG ks k v = some ys) :
    ex C (.sto (.var i) ke e) ρ = some (.nx, ρ1.set i (.ow (eDi true f g ys))) := by
  unfold putG at hy
  split at hy
  · rename_i hl
    cases hy
    have hs : slotD ρ1 i = some (eDi true f g ks) := by simp only [slotD, h1]
    have hp : pers (eDi true f g ks) = false := rfl
    have hl2 : (ks.map fun p => (f p.1, g p.2)).length < lim := by simpa using hl
    simp only [eDi] at hs hp h1 ⊢
    simp only [ex, h, ev, rd, hs, hp, Bool.false_eq_true, if_false, lockD, Kd.deep, hk k rfl, unlockD, atView, h1, getP, stepOf, kFit_map, if_true, setS, hl2, decide_true, Bool.and_self, put_map, Option.map_some, modP]
  · cases hy
theorem rm_put [DecidableEq κ] {i : Nat} {e ke : E} {f : κ → D} {g : γ → D} {ks : List (κ × γ)} {k : κ} {v : γ} {ρ1 : γ → Env} {k2 : Kd} {S : List (κ × γ) → Option β} {ρ2 : List (κ × γ) → Env} [Ky f] [Eqv f] (h : OwK C ρ e (some v) g ρ1) (h1 : (ρ1 v)[i]? = some (.ow (eDi true f g ks))) (hk : EvK C (ρ1 v) ke (some k) f k2) (h2 : ∀ ys, (ρ1 v).set i (.ow (eDi true f g ys)) = ρ2 ys) (kk : ∀ ys, RM (S ys) (run C (ss :: bs) (ρ2 ys)) P) :
    RM ((putG ks k v).bind S) (run C (.cons (.sto (.var i) ke e) ss :: bs) ρ) P := fun r hr => by
  cases hp : putG ks k v with
  | none => rw [hp] at hr; cases hr
  | some ys =>
    rw [hp] at hr
    rw [run_nx (ex_put (h v rfl) h1 hk hp), h2]
    exact kk ys r hr
theorem rm_putB [DecidableEq κ] {i : Nat} {e ke : E} {f : κ → D} {g : γ → D} {ks : List (κ × γ)} {m : Option κ} {v : Option γ} {ρ1 : γ → Env} {k2 : Kd} {S : List (κ × γ) → Option β} {ρ2 : γ → List (κ × γ) → Env} [Ky f] [Eqv f] (h : OwK C ρ e v g ρ1) (h1 : ∀ v, (ρ1 v)[i]? = some (.ow (eDi true f g ks))) (hk : ∀ v, EvK C (ρ1 v) ke m f k2) (h2 : ∀ v ys, (ρ1 v).set i (.ow (eDi true f g ys)) = ρ2 v ys) (kk : ∀ v ys, RM (S ys) (run C (ss :: bs) (ρ2 v ys)) P) :
    RM (v.bind fun v => m.bind fun k => (putG ks k v).bind S) (run C (.cons (.sto (.var i) ke e) ss :: bs) ρ) P := by
  cases v with
  | none => exact rm_none
  | some v => cases m with
    | none => exact rm_none
    | some k => exact rm_put h (h1 v) (hk v) (h2 v) (kk v)
/-- x op= e of numbers -/
theorem rm_augI {i : Nat} {op : Bop} {e : E} {u v : Int} {w : Int} {k : Kd} {ρ2 : Env} (hi : slotD ρ i = some (eI u)) (h : EvK C ρ e (some v) eI k) (ho : augOp op (eI u) (eI v) = some (eI w)) (ht : asgT (.nm i) (eI w) ρ = some ρ2) (kk : RM S (run C (ss :: bs) ρ2) P) :
    RM S (run C (.cons (.aug i op e) ss :: bs) ρ) P := by
  rw [run_nx (ρ' := ρ2) (by
    have hp : pers (eI u) = true := rfl
    simp only [ex, rd, hi, hp, if_true, lock_val, h v rfl, ho, unlock_val, ht])]
  exact kk
theorem rm_augIB {i : Nat} {op : Bop} {e : E} {u : Int} {m : Option Int} {w : Int → Int} {k : Kd} {ρ2 : Int → Env} {S : Int → Option β} (hi : slotD ρ i = some (eI u)) (h : EvK C ρ e m eI k) (ho : ∀ v, augOp op (eI u) (eI v) = some (eI (w v))) (ht : ∀ v, asgT (.nm i) (eI (w v)) ρ = some (ρ2 v)) (kk : ∀ v, RM (S v) (run C (ss :: bs) (ρ2 v)) P) :
    RM (m.bind S) (run C (.cons (.aug i op e) ss :: bs) ρ) P := by
  cases m with
  | none => exact rm_none
  | some v => exact rm_augI hi h (ho v) (ht v) (kk v)
end
end SH

set_option autoImplicit false
set_option linter.all false
set_option maxRecDepth 100000
/-! terms with effects -/
namespace SH
open LP PB
section
variable {α β γ δ ε κ σ τ : Type} {C : Cll} {ρ : Env}
variable {S : Option β} {P : β → Fl → Env → Prop} {ss : Ss} {bs : List Ss}
theorem wx_mono {x : Option τ} {K K' : Option β → τ → Prop} (h : WX S x K) (hk : ∀ S o, K S o → K' S o) : WX S x K' := fun r hr => by
  obtain ⟨S', o, h1, h2, h3⟩ := h r hr
  exact ⟨S', o, h1, h2, hk _ _ h3⟩
/-- the same, the parts apart -/
def W2 (S : Option β) (x : Option (σ × τ)) (K : Option β → σ → τ → Prop) : Prop := WX S x (fun S p => K S p.1 p.2)
def W3 (S : Option β) (x : Option (σ × τ × ε)) (K : Option β → σ → τ → ε → Prop) : Prop := WX S x (fun S p => K S p.1 p.2.1 p.2.2)
def WE (S : Option β) (x : Option Out) (K : Option β → D → Kd → Env → Prop) : Prop := WX S x (fun S o => K S o.d o.k o.ρ)
theorem W2.to {x : Option (σ × τ)} {K : Option β → σ → τ → Prop} (h : W2 S x K) {r : β} (hr : S = some r) : ∃ S' a b, S' = some r ∧ x = some (a, b) ∧ K S' a b := by
  obtain ⟨S', ⟨a, b⟩, h1, h2, h3⟩ := h r hr
  exact ⟨S', a, b, h1, h2, h3⟩
theorem W3.to {x : Option (σ × τ × ε)} {K : Option β → σ → τ → ε → Prop} (h : W3 S x K) {r : β} (hr : S = some r) : ∃ S' a b c, S' = some r ∧ x = some (a, b, c) ∧ K S' a b c := by
  obtain ⟨S', ⟨a, b, c⟩, h1, h2, h3⟩ := h r hr
  exact ⟨S', a, b, c, h1, h2, h3⟩
theorem WE.to {x : Option Out} {K : Option β → D → Kd → Env → Prop} (h : WE S x K) {r : β} (hr : S = some r) : ∃ S' d k ρ', S' = some r ∧ x = some ⟨d, k, ρ'⟩ ∧ K S' d k ρ' := by
  obtain ⟨S', ⟨a, b, c⟩, h1, h2, h3⟩ := h r hr
  exact ⟨S', a, b, c, h1, h2, h3⟩
variable {KE : Option β → D → Kd → Env → Prop}
theorem we_of {x : Option Out} {d : D} {k : Kd} {ρ' : Env} (h : x = some ⟨d, k, ρ'⟩) (hk : KE S d k ρ') : WE S x KE := wx_of h hk
theorem we_p {e : E} {v : α} {f : α → D} {k : Kd} (h : EvK C ρ e (some v) f k) (hk : KE S (f v) k ρ) : WE S (ev C e ρ) KE := wx_of (h v rfl) hk
theorem we_pB {e : E} {m : Option α} {S : α → Option β} {f : α → D} {k : Kd} (h : EvK C ρ e m f k) (hk : ∀ v, KE (S v) (f v) k ρ) : WE (m.bind S) (ev C e ρ) KE := wx_op h hk
theorem we_bin {op : Bop} {a b : E} (h : WE S (ev C a ρ) (fun S1 d1 k1 ρ1 => k1 = .val ∧ WE S1 (ev C b ρ1) (fun S2 d2 _ ρ2 => WX S2 (bop op d1 d2) (fun S3 d => KE S3 d .val ρ2)))) : WE S (ev C (.bin op a b) ρ) KE := fun r hr => by
  obtain ⟨S1, d1, k1, ρ1, h1, h2, h3, h4⟩ := h.to hr
  subst h3
  obtain ⟨S2, d2, k2, ρ2, h5, h6, h7⟩ := h4.to h1
  obtain ⟨S3, d3, h8, h9, h10⟩ := h7 r h5
  exact ⟨S3, ⟨d3, .val, ρ2⟩, h8, by simp only [ev, h2, lock_val, h6, h9, unlock_val], h10⟩
theorem we_cmp {op : Cop} {a b : E} (h : WE S (ev C a ρ) (fun S1 d1 k1 ρ1 => k1 = .val ∧ WE S1 (ev C b ρ1) (fun S2 d2 _ ρ2 => ∃ d, cop op d1 d2 = some d ∧ KE S2 (.bl d) .val ρ2))) : WE S (ev C (.cmp op a b) ρ) KE := fun r hr => by
  obtain ⟨S1, d1, k1, ρ1, h1, h2, h3, h4⟩ := h.to hr
  subst h3
  obtain ⟨S2, d2, k2, ρ2, h5, h6, d, h9, h10⟩ := h4.to h1
  exact ⟨S2, ⟨.bl d, .val, ρ2⟩, h5, by simp only [ev, h2, lock_val, h6, h9, unlock_val], h10⟩
theorem we_not {a : E} (h : WE S (ev C a ρ) (fun S1 d1 _ ρ1 => ∃ t, d1 = eB t ∧ KE S1 (eB (!t)) .val ρ1)) : WE S (ev C (.not_ a) ρ) KE := fun r hr => by
  obtain ⟨S1, d1, k1, ρ1, h1, h2, t, h3, h4⟩ := h.to hr
  subst h3
  exact ⟨S1, ⟨eB (!t), .val, ρ1⟩, h1, by simp only [ev, h2, eB, truth], h4⟩
def mkF (ds : List D) : Option D := if noDL ds then mkT (frzL ds) else none
theorem we_tup {es : Es} (h : W2 S (evs C es ρ) (fun S1 ds ρ1 => ∃ d, mkF ds = some d ∧ KE S1 d .val ρ1)) : WE S (ev C (.tup es) ρ) KE := fun r hr => by
  obtain ⟨S1, ds, ρ1, h1, h2, d, h3, h4⟩ := h.to hr
  unfold mkF at h3
  split at h3
  · rename_i hn
    exact ⟨S1, ⟨d, .val, ρ1⟩, h1, by simp only [ev, h2, h3, hn, if_true], h4⟩
  · cases h3
theorem we_lst {es : Es} (h : W2 S (evs C es ρ) (fun S1 ds ρ1 => ∃ d, mkL ds = some d ∧ KE S1 d .val ρ1)) : WE S (ev C (.lst es) ρ) KE := fun r hr => by
  obtain ⟨S1, ds, ρ1, h1, h2, d, h3, h4⟩ := h.to hr
  exact ⟨S1, ⟨d, .val, ρ1⟩, h1, by simp only [ev, h2, h3], h4⟩
theorem ws_nil {K : Option β → List D → Env → Prop} (k : K S [] ρ) : W2 S (evs C .nil ρ) K := wx_of rfl k
theorem ws_cons {e : E} {es : Es} {K : Option β → List D → Env → Prop} (h : WE S (ev C e ρ) (fun S1 d k ρ1 => W2 S1 (own ⟨d, k, ρ1⟩) (fun S2 d2 ρ2 => W2 S2 (evs C es ρ2) (fun S3 ds ρ3 => K S3 (d2 :: ds) ρ3)))) : W2 S (evs C (.cons e es) ρ) K := fun r hr => by
  obtain ⟨S1, d, k, ρ1, h1, h2, h3⟩ := h.to hr
  obtain ⟨S2, d2, ρ2, h4, h5, h6⟩ := h3.to h1
  obtain ⟨S3, ds, ρ3, h7, h8, h9⟩ := h6.to h4
  exact ⟨S3, (d2 :: ds, ρ3), h7, by simp only [evs, h2, h5, h8], h9⟩
theorem wo_val {d : D} {K : Option β → D → Env → Prop} (k : K S d ρ) : W2 S (own ⟨d, .val, ρ⟩) K := wx_of rfl k
theorem wv_nil {K : Option β → List D → Env → Prop} (k : K S [] ρ) : W2 S (evV C .nil ρ) K := wx_of rfl k
theorem wv_cons {e : E} {es : Es} {K : Option β → List D → Env → Prop} (h : WE S (ev C e ρ) (fun S1 d k ρ1 => k = .val ∧ W2 S1 (evV C es ρ1) (fun S3 ds ρ3 => K S3 (d :: ds) ρ3))) : W2 S (evV C (.cons e es) ρ) K := fun r hr => by
  obtain ⟨S1, d, k, ρ1, h1, h2, h3, h6⟩ := h.to hr
  subst h3
  obtain ⟨S3, ds, ρ3, h7, h8, h9⟩ := h6.to h1
  exact ⟨S3, (d :: ds, ρ3), h7, by simp only [evV, h2, lock_val, h8, unlock_val], h9⟩
theorem we_blt {b : Blt} {es : Es} (h : W2 S (evV C es ρ) (fun S1 ds ρ1 => WX S1 (blt b ds) (fun S2 d => KE S2 d .val ρ1))) : WE S (ev C (.blt b es) ρ) KE := fun r hr => by
  obtain ⟨S1, ds, ρ1, h1, h2, h3⟩ := h.to hr
  obtain ⟨S2, d, h4, h5, h6⟩ := h3 r h1
  exact ⟨S2, ⟨d, .val, ρ1⟩, h4, by simp only [ev, h2, h5], h6⟩
/-- an index with effects, into what cannot be exchanged -/
theorem we_idx {a b : E} (h : WE S (ev C a ρ) (fun S1 d1 k1 ρ1 => k1 = .val ∧ WE S1 (ev C b ρ1) (fun S2 d2 _ ρ2 => WX S2 ((stepOf d1 d2).bind fun s => getS d1 s) (fun S3 d => KE S3 d .val ρ2)))) : WE S (ev C (.idx a b) ρ) KE := fun r hr => by
  obtain ⟨S1, d1, k1, ρ1, h1, h2, h3, h4⟩ := h.to hr
  subst h3
  obtain ⟨S2, d2, k2, ρ2, h5, h6, h7⟩ := h4.to h1
  obtain ⟨S3, d3, h8, h9, h10⟩ := h7 r h5
  refine ⟨S3, ⟨d3, .val, ρ2⟩, h8, ?_, h10⟩
  cases hs : stepOf d1 d2 with
  | none => rw [hs] at h9; cases h9
  | some s =>
    rw [hs] at h9
    have h9 : getS d1 s = some d3 := h9
    cases d1 with
    | scr ns => simp [stepOf] at hs
    | str x => simp [stepOf] at hs
    | _ => simp only [ev, h2, lock_val, h6, hs, subOut, h9, unlock_val]
theorem ix_sq {c : List α → D} {f : α → D} [Sq c f] {xs : List α} {i : Int} : ∀ a, getI xs i = some a → ((stepOf (c xs) (eI i)).bind fun s => getS (c xs) s) = some (f a) := fun a h => by
  obtain ⟨n, h1, h2⟩ := sq_step (c := c) h
  unfold eI
  rw [h1]; exact h2
theorem wa_nil {K : Option β → List Ar → Env → Prop} (k : K S [] ρ) : W2 S (evAr C .nil ρ) K := wx_of rfl k
theorem wa_ref {i : Nat} {as : As} {d : D} {K : Option β → List Ar → Env → Prop} (hd : slotD ρ i = some d) (h : W2 S (evAr C as ρ) (fun S1 ar ρ1 => K S1 (.pl i [] :: ar) ρ1)) : W2 S (evAr C (.ref i as) ρ) K := fun r hr => by
  obtain ⟨S3, q1, q2, h7, h8, h9⟩ := h.to hr
  exact ⟨S3, (.pl i [] :: q1, q2), h7, by simp only [evAr, hd, h8], h9⟩
theorem wa_cons {e : E} {as : As} {K : Option β → List Ar → Env → Prop} (h : WE S (ev C e ρ) (fun S1 d k ρ1 => W2 S1 (own ⟨d, k, ρ1⟩) (fun S2 d2 ρ2 => W2 S2 (evAr C as ρ2) (fun S3 ar ρ3 => K S3 (.val d2 :: ar) ρ3)))) : W2 S (evAr C (.cons e as) ρ) K := fun r hr => by
  obtain ⟨S1, d, k, ρ1, h1, h2, h3⟩ := h.to hr
  obtain ⟨S2, d2, ρ2, h4, h5, h6⟩ := h3.to h1
  obtain ⟨S3, ar, ρ3, h7, h8, h9⟩ := h6.to h4
  exact ⟨S3, (.val d2 :: ar, ρ3), h7, by simp only [evAr, h2, h5, h8], h9⟩
theorem we_call {i : Nat} {as : As} (h : W2 S (evAr C as ρ) (fun S1 ar ρ1 => ∃ dd, arsD ρ1 ar = some dd ∧ arOk ρ1 ar dd [] = true ∧ W2 S1 (C i dd) (fun S2 d ss => ∃ ρ', arBack ρ1 ar dd ss = some ρ' ∧ KE S2 d .val ρ'))) : WE S (ev C (.call i as) ρ) KE := fun r hr => by
  obtain ⟨S1, q1, q2, h1, h2, dd, h3, h4, h5⟩ := h.to hr
  obtain ⟨S2, d, s, h6, h7, ρ', h8, h9⟩ := h5.to h1
  exact ⟨S2, ⟨d, .val, ρ'⟩, h6, by simp only [ev, h2, runCall, h3, h4, if_true, h7, h8], h9⟩
/-- a call with effects: its answer, and the parameters' slots behind it -/
def CalE (C : Cll) (i : Nat) (ds : List D) (m : Option α) (f : α → D) (B : α → List Sl → Prop) : Prop := ∀ v, m = some v → ∃ ss, C i ds = some (f v, ss) ∧ B v ss
theorem wx_cal {i : Nat} {ds : List D} {m : Option α} {S : α → Option β} {f : α → D} {B : α → List Sl → Prop} {K : Option β → D → List Sl → Prop} (hc : CalE C i ds m f B) (k : ∀ v ss, B v ss → K (S v) (f v) ss) : W2 (m.bind S) (C i ds) K := fun r hr => by
  cases m with
  | none => cases hr
  | some v =>
    obtain ⟨ss, h1, h2⟩ := hc v rfl
    exact ⟨S v, (f v, ss), hr, h1, k v ss h2⟩
theorem ok_nil {is : List Nat} : arOk ρ [] [] is = true := rfl
theorem ok_val {d d2 : D} {as : List Ar} {ds : List D} {is : List Nat} (h : arOk ρ as ds is = true) : arOk ρ (.val d :: as) (d2 :: ds) is = true := h
theorem ok_p {i : Nat} {p : List Stp} {d : D} {as : List Ar} {ds : List D} {is : List Nat} (hp : pers d = true) (h : arOk ρ as ds is = true) : arOk ρ (.pl i p :: as) (d :: ds) is = true := by simp only [arOk, hp, Bool.true_or, if_true, h, Bool.and_self]
theorem ok_o {i : Nat} {p : List Stp} {d e : D} {as : List Ar} {ds : List D} {is : List Nat} (hi : ρ[i]? = some (.ow e)) (hc : is.contains i = false) (hp : pers d = false) (h : arOk ρ as ds (i :: is) = true) : arOk ρ (.pl i p :: as) (d :: ds) is = true := by
  simp only [arOk, hp, hi, hc]; simpa using h
theorem bk_nil : arBack ρ [] [] [] = some ρ := rfl
theorem bk_val {d d2 : D} {s : Sl} {as : List Ar} {ds : List D} {ss : List Sl} {ρ' : Env} (h : arBack ρ as ds ss = some ρ') : arBack ρ (.val d :: as) (d2 :: ds) (s :: ss) = some ρ' := h
theorem bk_p {i : Nat} {p : List Stp} {d : D} {s : Sl} {as : List Ar} {ds : List D} {ss : List Sl} {ρ' : Env} (hp : pers d = true) (h : arBack ρ as ds ss = some ρ') : arBack ρ (.pl i p :: as) (d :: ds) (s :: ss) = some ρ' := by simp only [arBack, hp, if_true, h]
theorem bk_o {i : Nat} {d e r : D} {as : List Ar} {ds : List D} {ss : List Sl} {ρ' : Env} (hp : pers d = false) (hi : ρ[i]? = some (.ow r)) (h : arBack (ρ.set i (.ow e)) as ds ss = some ρ') : arBack ρ (.pl i [] :: as) (d :: ds) (.ow e :: ss) = some ρ' := by
  simp only [arBack, hp, hi, modP, Bool.false_eq_true, if_false, h]
/-! walks with effects -/
theorem rm_forWX {it : E} {t : Tg} {b : Ss} (h : W3 S (walk (ev C it ρ)) (fun S1 ds k ρ1 => RM S1 (match forO (fbody C t b) ds (lock k ρ1) with
      | some (.nx, ρ4) => run C (ss :: bs) (unlock k ρ1 ρ4)
      | some (fl, ρ4) => some (fl, unlock k ρ1 ρ4)
      | none => none) P)) : RM S (run C (.cons (.for_ t it b) ss :: bs) ρ) P := fun r hr => by
  obtain ⟨S1, ds, k, ρ1, h1, h2, h3⟩ := h.to hr
  obtain ⟨fl, ρ', h4, h5⟩ := h3 r h1
  split at h4
  · rename_i ρ4 hf
    rw [run_nx (ex_for h2 hf)]
    exact ⟨fl, ρ', h4, h5⟩
  · rename_i fl4 ρ4 hn hf
    cases h4
    exact ⟨_, _, run_out (ex_for h2 hf) (fun z => hn z), h5⟩
  · cases h4
theorem ww_of {it : E} {K : Option β → List D → Kd → Env → Prop} (h : WE S (ev C it ρ) (fun S1 d k ρ1 => ∃ ds k2 ρ2, walk (some ⟨d, k, ρ1⟩) = some (ds, k2, ρ2) ∧ K S1 ds k2 ρ2)) : W3 S (walk (ev C it ρ)) K := fun r hr => by
  obtain ⟨S1, d, k, ρ1, h1, h2, ds, k2, ρ2, h3, h4⟩ := h.to hr
  exact ⟨S1, (ds, k2, ρ2), h1, by rw [h2]; exact h3, h4⟩
theorem wk_sq {c : List α → D} {f : α → D} [Sq c f] [Ec f] {xs : List α} : walk (some ⟨c xs, .val, ρ⟩) = some (xs.map f, .val, ρ) := by
  rcases Sq.s (c := c) (f := f) with h | ⟨o, h⟩ <;> rw [h] <;> simp [walk, persL_map (Ec.p (f := f))]
theorem rm_fwN {t : Tg} {b : Ss} {xs : List α} {f : α → D} {k : Kd} {ρ1 : Env} {step : α → σ → Option σ} {s0 : σ} {S : σ → Option β} (Inv : σ → Env → Prop) (h0 : Inv s0 (lock k ρ1))
    (hb : ∀ a s ρ', Inv s ρ' → RM (step a s) (fbody C t b (f a) ρ') (fun s' fl ρ3 => (fl = .nx ∨ fl = .ct) ∧ Inv s' ρ3)) (kk : ∀ s ρ', Inv s ρ' → RM (S s) (run C (ss :: bs) (unlock k ρ1 ρ')) P) :
    RM ((forN step xs s0).bind S) (match forO (fbody C t b) (xs.map f) (lock k ρ1) with
      | some (.nx, ρ4) => run C (ss :: bs) (unlock k ρ1 ρ4)
      | some (fl, ρ4) => some (fl, unlock k ρ1 ρ4)
      | none => none) P := fun r hr => by
  cases hf : forN step xs s0 with
  | none => rw [hf] at hr; cases hr
  | some s =>
    rw [hf] at hr
    obtain ⟨ρ3, e3, h3⟩ := forO_N hb xs s0 s _ h0 hf
    obtain ⟨fl, ρ', h4, h5⟩ := kk s ρ3 h3 r hr
    exact ⟨fl, ρ', by rw [e3]; exact h4, h5⟩
theorem rm_fwC {t : Tg} {b : Ss} {xs : List α} {f : α → D} {k : Kd} {ρ1 : Env} {step : α → σ → Option (Ct σ β)} {s0 : σ} {S : σ → Option β} (Inv : σ → Env → Prop) (h0 : Inv s0 (lock k ρ1))
    (hb : ∀ a s ρ', Inv s ρ' → RM (step a s) (fbody C t b (f a) ρ') (fun r fl ρ3 => match r with
      | .nx s' => (fl = .nx ∨ fl = .ct) ∧ Inv s' ρ3
      | .br s' => fl = .br ∧ Inv s' ρ3
      | .rt x => ∃ d, fl = .rt d ∧ P x (.rt d) (unlock k ρ1 ρ3))) (kk : ∀ s ρ', Inv s ρ' → RM (S s) (run C (ss :: bs) (unlock k ρ1 ρ')) P) :
    RM (jn (forC step xs s0) S) (match forO (fbody C t b) (xs.map f) (lock k ρ1) with
      | some (.nx, ρ4) => run C (ss :: bs) (unlock k ρ1 ρ4)
      | some (fl, ρ4) => some (fl, unlock k ρ1 ρ4)
      | none => none) P := fun r hr => by
  cases hf : forC step xs s0 with
  | none => rw [hf] at hr; cases hr
  | some s =>
    rw [hf] at hr
    obtain ⟨fl, ρ3, e3, h3⟩ := forO_C (PX := fun x d ρ3 => P x (.rt d) (unlock k ρ1 ρ3)) hb xs s0 s _ h0 hf
    cases s with
    | inl s =>
      obtain ⟨rfl, h3⟩ := h3
      obtain ⟨fl, ρ', h4, h5⟩ := kk s ρ3 h3 r hr
      exact ⟨fl, ρ', by rw [e3]; exact h4, h5⟩
    | inr x =>
      obtain ⟨d, rfl, h3⟩ := h3
      cases hr
      exact ⟨.rt d, _, by rw [e3], h3⟩
/-! comprehensions with effects -/
noncomputable def lcS (step : α → σ → Option (Option γ × σ)) : List α → List γ → σ → Option (List γ × σ)
  | [], acc, s => some (acc, s)
  | a :: as, acc, s => (step a s).bind fun r => match r.1 with
    | none => lcS step as acc r.2
    | some x => (pushG acc x).bind fun acc' => lcS step as acc' r.2
theorem unset_unset {is : List Nat} {ρ : Env} : unsetAll is (unsetAll is ρ) = unsetAll is ρ := by
  have aux : ∀ (is : List Nat) (ρ : Env) (j : Nat), j ∈ is → (unsetAll is ρ)[j]? = (ρ[j]?).map fun _ => Sl.no := by
    intro is
    induction is with
    | nil => intro ρ j h; simp at h
    | cons i is ih =>
      intro ρ j h
      simp only [unsetAll]
      by_cases hij : i = j
      · subst hij
        by_cases hl : i < ρ.length
        · rw [List.getElem?_set_self (by rw [unset_len]; exact hl)]
          simp [hl]
        · rw [List.getElem?_eq_none (by rw [List.length_set, unset_len]; omega)]
          simp [List.getElem?_eq_none (show ρ.length ≤ i by omega)]
      · rw [List.getElem?_set_ne hij]
        exact ih ρ j (by simpa [Ne.symm hij] using h)
  apply List.ext_getElem?
  intro j
  by_cases hj : j ∈ is
  · rw [aux is _ j hj, aux is _ j hj]
    cases ρ[j]? <;> rfl
  · rw [unset_out hj]
theorem reset_eq {is : List Nat} {ρ0 ρ' : Env} (hl : ρ0.length = ρ'.length) : resetAll is ρ0 ρ' = resetAll is ρ0 (unsetAll is ρ') := by
  apply List.ext_getElem?
  intro j
  rw [reset_at hl, reset_at (by rw [unset_len]; exact hl)]
  by_cases hj : j ∈ is
  · rw [if_pos hj, if_pos hj]
  · rw [if_neg hj, if_neg hj, unset_out hj]
/-- the target of a comprehension set, its filter asked -/
def asgC (C : Cll) (t : Tg) (c : Oe) (d : D) (ρ : Env) : Option (Bool × Env) := match asgT t d ρ with
  | some ρ2 => evC C c ρ2
  | none => none
def lcBody (C : Cll) (is : List Nat) (t : Tg) (c : Oe) (e : E) (d : D) (b : List D × Env) : Option (List D × Env) := match asgT t d (unsetAll is b.2) with
          | some ρ2 => match evC C c ρ2 with
            | some (true, ρ3) => match ev C e ρ3 with
              | some o => match own o with
                | some (x, ρ4) => if b.1.length + 1 < lim then some (b.1 ++ [x], ρ4) else none
                | none => none
              | none => none
            | some (false, ρ3) => some (b.1, ρ3)
            | none => none
          | none => none
def lcFin (is : List Nat) (k : Kd) (ρ1 : Env) : Option (List D × Env) → Option Out
  | some (r, ρ4) => some ⟨.lst true r, .val, unlock k ρ1 (resetAll is (lock k ρ1) ρ4)⟩
  | none => none
theorem ev_lc1 {e it : E} {is : List Nat} {t : Tg} {c : Oe} {ds : List D} {k : Kd} {ρ1 : Env} (hw : walk (ev C it ρ) = some (ds, k, ρ1)) : ev C (.lc1 e is t it c) ρ = lcFin is k ρ1 (foldO (lcBody C is t c e) ds ([], unsetAll is (lock k ρ1))) := by
  have hf : lcBody C is t c e = (fun d (b : List D × Env) => match asgT t d (unsetAll is b.2) with
          | some ρ2 => match evC C c ρ2 with
            | some (true, ρ3) => match ev C e ρ3 with
              | some o => match own o with
                | some (x, ρ4) => if b.1.length + 1 < lim then some (b.1 ++ [x], ρ4) else none
                | none => none
              | none => none
            | some (false, ρ3) => some (b.1, ρ3)
            | none => none
          | none => none) := by funext d b; rfl
  rw [hf]
  simp only [ev, hw]
  rfl
theorem lc_core {e : E} {is : List Nat} {t : Tg} {c : Oe} {xs : List α} {f : α → D} {g : γ → D} {k : Kd} {ρ1 : Env} {s0 : σ} {step : α → σ → Option (Option γ × σ)} {S : List γ × σ → Option β} (ρh : σ → Env) (hl : ∀ s, (ρh s).length = ρ1.length) (h0 : ρh s0 = unsetAll is (lock k ρ1))
    (hb : ∀ a s, W2 (step a s) (asgC C t c (f a) (ρh s)) (fun S1 b ρ3 => (b = false ∧ ∃ s', S1 = some (none, s') ∧ unsetAll is ρ3 = ρh s') ∨ (b = true ∧ WE S1 (ev C e ρ3) (fun S2 d k ρ4 => k = .val ∧ ∃ x s', S2 = some (some x, s') ∧ d = g x ∧ unsetAll is ρ4 = ρh s'))))
    (hk : ∀ p, KE (S p) (eL true g p.1) .val (unlock k ρ1 (resetAll is (lock k ρ1) (ρh p.2)))) :
    WE ((lcS step xs [] s0).bind S) (lcFin is k ρ1 (foldO (lcBody C is t c e) (xs.map f) ([], unsetAll is (lock k ρ1)))) KE := fun r hr => by
  cases hf : lcS step xs [] s0 with
  | none => rw [hf] at hr; cases hr
  | some p =>
    rw [hf] at hr
    obtain ⟨ys, s⟩ := p
    have key : ∀ (xs : List α) (acc : List γ) (s0 : σ) (ρ' : Env) (ys : List γ) (s : σ), lcS step xs acc s0 = some (ys, s) → unsetAll is ρ' = ρh s0 →
        ∃ ρ4, foldO (lcBody C is t c e) (xs.map f) (acc.map g, ρ') = some (ys.map g, ρ4) ∧ unsetAll is ρ4 = ρh s := by
      intro xs
      induction xs with
      | nil => intro acc s0 ρ' ys s h hu; cases h; exact ⟨ρ', rfl, hu⟩
      | cons a xs ih =>
        intro acc s0 ρ' ys s h hu
        simp only [lcS] at h
        cases hst : step a s0 with
        | none => rw [hst] at h; cases h
        | some q =>
          rw [hst] at h
          obtain ⟨S1, b, ρ3, e1, e2, e3⟩ := (hb a s0).to hst
          unfold asgC at e2
          cases ha : asgT t (f a) (ρh s0) with
          | none => rw [ha] at e2; cases e2
          | some ρ2 =>
            rw [ha] at e2
            have e2 : evC C c ρ2 = some (b, ρ3) := e2
            rcases e3 with ⟨hbf, s', h1, h2⟩ | ⟨hbt, h1⟩
            · subst hbf
              rw [h1] at e1
              cases e1
              obtain ⟨ρ4, q1, q2⟩ := ih acc s' ρ3 ys s h h2
              exact ⟨ρ4, by simp only [List.map_cons, foldO, lcBody, hu, ha, e2, q1], q2⟩
            · subst hbt
              obtain ⟨S2, d, kd, ρ5, h3, h4, h5, x, s', h6, h7, h8⟩ := h1.to e1
              subst h5 h7
              rw [h6] at h3
              cases h3
              have h : ((pushG acc x).bind fun acc' => lcS step xs acc' s') = some (ys, s) := h
              unfold pushG at h
              split at h
              · rename_i hl2
                obtain ⟨ρ4, q1, q2⟩ := ih (acc ++ [x]) s' ρ5 ys s h h8
                refine ⟨ρ4, ?_, q2⟩
                have ho : own ⟨g x, .val, ρ5⟩ = some (g x, ρ5) := rfl
                have hl3 : (acc.map g).length + 1 < lim := by simpa using hl2
                simp only [List.map_append, List.map_cons, List.map_nil] at q1
                simp only [List.map_cons, foldO, lcBody, hu, ha, e2, h4, ho, hl3, if_true, q1]
              · cases h
    obtain ⟨ρ4, q, q2⟩ := key xs [] s0 (unsetAll is (lock k ρ1)) ys s hf (by rw [unset_unset]; exact h0.symm)
    refine ⟨S (ys, s), ⟨eL true g ys, .val, unlock k ρ1 (resetAll is (lock k ρ1) (ρh s))⟩, hr, ?_, hk (ys, s)⟩
    rw [List.map_nil] at q
    rw [q]
    have hlen : (lock k ρ1).length = ρ4.length := by
      have z := congrArg List.length q2
      rw [unset_len, hl] at z
      rw [z]
      cases k with
      | val => rfl
      | vw i p =>
        simp only [lock]
        split
        · simp
        · rfl
    simp only [lcFin]
    rw [reset_eq hlen, q2]
    rfl
/-- .. whose walk has effects -/
theorem we_lcW {e it : E} {is : List Nat} {t : Tg} {c : Oe} (h : W3 S (walk (ev C it ρ)) (fun S1 ds k ρ1 => WE S1 (lcFin is k ρ1 (foldO (lcBody C is t c e) ds ([], unsetAll is (lock k ρ1)))) KE)) : WE S (ev C (.lc1 e is t it c) ρ) KE := fun r hr => by
  obtain ⟨S1, ds, k, ρ1, h1, h2, h3⟩ := h.to hr
  obtain ⟨S2, o, h4, h5, h6⟩ := h3 r h1
  exact ⟨S2, o, h4, by rw [ev_lc1 h2]; exact h5, h6⟩
/-! statements whose terms have effects -/
theorem wx_evD {e : E} {K : Option β → D → Env → Prop} (h : WE S (ev C e ρ) (fun S1 d k ρ1 => k = .val ∧ K S1 d ρ1)) : W2 S (evD C e ρ) K := fun r hr => by
  obtain ⟨S', d, k, ρ1, h1, h2, h3, h4⟩ := h.to hr
  subst h3
  exact ⟨S', (d, ρ1), h1, by simp only [evD, h2, own], h4⟩
theorem rm_asgW {t : Tg} {e : E} (h : W2 S (evD C e ρ) (fun S1 d ρ1 => ∃ ρ2, asgT t d ρ1 = some ρ2 ∧ RM S1 (run C (ss :: bs) ρ2) P)) : RM S (run C (.cons (.asg t e) ss :: bs) ρ) P := fun r hr => by
  obtain ⟨S', d, ρ1, h1, h2, ρ2, h3, h4⟩ := h.to hr
  rw [run_nx (ρ' := ρ2) (by simp only [ex, h2, h3])]
  exact h4 r h1
theorem rm_parW {ts : List Tg} {es : Es} (h : W2 S (evs C es ρ) (fun S1 ds ρ1 => ∃ ρ2, asgTs ts ds ρ1 = some ρ2 ∧ RM S1 (run C (ss :: bs) ρ2) P)) : RM S (run C (.cons (.par ts es) ss :: bs) ρ) P := fun r hr => by
  obtain ⟨S', d, ρ1, h1, h2, ρ2, h3, h4⟩ := h.to hr
  rw [run_nx (ρ' := ρ2) (by simp only [ex, h2, h3])]
  exact h4 r h1
theorem rm_retW {e : E} (h : W2 S (evD C e ρ) (fun S1 d ρ1 => ∃ r, S1 = some r ∧ P r (.rt d) ρ1)) : RM S (run C (.cons (.ret e) ss :: bs) ρ) P := fun r hr => by
  obtain ⟨S', d, ρ1, h1, h2, r2, h3, h4⟩ := h.to hr
  have : r2 = r := by rw [h3] at h1; exact Option.some.inj h1
  subst this
  exact ⟨_, _, run_out (by simp only [ex, h2]) (by simp), h4⟩
theorem rm_ifW {c : E} {a b : Ss} (h : WE S (ev C c ρ) (fun S1 d _ ρ1 => ∃ t, d = eB t ∧ ∃ A B, S1 = (if t then A else B) ∧ (t = true → RM A (run C (a :: ss :: bs) ρ1) P) ∧ (t = false → RM B (run C (b :: ss :: bs) ρ1) P))) : RM S (run C (.cons (.ifs c a b) ss :: bs) ρ) P := fun r hr => by
  obtain ⟨S', d, k, ρ1, h1, h2, t, h3, A, B, h4, h5, h6⟩ := h.to hr
  subst h3
  have : evB C c ρ = some (t, ρ1) := by simp only [evB, h2, eB, truth]
  rw [run_if this]
  subst h4
  cases t with
  | true => exact h5 rfl r h1
  | false => exact h6 rfl r h1
theorem rm_ifT {c : E} {a b : Ss} (h : WE S (ev C c ρ) (fun S1 d _ ρ1 => ∃ t, d = eB t ∧ RM S1 (run C ((if t then a else b) :: ss :: bs) ρ1) P)) : RM S (run C (.cons (.ifs c a b) ss :: bs) ρ) P := fun r hr => by
  obtain ⟨S', d, k, ρ1, h1, h2, t, h3, h4⟩ := h.to hr
  subst h3
  have : evB C c ρ = some (t, ρ1) := by simp only [evB, h2, eB, truth]
  rw [run_if this]
  exact h4 r h1
theorem rm_exprW {e : E} (h : WE S (ev C e ρ) (fun S1 _ _ ρ1 => RM S1 (run C (ss :: bs) ρ1) P)) : RM S (run C (.cons (.expr e) ss :: bs) ρ) P := fun r hr => by
  obtain ⟨S', d, k, ρ1, h1, h2, h3⟩ := h.to hr
  rw [run_nx (ρ' := ρ1) (by simp only [ex, h2])]
  exact h3 r h1
theorem rm_appendW {i : Nat} {e : E} {f : α → D} {xs : List α} (hi : slotD ρ i = some (eL true f xs)) (h : W2 S (evD C e ρ) (fun S1 d ρ1 => ∃ v, d = f v ∧ ρ1[i]? = some (.ow (eL true f xs)) ∧ ∃ S2, S1 = (pushG xs v).bind S2 ∧ ∀ ys, RM (S2 ys) (run C (ss :: bs) (ρ1.set i (.ow (eL true f ys)))) P)) :
    RM S (run C (.cons (.expr (.mm .append (.var i) (.cons e .nil))) ss :: bs) ρ) P := fun r hr => by
  obtain ⟨S', d, ρ1, h1, h2, v, h3, h4, S2, h5, h6⟩ := h.to hr
  subst h3 h5
  cases hp : pushG xs v with
  | none => rw [hp] at h1; cases h1
  | some ys =>
    rw [hp] at h1
    rw [run_nx (ex_append hi h2 h4 hp)]
    exact h6 ys r h1
theorem rm_putW [DecidableEq κ] {i : Nat} {e ke : E} {f : κ → D} {g : γ → D} {ks : List (κ × γ)} [Ky f] [Eqv f] (h : W2 S (evD C e ρ) (fun S1 d ρ1 => ∃ v, d = g v ∧ ρ1[i]? = some (.ow (eDi true f g ks)) ∧ ∃ k k2, EvK C ρ1 ke (some k) f k2 ∧ ∃ S2, S1 = (putG ks k v).bind S2 ∧ ∀ ys, RM (S2 ys) (run C (ss :: bs) (ρ1.set i (.ow (eDi true f g ys)))) P)) :
    RM S (run C (.cons (.sto (.var i) ke e) ss :: bs) ρ) P := fun r hr => by
  obtain ⟨S', d, ρ1, h1, h2, v, h3, h4, k, k2, h7, S2, h5, h6⟩ := h.to hr
  subst h3 h5
  cases hp : putG ks k v with
  | none => rw [hp] at h1; cases h1
  | some ys =>
    rw [hp] at h1
    rw [run_nx (ex_put h2 h4 h7 hp)]
    exact h6 ys r h1
theorem rm_augIW {i : Nat} {op : Bop} {e : E} {u : Int} (hi : slotD ρ i = some (eI u)) (h : WE S (ev C e ρ) (fun S1 d _ ρ1 => ∃ v w ρ2, d = eI v ∧ augOp op (eI u) (eI v) = some (eI w) ∧ asgT (.nm i) (eI w) ρ1 = some ρ2 ∧ RM S1 (run C (ss :: bs) ρ2) P)) :
    RM S (run C (.cons (.aug i op e) ss :: bs) ρ) P := fun r hr => by
  obtain ⟨S', d, k, ρ1, h1, h2, v, w, ρ2, h3, h4, h5, h6⟩ := h.to hr
  subst h3
  have hp : pers (eI u) = true := rfl
  rw [run_nx (ρ' := ρ2) (by simp only [ex, rd, hi, hp, if_true, lock_val, h2, h4, unlock_val, h5])]
  exact h6 r h1
end
end SH

set_option autoImplicit false
set_option linter.all false
set_option maxRecDepth 100000
/-! glue for printed proofs -/
namespace SH
open LP PB
section
variable {α β γ δ ε κ σ τ : Type} {C : Cll} {ρ : Env}
theorem k_eq {e : E} {m' m : Option α} {f : α → D} {k : Kd} (h : EvK C ρ e m' f k) (hm : m' = m) : EvK C ρ e m f k := hm ▸ h
theorem asg_sl {i : Nat} {x : Option D} {d : D} (h : ρ[i]? = some (sl x)) : asgT (.nm i) d ρ = some (ρ.set i (.ow d)) := by
  simp only [asgT, h]
  cases x <;> rfl
theorem asg_tp {ts : List Tg} {ds : List D} {ρ' : Env} (h : asgTs ts ds ρ = some ρ') : asgT (.tp ts) (.tup ds) ρ = some ρ' := h
theorem ats_nil : asgTs [] [] ρ = some ρ := rfl
theorem ats_cons {t : Tg} {ts : List Tg} {d : D} {ds : List D} {ρ1 ρ2 : Env} (h : asgT t d ρ = some ρ1) (h2 : asgTs ts ds ρ1 = some ρ2) : asgTs (t :: ts) (d :: ds) ρ = some ρ2 := by
  simp only [asgTs, h, h2]
theorem cal_mk {fns : List LP.Fn} {n i : Nat} {fn : LP.Fn} {ds : List D} {m : Option α} {f : α → D} {B : α → List Sl → Prop} {ρ0 : Env} (h : fns[i]? = some fn) (ha : assOk fn.ass ds = true) (h0 : ds.map .ow ++ List.replicate fn.ns .no = ρ0)
    (hr : RM m (run (callN fns n) [fn.body] ρ0) (fun r fl ρ' => (fl = .rt (f r) ∨ (fl = .nx ∧ f r = .non)) ∧ B r (ρ'.take fn.np))) : CalE (callN fns (n + 1)) i ds m f B := fun v hv => by
  obtain ⟨fl, ρ', e, h1, h2⟩ := hr v hv
  rw [run_one] at e
  refine ⟨ρ'.take fn.np, ?_, h2⟩
  rcases h1 with rfl | ⟨rfl, h1⟩
  · simp only [callN, h, ha, if_true, h0, e]
  · simp only [callN, h, ha, if_true, h0, e, h1]
theorem ao_nil : assOk [] [] = true := rfl
theorem ao_f {bs : List Bool} {d : D} {ds : List D} (h : assOk bs ds = true) : assOk (false :: bs) (d :: ds) = true := by simp [assOk, h]
theorem ao_t {bs : List Bool} {d : D} {ds : List D} (hp : pers d = true) (h : assOk bs ds = true) : assOk (true :: bs) (d :: ds) = true := by simp [assOk, h, hp]
def mem [DecidableEq α] (a : α) (xs : List α) : Bool := decide (a ∈ xs)
theorem c_in [DecidableEq α] {c : List α → D} {f : α → D} {n : Nat} [Sq c f] [Eqv f] [Fln f n] (hn : n ≤ 63 := by decide) : OpC .in_ f c (fun u v => mem u v) := c_inS hn
theorem c_nin [DecidableEq α] {c : List α → D} {f : α → D} {n : Nat} [Sq c f] [Eqv f] [Fln f n] (hn : n ≤ 63 := by decide) : OpC .nin f c (fun u v => !mem u v) := fun u v => by
  rw [c_ninS (c := c) (f := f) hn u v]
  simp [mem]
/-- calls, whatever their arguments are -/
theorem k_callG {i : Nat} {as : As} {x : Option γ} {ar : γ → List Ar} {dd : γ → List D} {m : γ → Option α} {f : α → D} {B : γ → α → List Sl → Prop} (ha : EaK C ρ as x ar) (h1 : ∀ u, arsD ρ (ar u) = some (dd u)) (hp : ∀ u, arOk ρ (ar u) (dd u) [] = true) (hc : ∀ u, CalE C i (dd u) (m u) f (B u)) (hb : ∀ u v ss, B u v ss → arBack ρ (ar u) (dd u) ss = some ρ) :
    EvK C ρ (.call i as) (x.bind fun u => m u) f .val := fun w hw => by
  cases x with
  | none => cases hw
  | some u =>
    obtain ⟨ss, e1, e2⟩ := hc u w hw
    simp only [ev, ha u rfl, runCall, h1 u, hp u, if_true, e1, hb u w ss e2]
theorem bk_fin {as : List Ar} {ds : List D} {ss : List Sl} {ρ' : Env} (h : arBack ρ as ds ss = some ρ') (e : ρ' = ρ) : arBack ρ as ds ss = some ρ := by rw [h, e]
theorem ea_eq {as : As} {m m' : Option γ} {ar : γ → List Ar} (h : EaK C ρ as m' ar) (e : m' = m) : EaK C ρ as m ar := e ▸ h
/-- an option whose value is there -/
theorem k_nar {e : E} {x : Option α} {m : α → Option β} {g : β → D} {k : Kd} (h : ∀ a, x = some a → EvK C ρ e (m a) g k) : EvK C ρ e (x.bind m) g k := fun v hv => by
  cases x with
  | none => cases hv
  | some a => exact h a rfl v hv
end
end SH

set_option autoImplicit false
set_option linter.all false
set_option maxRecDepth 100000
namespace SH
open LP PB
section
variable {α β γ δ ε κ σ τ : Type} {C : Cll} {ρ : Env}
variable {S : Option β} {P : β → Fl → Env → Prop} {ss : Ss} {bs : List Ss} {KE : Option β → D → Kd → Env → Prop}
theorem k_un {e : E} {m : Option (Option α)} {f : α → D} {k : Kd} (x : EvK C ρ e m (eO f) k) : EvK C ρ e (m.bind fun a => a) f k := fun v hv => by
  cases m with
  | none => cases hv
  | some a =>
    have hv : a = some v := hv
    subst hv
    exact x _ rfl
theorem eo_eq {e : Oe} {m m' : Option (Option Int)} (h : EoK C ρ e m') (hm : m' = m) : EoK C ρ e m := hm ▸ h
theorem mapO_t {f : α → D} : ∀ a : List α, eT f a = eT (eO f) (List.map some a) := fun a => by simp [eT, eO, Function.comp_def]
theorem mapO_l {f : α → D} {o : Bool} : ∀ a : List α, eL o f a = eL o (eO f) (List.map some a) := fun a => by simp [eL, eO, Function.comp_def]
theorem b_dict {o : Bool} {f : κ → D} {g : β → D} [Ky1 f] [Ec f] [Ec g] : OpF .dict (eDi o f g) (fun u => some u) (eDi true f g) := fun u w h => by
  cases h
  have hk : dkOk (u.map fun p => (f p.1, g p.2)) = true := by
    unfold dkOk
    simp [Ky1.k]
  simp only [eDi, blt, persK_map Ec.p Ec.p, hk, Bool.and_self, if_true]
/-- a dict whose keys are pairs of ints may be copied where no two of them hash alike -/
@[irreducible] noncomputable def cpG (u : List ((Int × Int) × β)) : Option (List ((Int × Int) × β)) := @ite _ ((u.map fun p => hashI [p.1.1, p.1.2]).Nodup) (Classical.propDecidable _) (some u) none
theorem keyHs_map {g : β → D} : ∀ u : List ((Int × Int) × β), keyHs (u.map fun p => (e2 eI eI p.1, g p.2)) = some (u.map fun p => [p.1.1, p.1.2])
  | [] => rfl
  | a :: u => by
    have ih := keyHs_map (g := g) u
    simp only [List.map_cons, e2, eI, keyHs, intsOf] at ih ⊢
    rw [ih]
theorem b_dict2 {o : Bool} {g : β → D} [Ec g] : OpF .dict (eDi o (e2 eI eI) g) (fun u => cpG u) (eDi true (e2 eI eI) g) := fun u w h => by
  have h : cpG u = some w := h
  unfold cpG at h
  split at h
  · rename_i hn
    cases h
    have hk : dkOk (u.map fun p => (e2 eI eI p.1, g p.2)) = true := by
      unfold dkOk
      rw [Bool.or_eq_true]
      refine .inr ?_
      rw [keyHs_map]
      simp only [List.map_map]
      exact decide_eq_true hn
    simp only [eDi, blt, persK_map Ec.p Ec.p, hk, Bool.and_self, if_true]
  · cases h
@[irreducible] noncomputable def mulG2 (i j : Int) : Option Int := @ite _ ((-w64 < i ∧ i < w64) ∨ (-w64 < j ∧ j < w64)) (Classical.propDecidable _) (some (i * j)) none
theorem o_mul2 : OpB .mul eI eI mulG2 eI := fun u v w h => by
  unfold mulG2 at h
  split at h
  · rename_i hc; cases h; simp only [eI, bop]; rw [if_pos hc]
  · cases h
theorem rm_jt {a b : Ss} {t : Bool} {A B : Option α} {S : α → Option β} (J : α → Env → Prop) (ka : t = true → RM A (run C [a] ρ) (fun r fl ρ' => fl = .nx ∧ J r ρ')) (kb : t = false → RM B (run C [b] ρ) (fun r fl ρ' => fl = .nx ∧ J r ρ')) (kk : ∀ r ρ', J r ρ' → RM (S r) (run C (ss :: bs) ρ') P) :
    RM ((if t then A else B).bind S) (run C ((if t then a else b) :: ss :: bs) ρ) P := by
  have h := rm_ifJ (C := C) (ρ := ρ) (c := .cst (.bl t)) (t := t) (k := .val) J (k_cst eB t rfl) ka kb kk
  have e : run C (.cons (.ifs (.cst (.bl t)) a b) ss :: bs) ρ = run C ((if t then a else b) :: ss :: bs) ρ := run_if (evB_of (k := .val) (k_cst eB t rfl))
  rwa [e] at h
theorem rm_jtX {a b : Ss} {t : Bool} {A B : Option (α ⊕ β)} {S : α → Option β} (J : α → Env → Prop)
    (ka : t = true → RM A (run C [a] ρ) (fun r fl ρ' => match r with
      | .inl j => fl = .nx ∧ J j ρ'
      | .inr x => fl ≠ .nx ∧ P x fl ρ'))
    (kb : t = false → RM B (run C [b] ρ) (fun r fl ρ' => match r with
      | .inl j => fl = .nx ∧ J j ρ'
      | .inr x => fl ≠ .nx ∧ P x fl ρ')) (kk : ∀ r ρ', J r ρ' → RM (S r) (run C (ss :: bs) ρ') P) :
    RM (jn (if t then A else B) S) (run C ((if t then a else b) :: ss :: bs) ρ) P := by
  have h := rm_ifX (C := C) (ρ := ρ) (c := .cst (.bl t)) (t := t) (k := .val) J (k_cst eB t rfl) ka kb kk
  have e : run C (.cons (.ifs (.cst (.bl t)) a b) ss :: bs) ρ = run C ((if t then a else b) :: ss :: bs) ρ := run_if (evB_of (k := .val) (k_cst eB t rfl))
  rwa [e] at h
theorem we_idxV {i : Nat} {b : E} {d : D} (hi : ρ[i]? = some (.ow d)) (hp : pers d = false) (h : WE S (ev C b (ρ.set i (.ro d))) (fun S2 d2 _ ρ2 => WX S2 ((stepOf d d2).bind fun s => getS d s) (fun S3 e => pers e = true ∧ KE S3 e .val (ρ2.set i (.ow d))))) : WE S (ev C (.idx (.var i) b) ρ) KE := fun r hr => by
  obtain ⟨S2, d2, k2, ρ2, h5, h6, h7⟩ := h.to hr
  obtain ⟨S3, d3, h8, h9, h11, h10⟩ := h7 r h5
  refine ⟨S3, ⟨d3, .val, ρ2.set i (.ow d)⟩, h8, ?_, h10⟩
  cases hs : stepOf d d2 with
  | none => rw [hs] at h9; cases h9
  | some s =>
    rw [hs] at h9
    have h9 : getS d s = some d3 := h9
    have hsl : slotD ρ i = some d := by simp only [slotD, hi]
    cases d with
    | scr ns => simp [stepOf] at hs
    | str x => simp [stepOf] at hs
    | _ => simp only [ev, rd, hsl, hp, Bool.false_eq_true, if_false, lock, hi, h6, hs, subOut, h9, viewAt, h11, if_true, unlock]
theorem wo_frz {f f' : α → D} {i : Nat} {v : α} {K : Option β → D → Env → Prop} [Fz f f'] (hi : ρ[i]? = some (.ow (f v))) (k : K S (f' v) (ρ.set i (.ow (f' v)))) : W2 S (own ⟨f v, .vw i [], ρ⟩) K := wx_of (o := (f' v, ρ.set i (.ow (f' v)))) (by simp only [own, hi, modP, Fz.z, Fz.n, if_true]) k
/-! filters of comprehensions with effects -/
theorem wc_asg {t : Tg} {c : Oe} {d : D} {ρ2 : Env} {K : Option β → Bool → Env → Prop} (ha : asgT t d ρ = some ρ2) (h : W2 S (evC C c ρ2) K) : W2 S (asgC C t c d ρ) K := by unfold asgC; rw [ha]; exact h
theorem wc_no {e : E} {Q : Option β → D → Kd → Env → Prop} {R : Option β → Env → Prop} (h : WE S (ev C e ρ) Q) : W2 S (evC C .no ρ) (fun S1 b ρ3 => (b = false ∧ R S1 ρ3) ∨ (b = true ∧ WE S1 (ev C e ρ3) Q)) := wx_of (o := (true, ρ)) rfl (.inr ⟨rfl, h⟩)
theorem wc_if {c : E} {t : Bool} {k : Kd} {A B : Option β} {e : E} {Q : Option β → D → Kd → Env → Prop} {R : Option β → Env → Prop} (hc : EvK C ρ c (some t) eB k) (ha : t = true → WE A (ev C e ρ) Q) (hb : t = false → R B ρ) : W2 (if t then A else B) (evC C (.so c) ρ) (fun S1 b ρ3 => (b = false ∧ R S1 ρ3) ∨ (b = true ∧ WE S1 (ev C e ρ3) Q)) := by
  refine wx_of (o := (t, ρ)) (by simp only [evC, hc t rfl, eB, truth]) ?_
  cases t with
  | true => exact .inr ⟨rfl, ha rfl⟩
  | false => exact .inl ⟨rfl, hb rfl⟩
/-! printed displays -/
theorem lst_mk {f : α → D} (v : List α) (h : v.length < 1000) : mkL (v.map f) = some (eL true f v) := by
  simp only [mkL, List.length_map]
  rw [if_pos (Nat.lt_trans h (by unfold lim; decide))]; rfl
theorem tupS_mk {f f' : α → D} [Fz f f'] (v : List α) (h : v.length < 1000) : mkF (v.map f) = some (eT f' v) := by
  unfold mkF
  rw [if_pos (noDL_map v)]
  simp only [mkT, frzL_map, List.length_map]
  rw [if_pos (Nat.lt_trans h (by unfold lim; decide))]; rfl
theorem tup_mk2 {f f' : α → D} {g g' : γ → D} [Fz f f'] [Fz g g'] {u : α} {v : γ} : mkF [f u, g v] = some (e2 f' g' (u, v)) := by simp [mkF, noDL, Fz.n, frzL, Fz.z, mkT, lim, e2]
theorem tup_mk3 {f f' : α → D} {g g' : γ → D} {h h' : δ → D} [Fz f f'] [Fz g g'] [Fz h h'] {u : α} {v : γ} {w : δ} : mkF [f u, g v, h w] = some (e3 f' g' h' ⟨u, v, w⟩) := by simp [mkF, noDL, Fz.n, frzL, Fz.z, mkT, lim, e3]
theorem tup_mk4 {f f' : α → D} {g g' : γ → D} {h h' : δ → D} {i i' : ε → D} [Fz f f'] [Fz g g'] [Fz h h'] [Fz i i'] {u : α} {v : γ} {w : δ} {x : ε} : mkF [f u, g v, h w, i x] = some (e4 f' g' h' i' ⟨u, v, w, x⟩) := by simp [mkF, noDL, Fz.n, frzL, Fz.z, mkT, lim, e4]
theorem tup_mk5 {f f' : α → D} {g g' : γ → D} {h h' : δ → D} {i i' : ε → D} {j j' : κ → D} [Fz f f'] [Fz g g'] [Fz h h'] [Fz i i'] [Fz j j'] {u : α} {v : γ} {w : δ} {x : ε} {y : κ} : mkF [f u, g v, h w, i x, j y] = some (e5 f' g' h' i' j' ⟨u, v, w, x, y⟩) := by simp [mkF, noDL, Fz.n, frzL, Fz.z, mkT, lim, e5]
/-! stores by place -/
@[irreducible] def setG (xs : List α) (k : Int) (v : α) : Option (List α) := (ixOf xs.length k).bind fun n => if n < xs.length then some (xs.set n v) else none
theorem rm_set {i : Nat} {e ke : E} {f : γ → D} {xs : List γ} {k : Int} {v : γ} {ρ1 : γ → Env} {k2 : Kd} {S : List γ → Option β} {ρ2 : List γ → Env} (h : OwK C ρ e (some v) f ρ1) (h1 : (ρ1 v)[i]? = some (.ow (eL true f xs))) (hk : EvK C (ρ1 v) ke (some k) eI k2) (h2 : ∀ ys, (ρ1 v).set i (.ow (eL true f ys)) = ρ2 ys) (kk : ∀ ys, RM (S ys) (run C (ss :: bs) (ρ2 ys)) P) :
    RM ((setG xs k v).bind S) (run C (.cons (.sto (.var i) ke e) ss :: bs) ρ) P := fun r hr => by
  cases hp : setG xs k v with
  | none => rw [hp] at hr; cases hr
  | some ys =>
    rw [hp] at hr
    have he : ex C (.sto (.var i) ke e) ρ = some (.nx, (ρ1 v).set i (.ow (eL true f ys))) := by
      unfold setG at hp
      cases hn : ixOf xs.length k with
      | none => rw [hn] at hp; cases hp
      | some n =>
        rw [hn] at hp
        have hp : (if n < xs.length then some (xs.set n v) else none) = some ys := hp
        split at hp
        · rename_i hl
          cases hp
          have hs : slotD (ρ1 v) i = some (eL true f xs) := by simp only [slotD, h1]
          have hpp : pers (eL true f xs) = false := rfl
          have hk2 := hk k rfl
          simp only [eL, eI] at hs hpp h1 hk2 ⊢
          simp only [ex, h v rfl, ev, rd, hs, hpp, Bool.false_eq_true, if_false, lockD, Kd.deep, hk2, unlockD, atView, h1, getP, stepOf, List.length_map, hn, Option.map_some, setS, hl, if_true, modP, List.map_set]
        · cases hp
    rw [run_nx he, h2]
    exact kk ys r hr
theorem rm_setB {i : Nat} {e ke : E} {f : γ → D} {xs : List γ} {m : Option Int} {v : Option γ} {ρ1 : γ → Env} {k2 : Kd} {S : List γ → Option β} {ρ2 : γ → List γ → Env} (h : OwK C ρ e v f ρ1) (h1 : ∀ v, (ρ1 v)[i]? = some (.ow (eL true f xs))) (hk : ∀ v, EvK C (ρ1 v) ke m eI k2) (h2 : ∀ v ys, (ρ1 v).set i (.ow (eL true f ys)) = ρ2 v ys) (kk : ∀ v ys, RM (S ys) (run C (ss :: bs) (ρ2 v ys)) P) :
    RM (v.bind fun v => m.bind fun k => (setG xs k v).bind S) (run C (.cons (.sto (.var i) ke e) ss :: bs) ρ) P := by
  cases v with
  | none => exact rm_none
  | some v => cases m with
    | none => exact rm_none
    | some k => exact rm_set h (h1 v) (hk v) (h2 v) (kk v)
end
/-! ### the draws of a law -/
structure W where
  ds : List Int
  at_ : Nat
def kDraws : D := .str [100, 114, 97, 119, 115]
def kAt : D := .str [97, 116]
def eW (w : W) : D := .dct true [(kDraws, eL true eI w.ds), (kAt, .int w.at_)]
section
variable {C : Cll} {ρ : Env}
theorem k_w {a : E} {x : Option (List Int)} (ha : EvK C ρ a x (eL true eI) .val) : EvK C ρ (.dct (.cons (.cst kDraws) a (.cons (.cst kAt) (.cst (.int 0)) .nil))) (x.bind fun ds => some ⟨ds, 0⟩) eW .val := fun w hw => by
  cases x with
  | none => cases hw
  | some ds =>
    cases hw
    have := ha ds rfl
    simp [ev, evKs, this, own, isK, kDraws, kAt, look, eqv, eW]
end
def P_next : LP.Fn := { np := 2, ns := 0, ass := [false, false], body := (.cons (.augS (.var 0) (.cst (.str [97, 116])) .add (.cst (.int 1))) (.cons (.ifs (.cmp .gt (.idx (.var 0) (.cst (.str [97, 116]))) (.blt .len (.cons (.idx (.var 0) (.cst (.str [100, 114, 97, 119, 115]))) .nil))) (.cons (.ret (.cst (.int 0))) .nil) .nil) (.cons (.ret (.bin .mod (.blt .int (.cons (.idx (.idx (.var 0) (.cst (.str [100, 114, 97, 119, 115]))) (.bin .sub (.idx (.var 0) (.cst (.str [97, 116]))) (.cst (.int 1)))) .nil)) (.var 1))) .nil))) }
def nextF (w : W) (m : Int) : Option (Int × W) := if 0 < m then some ((w.ds[w.at_]?.getD 0) % m, ⟨w.ds, w.at_ + 1⟩) else none
theorem iDx (ds : List Int) (i : Nat) : (ds.map eI)[i]? = (ds[i]?).map D.int := by simp [eI]
theorem next_body (C : Cll) (w : W) (m : Int) (hm : 0 < m) : exs C P_next.body [.ow (eW w), .ow (.int m)] = some (.rt (.int ((w.ds[w.at_]?.getD 0) % m)), [.ow (eW ⟨w.ds, w.at_ + 1⟩), .ow (.int m)]) := by
  obtain ⟨ds, a⟩ := w
  by_cases h : ds.length < a + 1
  · have h' : (ds.length : Int) < (a : Int) + 1 := by omega
    have h2 : ds[a]? = none := List.getElem?_eq_none (by omega)
    simp [P_next, exs, ex, ev, evs, evV, evB, evD, evC, rd, slotD, pers, persL, persK, own, lock, unlock, stepOf, kFit, isK, isTK, isDct, look, eqv, getS, perO, augOp, atView, setS, put, lockD, unlockD, modP, getP, Kd.deep, subOut, viewAt, cop, cmpOk, flat, flatN, alk, isNon, blt, ltB, truth, bop, mmo, samK, w64, b2i, frzL, frz, eW, eL, kDraws, kAt, lim, h', h2]
  · obtain ⟨x, hx⟩ : ∃ x, ds[a]? = some x := ⟨ds[a], by simp [show a < ds.length by omega]⟩
    have h' : ¬ (ds.length : Int) < (a : Int) + 1 := by omega
    have hk : a < ds.length := by omega
    have hgx : ds[a] = x := by rw [List.getElem?_eq_getElem hk] at hx; exact Option.some.inj hx
    simp [P_next, exs, ex, ev, evs, evV, evB, evD, evC, rd, slotD, pers, persL, persK, own, lock, unlock, stepOf, kFit, isK, isTK, isDct, look, eqv, getS, perO, augOp, atView, setS, put, lockD, unlockD, modP, getP, Kd.deep, subOut, viewAt, cop, cmpOk, flat, flatN, alk, isNon, blt, ltB, truth, bop, mmo, samK, w64, b2i, frzL, frz, eW, eL, eI, kDraws, kAt, lim, h', ixOf, hx, hm, hk, hgx]
theorem next_ok {fns : List LP.Fn} {i : Nat} (h : fns[i]? = some P_next) (N : Nat) (w : W) (many : Int) : CalE (callN fns (N + 1)) i [eW w, eI many] (nextF w many) (fun r => eI r.1) (fun r ss => ∃ s, ss = [.ow (eW r.2), s]) := fun v hv => by
  unfold nextF at hv
  split at hv
  · rename_i hm
    cases hv
    have q := callN_at (fs := fns) (n := N) (f := i) (fn := P_next) (ds := [eW w, eI many]) h rfl (next_body (callN fns N) w many hm)
    exact ⟨_, q, _, rfl⟩
  · cases hv
end SH
namespace SH
open LP PB
section
variable {α β γ δ ε κ σ τ : Type}
theorem opc {op : Cop} {f : α → D} {g : β → D} {r : α → β → Bool} (h : OpC op f g r) {u : α} {v : β} : cop op (f u) (g v) = some (r u v) := h u v
theorem mapC_t {f : α → D} {h : β → D} {g : α → β} (hc : ∀ x, f x = h (g x)) : ∀ a : List α, eT f a = eT h (List.map g a) := fun a => by simp [eT, hc, Function.comp_def]
theorem mapC_l {f : α → D} {h : β → D} {g : α → β} {o : Bool} (hc : ∀ x, f x = h (g x)) : ∀ a : List α, eL o f a = eL o h (List.map g a) := fun a => by simp [eL, hc, Function.comp_def]
theorem o_addTc {f : α → D} {g : β → D} {h : γ → D} {a : α → γ} {b : β → γ} (ha : ∀ x, f x = h (a x)) (hb : ∀ x, g x = h (b x)) (u : List α) (v : List β) (w : List γ) (e : lmG (List.map a u ++ List.map b v) = some w) : bop .add (eT f u) (eT g v) = some (eT h w) := by
  rw [mapC_t ha, mapC_t hb]
  exact o_addT _ _ _ e
end
end SH

set_option autoImplicit false
set_option linter.all false
set_option maxRecDepth 100000
/-! whether two values are alike, part by part -/
namespace SH
open LP PB
abbrev PD := {d : D // pers d = true}
def eP (d : PD) : D := d.1
instance : Ec eP := ⟨fun d => d.2⟩
def smCond (i : Nat) : E := .not_ (.call i (.cons (.idx (.var 0) (.var 2)) (.cons (.idx (.var 1) (.var 2)) .nil)))
def smTup (i : Nat) : LP.S := .ifs (.blt (.isa .tuple) (.cons (.var 1) .nil)) (.cons (.ifs (.or_ (.not_ (.blt (.isa .tuple) (.cons (.var 0) .nil))) (.cmp .ne (.blt .len (.cons (.var 0) .nil)) (.blt .len (.cons (.var 1) .nil)))) (.cons (.ret (.cst (.bl false))) .nil) .nil) (.cons (.ret (.cmp .eq (.lc1 (.var 2) [2] (.nm 2) (.blt .range (.cons (.blt .len (.cons (.var 1) .nil)) .nil)) (.so (smCond i))) (.lst .nil))) .nil)) .nil
def OutB (x : Option (LP.Fl × Env)) (b : Bool) : Prop := ∃ s t u, x = some (.rt (.bl b), [s, t, u])
/-- a function that looks whether two values are alike -/
structure SmFn (i : Nat) (fn : LP.Fn) : Prop where
  head : ∃ rest, fn.body = .cons (smTup i) rest
  np : fn.np = 2
  ns : fn.ns = 1
  ass : fn.ass = [false, false]
  int : ∀ C a b, OutB (exs C fn.body [.ow (.int a), .ow (.int b), .no]) (decide (a = b))
  bl : ∀ C a b, OutB (exs C fn.body [.ow (.bl a), .ow (.bl b), .no]) (decide (a = b))
  non : ∀ C, OutB (exs C fn.body [.ow .non, .ow .non, .no]) true
  str : ∀ C (a b : Str), OutB (exs C fn.body [.ow (eS a), .ow (eS b), .no]) (decide (a = b))
  nonR : ∀ C d, pers d = true → isNon d = false → OutB (exs C fn.body [.ow d, .ow .non, .no]) false
  nonI : ∀ C a, OutB (exs C fn.body [.ow .non, .ow (.int a), .no]) false
  nonB : ∀ C a, OutB (exs C fn.body [.ow .non, .ow (.bl a), .no]) false
  nonS : ∀ C (a : Str), OutB (exs C fn.body [.ow .non, .ow (eS a), .no]) false
section
variable {C : Cll}
def frT (xs ys : List PD) : Env := [.ow (eT eP xs), .ow (eT eP ys), .no]
theorem run_sm {fn : LP.Fn} {fns : List LP.Fn} {i n : Nat} {b : Bool} {d1 d2 : D} (S : SmFn i fn) (h : fns[i]? = some fn) (q : OutB (exs (callN fns n) fn.body [.ow d1, .ow d2, .no]) b) : ∃ s t, callN fns (n + 1) i [d1, d2] = some (.bl b, [s, t]) := by
  obtain ⟨s, t, u, e⟩ := q
  refine ⟨s, t, ?_⟩
  have ha : assOk fn.ass [d1, d2] = true := by rw [S.ass]; rfl
  have h0 : [d1, d2].map Sl.ow ++ List.replicate fn.ns .no = [.ow d1, .ow d2, .no] := by rw [S.ns]; rfl
  simp only [callN, h, ha, if_true, h0, e, S.np]
  rfl
/-- d1, d2 are told b, from n levels on -/
def SmD (d1 d2 : D) (b : Bool) (n : Nat) : Prop := ∀ (i : Nat) (fn : LP.Fn), SmFn i fn → ∀ fns : List LP.Fn, fns[i]? = some fn → ∀ N, n ≤ N → ∃ s t, callN fns (N + 1) i [d1, d2] = some (.bl b, [s, t])
theorem SmD.of {d1 d2 : D} {b : Bool} (h : ∀ i fn, SmFn i fn → ∀ C, OutB (exs C fn.body [.ow d1, .ow d2, .no]) b) (n : Nat) : SmD d1 d2 b n := fun i fn S fns hf N _ => run_sm S hf (h i fn S _)
theorem SmD.mono {d1 d2 : D} {b : Bool} {n m : Nat} (h : SmD d1 d2 b n) (hm : n ≤ m) : SmD d1 d2 b m := fun i fn S fns hf N hN => h i fn S fns hf N (by omega)
theorem isa_seq : OpF (.isa .tuple) (eT eP) (fun _ => some true) eB := fun u w h => by cases h; rfl
theorem sm_cond {xs ys : List PD} {i : Nat} (Q : PD → PD → Option Bool) (hc : ∀ x y, CalE C i [eP x, eP y] (Q x y) eB (fun _ ss => ∃ s t, ss = [s, t])) (k : Int) : EvK C [.ow (eT eP xs), .ow (eT eP ys), .ow (eI k)] (smCond i) ((((getI xs k).bind fun x => (getI ys k).bind fun y => some (x, y)).bind fun u => Q u.1 u.2).bind fun b => some (!b)) eB .val := by
  refine k_not (k := .val) ?_
  have ea : EaK C [.ow (eT eP xs), .ow (eT eP ys), .ow (eI k)] (.cons (.idx (.var 0) (.var 2)) (.cons (.idx (.var 1) (.var 2)) .nil)) ((getI xs k).bind fun x => ((getI ys k).bind fun y => some (y, ())).bind fun u => some (x, u)) (fun p => .val (eP p.1) :: .val (eP p.2.1) :: []) :=
    k_ae (k_eq (k_idx (k_var (f := eT eP) (v := xs) rfl) (k_var (f := eI) (v := k) rfl)) rfl) (k_ae (x := some ()) (k_eq (k_idx (k_var (f := eT eP) (v := ys) rfl) (k_var (f := eI) (v := k) rfl)) rfl) k_an)
  have h := k_callG (m := fun p => Q p.1 p.2.1) (f := eB) (dd := fun p => [eP p.1, eP p.2.1]) (B := fun _ _ ss => ∃ s t, ss = [s, t]) ea (fun _ => rfl) (fun _ => ok_val (ok_val ok_nil)) (fun p => hc p.1 p.2.1) (fun _ _ _ ⟨s, t, h⟩ => by subst h; exact bk_val (bk_val bk_nil))
  refine k_eq h ?_
  cases getI xs k <;> cases getI ys k <;> rfl
def smR (xs ys : List PD) (Q : PD → PD → Option Bool) (a : Int) : Option (Option Int) := ((((getI xs a).bind fun x => (getI ys a).bind fun y => some (x, y)).bind fun u => Q u.1 u.2).bind fun b => some (!b)).bind fun b => if b then (some a).bind fun x => some (some x) else some none
theorem sm_lc {xs ys : List PD} {i : Nat} (Q : PD → PD → Option Bool) (hc : ∀ x y, CalE C i [eP x, eP y] (Q x y) eB (fun _ ss => ∃ s t, ss = [s, t])) : EvK C (frT xs ys) (.lc1 (.var 2) [2] (.nm 2) (.blt .range (.cons (.blt .len (.cons (.var 1) .nil)) .nil)) (.so (smCond i))) ((rngG 0 (ys.length : Int)).bind fun l => lcM l (smR xs ys Q)) (eL true eI) .val := by
  have hw : WkK C (frT xs ys) (.blt .range (.cons (.blt .len (.cons (.var 1) .nil)) .nil)) (rngG 0 (ys.length : Int)) eI .val := k_walk (k_eq (k_blt (k_blt (k_var (f := eT eP) (v := ys) rfl) b_len) b_rng1) rfl)
  exact k_lc (g := eI) hw (t_one (is := [2]) (t := .nm 2) (e := .var 2) (q := fun k => some k) (ρ2 := fun k => [.ow (eT eP xs), .ow (eT eP ys), .ow (eI k)]) (fun _ => rfl) (fun _ => rfl) (sm_cond Q hc) (fun k => k_var rfl))
theorem sm_mem {n : Nat} {k : Int} (hk : k ∈ rangeI 0 (n : Int)) : 0 ≤ k ∧ k < n := by
  simp only [rangeI, List.mem_map, List.mem_range] at hk
  obtain ⟨a, ha, rfl⟩ := hk
  omega
theorem rng_nat {n : Nat} (h : n < 1000000) : rngG 0 (n : Int) = some (rangeI 0 n) := by
  unfold rngG
  have h1 : rOk (n : Int) = true := by unfold rOk; simp; omega
  have h0 : rOk 0 = true := rfl
  rw [if_pos (by rw [h0, h1]; rfl)]
theorem sm_filter {xs ys : List PD} (Q : PD → PD → Option Bool) (bs : Int → Bool) : ∀ l : List Int, (∀ k ∈ l, ((getI xs k).bind fun x => (getI ys k).bind fun y => Q x y) = some (bs k)) → (l.mapM (smR xs ys Q)).map (·.filterMap id) = some (l.filter fun k => !bs k) := by
  intro l
  induction l with
  | nil => intro _; rfl
  | cons a l ih =>
    intro hm
    have hqa := hm a (by simp)
    have e1 : (((getI xs a).bind fun x => (getI ys a).bind fun y => some (x, y)).bind fun u => Q u.1 u.2) = some (bs a) := by
      rw [← hqa]
      cases getI xs a <;> cases getI ys a <;> rfl
    have e2 : smR xs ys Q a = if !bs a then some (some a) else some none := by unfold smR; rw [e1]; rfl
    have ih := ih fun k hk => hm k (by simp [hk])
    rw [List.mapM_cons, e2]
    cases hmm : (l.mapM (smR xs ys Q)) with
    | none => rw [hmm] at ih; cases ih
    | some zs =>
      rw [hmm] at ih
      simp only [Option.map_some, Option.some.injEq] at ih
      cases hb : bs a with
      | true => simp [hb, ih, bind, pure, Option.bind]
      | false => simp [hb, ih, bind, pure, Option.bind]
theorem sm_fin {xs ys : List PD} {i : Nat} (Q : PD → PD → Option Bool) (hc : ∀ x y, CalE C i [eP x, eP y] (Q x y) eB (fun _ ss => ∃ s t, ss = [s, t])) (hl : ys.length < 1000000) (bs : Int → Bool)
    (hq : ∀ k : Int, 0 ≤ k → k < ys.length → ((getI xs k).bind fun x => (getI ys k).bind fun y => Q x y) = some (bs k)) :
    EvK C (frT xs ys) (.cmp .eq (.lc1 (.var 2) [2] (.nm 2) (.blt .range (.cons (.blt .len (.cons (.var 1) .nil)) .nil)) (.so (smCond i))) (.lst .nil)) (some ((rangeI 0 (ys.length : Int)).all bs)) eB .val := by
  have hf : ((rngG 0 (ys.length : Int)).bind fun l => lcM l (smR xs ys Q)) = some ((rangeI 0 (ys.length : Int)).filter fun k => !bs k) := by
    rw [rng_nat hl]
    show lcM _ _ = _
    unfold lcM
    have hlr : (rangeI 0 (ys.length : Int)).length < lim := by
      simp only [rangeI, List.length_map, List.length_range]; unfold lim; omega
    rw [if_pos hlr]
    exact sm_filter Q bs _ fun k hk => hq k (sm_mem hk).1 (sm_mem hk).2
  have he : (rangeI 0 (ys.length : Int)).all bs = decide (((rangeI 0 (ys.length : Int)).filter fun k => !bs k) = []) := by
    rw [Bool.eq_iff_iff]
    simp
  rw [he]
  exact k_eq (k_cmp (k_eq (sm_lc Q hc) hf) (k_lst (k_esn (f := eI))) c_eqL) rfl
/-- the look at two tuples -/
theorem tup_run {xs ys : List PD} {i : Nat} {rest : Ss} (Q : PD → PD → Option Bool) (hc : ∀ x y, CalE C i [eP x, eP y] (Q x y) eB (fun _ ss => ∃ s t, ss = [s, t])) (hl : ys.length < 1000000) (bs : Int → Bool)
    (hq : xs.length = ys.length → ∀ k : Int, 0 ≤ k → k < ys.length → ((getI xs k).bind fun x => (getI ys k).bind fun y => Q x y) = some (bs k)) :
    OutB (exs C (.cons (smTup i) rest) (frT xs ys)) (decide (xs.length = ys.length) && (rangeI 0 ys.length).all bs) := by
  have key : RM (some (decide (xs.length = ys.length) && (rangeI 0 ys.length).all bs)) (run C [.cons (smTup i) rest] (frT xs ys)) (fun r fl ρ' => fl = .rt (eB r) ∧ ρ' = frT xs ys) := by
    have ht : EvK C (frT xs ys) (.blt (.isa .tuple) (.cons (.var 1) .nil)) (some true) eB .val := k_eq (k_blt (k_var (f := eT eP) (v := ys) rfl) isa_seq) rfl
    have hc2 : EvK C (frT xs ys) (.or_ (.not_ (.blt (.isa .tuple) (.cons (.var 0) .nil))) (.cmp .ne (.blt .len (.cons (.var 0) .nil)) (.blt .len (.cons (.var 1) .nil)))) (some (!true || decide ((xs.length : Int) ≠ ys.length))) eB .val :=
      k_orP (k_eq (k_not (k_blt (k_var (f := eT eP) (v := xs) rfl) isa_seq)) rfl) (k_eq (k_cmp (k_blt (k_var (f := eT eP) (v := xs) rfl) b_len) (k_blt (k_var (f := eT eP) (v := ys) rfl) b_len) c_ne) rfl)
    unfold smTup
    rw [run_if (evB_of ht), if_pos rfl, run_if (evB_of hc2)]
    by_cases hlen : xs.length = ys.length
    · have h1 : (!true || decide ((xs.length : Int) ≠ ys.length)) = false := by simp [hlen]
      rw [h1, if_neg (by decide), decide_eq_true hlen, Bool.true_and]
      exact rm_nil (rm_ret (w_val (sm_fin Q hc hl bs (hq hlen))) ⟨rfl, rfl⟩)
    · have h1 : (!true || decide ((xs.length : Int) ≠ ys.length)) = true := by simp; omega
      rw [h1, if_pos rfl, decide_eq_false hlen, Bool.false_and]
      exact rm_ret (w_val (k_cst eB false rfl)) ⟨rfl, rfl⟩
  obtain ⟨fl, ρ', e, rfl, rfl⟩ := key _ rfl
  rw [run_one] at e
  exact ⟨_, _, _, e⟩
theorem smd_len {xs ys : List PD} (hl : ys.length < 1000000) (hn : xs.length ≠ ys.length) : SmD (eT eP xs) (eT eP ys) false 0 := fun i fn S fns hf N _ => by
  refine run_sm S hf ?_
  obtain ⟨rest, hb⟩ := S.head
  rw [hb]
  have h := tup_run (C := callN fns N) (i := i) (rest := rest) (xs := xs) (ys := ys) (fun x y => none) (fun _ _ _ h => by cases h) hl (fun _ => true) (fun h => absurd h hn)
  rw [decide_eq_false hn] at h
  exact h
open Classical in
theorem smd_tup {xs ys : List PD} {n : Nat} (hl : ys.length < 1000000) (he : xs.length = ys.length) (bs : Int → Bool) (h : ∀ (k : Int) x y, 0 ≤ k → getI xs k = some x → getI ys k = some y → SmD x.1 y.1 (bs k) n) : SmD (eT eP xs) (eT eP ys) ((rangeI 0 ys.length).all bs) (n + 1) := fun i fn S fns hf N hN => by
  refine run_sm S hf ?_
  obtain ⟨rest, hb⟩ := S.head
  rw [hb]
  have hQ : ∀ x y : PD, ∃ q : Option Bool, (∀ b, (∃ s t, callN fns N i [x.1, y.1] = some (.bl b, [s, t])) ↔ q = some b) := fun x y => by
    by_cases hx : ∃ b s t, callN fns N i [x.1, y.1] = some (.bl b, [s, t])
    · obtain ⟨b, s, t, e⟩ := hx
      refine ⟨some b, fun c => ⟨fun ⟨s', t', e'⟩ => ?_, fun h => ?_⟩⟩
      · rw [e] at e'; simp only [Option.some.injEq, Prod.mk.injEq, D.bl.injEq] at e'; rw [e'.1]
      · cases h; exact ⟨s, t, e⟩
    · exact ⟨none, fun c => ⟨fun ⟨s, t, e⟩ => absurd ⟨c, s, t, e⟩ hx, fun h => by cases h⟩⟩
  have hg : ∀ (zs : List PD) (k : Int), 0 ≤ k → k < zs.length → ∃ z, getI zs k = some z := fun zs k h1 h2 => by
    unfold getI ixOf
    rw [if_pos h1, if_pos h2]
    have : k.toNat < zs.length := by omega
    exact ⟨zs[k.toNat], by simp [this]⟩
  have r := tup_run (C := callN fns N) (i := i) (rest := rest) (xs := xs) (ys := ys) (fun x y => choose (hQ x y)) (fun x y b hb => by
    obtain ⟨s, t, e⟩ := (choose_spec (hQ x y) b).mpr hb
    exact ⟨[s, t], e, s, t, rfl⟩) hl bs (fun _ k h1 h2 => by
    obtain ⟨x, hx⟩ := hg xs k h1 (by rw [he]; exact h2)
    obtain ⟨y, hy⟩ := hg ys k h1 h2
    rw [hx, hy]
    show choose (hQ x y) = some (bs k)
    refine (choose_spec (hQ x y) (bs k)).mp ?_
    obtain ⟨m, rfl⟩ : ∃ m, N = m + 1 := ⟨N - 1, by omega⟩
    exact h k x y h1 hx hy i fn S fns hf m (by omega))
  rw [decide_eq_true he, Bool.true_and] at r
  exact r
end
/-! ### typed -/
/-- no part of it is too long -/
class Sz (α : Type) where
  ok : α → Bool
instance : Sz Int := ⟨fun _ => true⟩
instance : Sz Bool := ⟨fun _ => true⟩
instance : Sz Unit := ⟨fun _ => true⟩
instance : Sz Char := ⟨fun _ => true⟩
section
variable {α β γ δ ε : Type}
instance [Sz α] : Sz (List α) := ⟨fun xs => decide (xs.length < 1000000) && xs.all Sz.ok⟩
instance [Sz α] : Sz (Option α) := ⟨fun x => x.all Sz.ok⟩
instance [Sz α] [Sz β] : Sz (α × β) := ⟨fun x => Sz.ok x.1 && Sz.ok x.2⟩
instance [Sz α] [Sz β] [Sz γ] : Sz (T3 α β γ) := ⟨fun x => Sz.ok x.a && (Sz.ok x.b && Sz.ok x.c)⟩
instance [Sz α] [Sz β] [Sz γ] [Sz δ] : Sz (T4 α β γ δ) := ⟨fun x => Sz.ok x.a && (Sz.ok x.b && (Sz.ok x.c && Sz.ok x.d))⟩
instance [Sz α] [Sz β] [Sz γ] [Sz δ] [Sz ε] : Sz (T5 α β γ δ ε) := ⟨fun x => Sz.ok x.a && (Sz.ok x.b && (Sz.ok x.c && (Sz.ok x.d && Sz.ok x.e)))⟩
class Sm (f : α → D) [DecidableEq α] [Sz α] (n : outParam Nat) : Prop where
  s : ∀ a b, Sz.ok b = true → SmD (f a) (f b) (decide (a = b)) n
/-- None is not alike -/
class SmN (f : α → D) [Sz α] : Prop where
  l : ∀ b, Sz.ok b = true → SmD .non (f b) false 0
instance : Sm eI 0 := ⟨fun a b _ => SmD.of (fun i fn S C => S.int C a b) 0⟩
instance : Sm eB 0 := ⟨fun a b _ => SmD.of (fun i fn S C => S.bl C a b) 0⟩
instance : Sm eN 0 := ⟨fun a b _ => SmD.of (fun i fn S C => S.non C) 0⟩
instance : Sm eS 0 := ⟨fun a b _ => SmD.of (fun i fn S C => S.str C a b) 0⟩
instance : SmN eI := ⟨fun b _ => SmD.of (fun i fn S C => S.nonI C b) 0⟩
instance : SmN eB := ⟨fun b _ => SmD.of (fun i fn S C => S.nonB C b) 0⟩
instance : SmN eS := ⟨fun b _ => SmD.of (fun i fn S C => S.nonS C b) 0⟩
theorem smn_tup {ds : List D} (hp : persL ds = true) (hl : ds.length < 1000000) : SmD .non (.tup ds) false 0 := SmD.of (fun i fn S C => by
  obtain ⟨rest, hb⟩ := S.head
  rw [hb]
  have h : exs C (.cons (smTup i) rest) [.ow .non, .ow (.tup ds), .no] = some (.rt (.bl false), [.ow .non, .ow (.tup ds), .no]) := by
    simp [smTup, exs, ex, evB, ev, evV, evs, evD, rd, slotD, pers, hp, lock, unlock, own, blt, okIsa, LP.isa, truth]
  exact ⟨_, _, _, h⟩) 0
instance {f : α → D} [Ec f] [Sz α] : SmN (eT f) := ⟨fun b h => smn_tup (persL_map Ec.p b) (by
  have h : (decide (b.length < 1000000) && b.all Sz.ok) = true := h
  simp only [Bool.and_eq_true, decide_eq_true_eq] at h
  simpa using h.1)⟩
instance {f : α → D} {g : β → D} [Ec f] [Ec g] [Sz α] [Sz β] : SmN (e2 f g) := ⟨fun b _ => smn_tup (by simp [persL, Ec.p]) (by simp)⟩
instance {f : α → D} {g : β → D} {h : γ → D} [Ec f] [Ec g] [Ec h] [Sz α] [Sz β] [Sz γ] : SmN (e3 f g h) := ⟨fun b _ => smn_tup (by simp [persL, Ec.p]) (by simp)⟩
instance {f : α → D} {g : β → D} {h : γ → D} {i : δ → D} [Ec f] [Ec g] [Ec h] [Ec i] [Sz α] [Sz β] [Sz γ] [Sz δ] : SmN (e4 f g h i) := ⟨fun b _ => smn_tup (by simp [persL, Ec.p]) (by simp)⟩
instance {f : α → D} {n : Nat} [DecidableEq α] [Sz α] [Ec f] [Sm f n] [SmN f] [Nn f] : Sm (eO f) n := ⟨fun a b hb => by
  cases b with
  | none => cases a with
    | none => exact SmD.of (fun i fn S C => S.non C) n
    | some a =>
      rw [decide_eq_false (by simp)]
      exact SmD.of (fun i fn S C => S.nonR C (f a) (Ec.p a) (Nn.n a)) n
  | some b =>
    have hb : Sz.ok b = true := hb
    cases a with
    | none =>
      rw [decide_eq_false (by simp)]
      exact (SmN.l (f := f) b hb).mono (Nat.zero_le n)
    | some a =>
      have e : decide (some a = some b) = decide (a = b) := by simp
      rw [e]
      exact Sm.s (f := f) a b hb⟩
def toPD (f : α → D) [Ec f] (a : α) : PD := ⟨f a, Ec.p a⟩
theorem getI_map {f : α → β} (xs : List α) (k : Int) : getI (xs.map f) k = (getI xs k).map f := by
  unfold getI
  rw [List.length_map]
  cases ixOf xs.length k with
  | none => rfl
  | some n => simp
theorem getI_nat (xs : List α) (k : Nat) : getI xs (k : Int) = xs[k]? := by
  unfold getI ixOf
  by_cases h : k < xs.length
  · have : ((k : Int) < xs.length) := by omega
    simp [this]
  · have : ¬ ((k : Int) < xs.length) := by omega
    simp [this]; omega
instance {f : α → D} {n : Nat} [DecidableEq α] [Sz α] [Ec f] [Sm f n] : Sm (eT f) (n + 1) := ⟨fun a b hb => by
  have hb : (decide (b.length < 1000000) && b.all Sz.ok) = true := hb
  simp only [Bool.and_eq_true, decide_eq_true_eq, List.all_eq_true] at hb
  have ea : eT f a = eT eP (a.map (toPD f)) := by simp [eT, toPD, eP, Function.comp_def]
  have eb : eT f b = eT eP (b.map (toPD f)) := by simp [eT, toPD, eP, Function.comp_def]
  rw [ea, eb]
  by_cases hl : a.length = b.length
  · have h := smd_tup (n := n) (xs := a.map (toPD f)) (ys := b.map (toPD f)) (by simpa using hb.1) (by simpa using hl) (fun k => decide (getI a k = getI b k)) (fun k x y _ hx hy => by
      rw [getI_map] at hx hy
      cases h1 : getI a k with
      | none => rw [h1] at hx; cases hx
      | some u => cases h2 : getI b k with
        | none => rw [h2] at hy; cases hy
        | some v =>
          rw [h1] at hx; rw [h2] at hy
          cases hx; cases hy
          have hv : v ∈ b := by
            unfold getI at h2
            cases h3 : ixOf b.length k with
            | none => rw [h3] at h2; cases h2
            | some m => rw [h3] at h2; exact List.mem_of_getElem? h2
          have := Sm.s (f := f) u v (hb.2 v hv)
          have e : decide (some u = some v) = decide (u = v) := by simp
          rw [e]
          exact this)
    have e : ((rangeI 0 ((b.map (toPD f)).length : Int)).all fun k => decide (getI a k = getI b k)) = decide (a = b) := by
      rw [Bool.eq_iff_iff]
      simp only [rangeI, List.all_map, List.all_eq_true, List.mem_range, decide_eq_true_eq, List.length_map, Function.comp_apply]
      constructor
      · intro h
        apply List.ext_getElem? 
        intro j
        by_cases hj : j < b.length
        · have := h j (by omega)
          rw [Int.zero_add, getI_nat, getI_nat] at this
          exact this
        · rw [List.getElem?_eq_none (by omega), List.getElem?_eq_none (by omega)]
      · rintro rfl _ _; rfl
    rw [e] at h
    exact h
  · have h := smd_len (xs := a.map (toPD f)) (ys := b.map (toPD f)) (by simpa using hb.1) (by simpa using hl)
    have : ¬ a = b := fun z => hl (by rw [z])
    rw [decide_eq_false this]
    exact h.mono (Nat.zero_le _)⟩
theorem smd_fix {xs ys : List PD} {n : Nat} {c : Bool} (he : xs.length = ys.length) (hl : ys.length < 1000) (bs : List Bool) (hb : bs.length = ys.length) (hc : bs.all id = c) (h : ∀ (k : Nat) x y b, xs[k]? = some x → ys[k]? = some y → bs[k]? = some b → SmD x.1 y.1 b n) : SmD (eT eP xs) (eT eP ys) c (n + 1) := by
  have q := smd_tup (n := n) (xs := xs) (ys := ys) (by omega) he (fun k => (bs[k.toNat]?).getD true) (fun k x y hk hx hy => by
    unfold getI at hx hy
    rw [he] at hx
    cases hn : ixOf ys.length k with
    | none => rw [hn] at hx; cases hx
    | some m =>
      rw [hn] at hx hy
      have hx : xs[m]? = some x := hx
      have hy : ys[m]? = some y := hy
      have hm : m < ys.length := (List.getElem?_eq_some_iff.mp hy).1
      obtain ⟨b, hbm⟩ : ∃ b, bs[m]? = some b := ⟨bs[m], by simp [hb, hm]⟩
      have : m = k.toNat := by
        unfold ixOf at hn
        rw [if_pos hk] at hn
        split at hn
        · exact (Option.some.inj hn).symm
        · cases hn
      subst this
      rw [hbm]
      exact h _ x y b hx hy hbm)
  have e : ((rangeI 0 (ys.length : Int)).all fun k => (bs[k.toNat]?).getD true) = c := by
    rw [← hc, Bool.eq_iff_iff]
    simp only [rangeI, List.all_map, List.all_eq_true, List.mem_range, Function.comp_apply]
    constructor
    · intro h x hx
      obtain ⟨j, hj, rfl⟩ := List.getElem_of_mem hx
      have := h j (by omega)
      simpa [hj] using this
    · intro h j hj
      have hj : j < bs.length := by omega
      have := h bs[j] (List.getElem_mem hj)
      simpa [hj] using this
  rw [e] at q
  exact q
instance {f : α → D} {g : β → D} {n m : Nat} [DecidableEq α] [DecidableEq β] [Sz α] [Sz β] [Ec f] [Ec g] [Sm f n] [Sm g m] : Sm (e2 f g) (max n m + 1) := ⟨fun a b hb => by
  obtain ⟨a1, a2⟩ := a; obtain ⟨b1, b2⟩ := b
  have hb : (Sz.ok b1 && Sz.ok b2) = true := hb
  simp only [Bool.and_eq_true] at hb
  refine smd_fix (xs := [toPD f a1, toPD g a2]) (ys := [toPD f b1, toPD g b2]) (n := max n m) rfl (by simp) [decide (a1 = b1), decide (a2 = b2)] rfl (by simp [Bool.decide_and]) fun k x y c hx hy hc => ?_
  match k with
  | 0 => cases hx; cases hy; cases hc; exact (Sm.s (f := f) a1 b1 hb.1).mono (by omega)
  | 1 => cases hx; cases hy; cases hc; exact (Sm.s (f := g) a2 b2 hb.2).mono (by omega)
  | k + 2 => simp at hc⟩
instance {f : α → D} {g : β → D} {h : γ → D} {n m l : Nat} [DecidableEq α] [DecidableEq β] [DecidableEq γ] [Sz α] [Sz β] [Sz γ] [Ec f] [Ec g] [Ec h] [Sm f n] [Sm g m] [Sm h l] : Sm (e3 f g h) (max n (max m l) + 1) := ⟨fun a b hb => by
  obtain ⟨a1, a2, a3⟩ := a; obtain ⟨b1, b2, b3⟩ := b
  have hb : (Sz.ok b1 && (Sz.ok b2 && Sz.ok b3)) = true := hb
  simp only [Bool.and_eq_true] at hb
  refine smd_fix (xs := [toPD f a1, toPD g a2, toPD h a3]) (ys := [toPD f b1, toPD g b2, toPD h b3]) (n := max n (max m l)) rfl (by simp) [decide (a1 = b1), decide (a2 = b2), decide (a3 = b3)] rfl (by simp [Bool.decide_and]) fun k x y c hx hy hc => ?_
  match k with
  | 0 => cases hx; cases hy; cases hc; exact (Sm.s (f := f) a1 b1 hb.1).mono (by omega)
  | 1 => cases hx; cases hy; cases hc; exact (Sm.s (f := g) a2 b2 hb.2.1).mono (by omega)
  | 2 => cases hx; cases hy; cases hc; exact (Sm.s (f := h) a3 b3 hb.2.2).mono (by omega)
  | k + 3 => simp at hc⟩
instance {f : α → D} {g : β → D} {h : γ → D} {i : δ → D} {n m l p : Nat} [DecidableEq α] [DecidableEq β] [DecidableEq γ] [DecidableEq δ] [Sz α] [Sz β] [Sz γ] [Sz δ] [Ec f] [Ec g] [Ec h] [Ec i] [Sm f n] [Sm g m] [Sm h l] [Sm i p] : Sm (e4 f g h i) (max n (max m (max l p)) + 1) := ⟨fun a b hb => by
  obtain ⟨a1, a2, a3, a4⟩ := a; obtain ⟨b1, b2, b3, b4⟩ := b
  have hb : (Sz.ok b1 && (Sz.ok b2 && (Sz.ok b3 && Sz.ok b4))) = true := hb
  simp only [Bool.and_eq_true] at hb
  refine smd_fix (xs := [toPD f a1, toPD g a2, toPD h a3, toPD i a4]) (ys := [toPD f b1, toPD g b2, toPD h b3, toPD i b4]) (n := max n (max m (max l p))) rfl (by simp) [decide (a1 = b1), decide (a2 = b2), decide (a3 = b3), decide (a4 = b4)] rfl (by simp [Bool.decide_and]) fun k x y c hx hy hc => ?_
  match k with
  | 0 => cases hx; cases hy; cases hc; exact (Sm.s (f := f) a1 b1 hb.1).mono (by omega)
  | 1 => cases hx; cases hy; cases hc; exact (Sm.s (f := g) a2 b2 hb.2.1).mono (by omega)
  | 2 => cases hx; cases hy; cases hc; exact (Sm.s (f := h) a3 b3 hb.2.2.1).mono (by omega)
  | 3 => cases hx; cases hy; cases hc; exact (Sm.s (f := i) a4 b4 hb.2.2.2).mono (by omega)
  | k + 4 => simp at hc⟩
/-- what the law's look at two values gives -/
@[irreducible] noncomputable def sameF [DecidableEq α] [Sz α] (a b : α) : Option Bool := @ite _ (Sz.ok b = true) (Classical.propDecidable _) (some (decide (a = b))) none
theorem same_gen {fns : List LP.Fn} {i : Nat} {fn : LP.Fn} (S : SmFn i fn) (hf : fns[i]? = some fn) {f : α → D} {n : Nat} [DecidableEq α] [Sz α] [Sm f n] (N : Nat) (a b : α) (hn : n ≤ 7 := by decide) : CalE (callN fns (N + 8)) i [f a, f b] (sameF a b) (fun r => eB r) (fun _ ss => ∃ s t, ss = [s, t]) := fun v hv => by
  unfold sameF at hv
  split at hv
  · rename_i hb
    cases hv
    obtain ⟨s, t, e⟩ := Sm.s (f := f) a b hb i fn S fns hf (N + 7) (by omega)
    exact ⟨_, e, s, t, rfl⟩
  · cases hv
end
/-! the forms that the laws write -/
def smEnd1 : Ss := (.cons (.ifs (.cmp .is (.var 1) (.cst .non)) (.cons (.ret (.cmp .is (.var 0) (.cst .non))) .nil) .nil) (.cons (.ifs (.blt (.isa .bool) (.cons (.var 1) .nil)) (.cons (.ret (.and_ (.blt (.isa .bool) (.cons (.var 0) .nil)) (.cmp .eq (.var 0) (.var 1)))) .nil) .nil) (.cons (.ifs (.blt (.isa .int) (.cons (.var 1) .nil)) (.cons (.ret (.and_ (.blt (.isa .int) (.cons (.var 0) .nil)) (.and_ (.not_ (.blt (.isa .bool) (.cons (.var 0) .nil))) (.cmp .eq (.var 0) (.var 1))))) .nil) .nil) (.cons (.ret (.and_ (.blt (.isa .str) (.cons (.var 0) .nil)) (.cmp .eq (.var 0) (.var 1)))) .nil))))
def smEnd2 : Ss := (.cons (.ifs (.cmp .is (.var 1) (.cst .non)) (.cons (.ret (.cmp .is (.var 0) (.cst .non))) .nil) .nil) (.cons (.ifs (.blt (.isa .str) (.cons (.var 1) .nil)) (.cons (.ret (.and_ (.blt (.isa .str) (.cons (.var 0) .nil)) (.cmp .eq (.var 0) (.var 1)))) .nil) .nil) (.cons (.ret (.and_ (.blt (.isa .int) (.cons (.var 0) .nil)) (.and_ (.cmp .eq (.blt (.isa .bool) (.cons (.var 0) .nil)) (.blt (.isa .bool) (.cons (.var 1) .nil))) (.cmp .eq (.var 0) (.var 1))))) .nil)))
theorem flatS (a : Str) : (a.map Char.toNat).all (fun c => decide (c < 1114112)) = true := by simp [char_lt]
theorem eqS (a b : Str) : (a.map Char.toNat == b.map Char.toNat) = decide (a = b) := Eqv.e (f := eS) a b
theorem sm1 (i : Nat) : SmFn i { np := 2, ns := 1, ass := [false, false], body := .cons (smTup i) smEnd1 } where
  head := ⟨_, rfl⟩
  np := rfl
  ns := rfl
  ass := rfl
  int := fun C a b => ⟨.ow (.int a), .ow (.int b), .no, by by_cases h : a = b <;> simp [smTup, smEnd1, exs, ex, evB, ev, evV, evs, evD, rd, slotD, pers, lock, unlock, own, blt, okIsa, LP.isa, truth, cop, isD, isNon, flat, flatN, eqv, h]⟩
  bl := fun C a b => ⟨.ow (.bl a), .ow (.bl b), .no, by cases a <;> cases b <;> simp [smTup, smEnd1, exs, ex, evB, ev, evV, evs, evD, rd, slotD, pers, lock, unlock, own, blt, okIsa, LP.isa, truth, cop, isD, isNon, flat, flatN, eqv]⟩
  non := fun C => ⟨.ow .non, .ow .non, .no, by simp [smTup, smEnd1, exs, ex, evB, ev, evV, evs, evD, rd, slotD, pers, lock, unlock, own, blt, okIsa, LP.isa, truth, cop, isD, isNon, flat, flatN, eqv]⟩
  str := fun C a b => ⟨.ow (eS a), .ow (eS b), .no, by
    simp [smTup, smEnd1, exs, ex, evB, ev, evV, evs, evD, rd, slotD, pers, lock, unlock, own, blt, okIsa, LP.isa, truth, cop, isD, isNon, flat, flatN, eqv, eS, char_lt]
    exact eqS a b⟩
  nonR := fun C d hp hd => ⟨.ow d, .ow .non, .no, by simp [smTup, smEnd1, exs, ex, evB, ev, evV, evs, evD, rd, slotD, pers, lock, unlock, own, blt, okIsa, LP.isa, truth, cop, isD, isNon, flat, flatN, eqv, hp]; cases d <;> simp_all [isNon]⟩
  nonI := fun C a => ⟨.ow .non, .ow (.int a), .no, by simp [smTup, smEnd1, exs, ex, evB, ev, evV, evs, evD, rd, slotD, pers, lock, unlock, own, blt, okIsa, LP.isa, truth, cop, isD, isNon, flat, flatN, eqv]⟩
  nonB := fun C a => ⟨.ow .non, .ow (.bl a), .no, by simp [smTup, smEnd1, exs, ex, evB, ev, evV, evs, evD, rd, slotD, pers, lock, unlock, own, blt, okIsa, LP.isa, truth, cop, isD, isNon, flat, flatN, eqv]⟩
  nonS := fun C a => ⟨.ow .non, .ow (eS a), .no, by simp [smTup, smEnd1, exs, ex, evB, ev, evV, evs, evD, rd, slotD, pers, lock, unlock, own, blt, okIsa, LP.isa, truth, cop, isD, isNon, flat, flatN, eqv, eS]⟩
theorem sm2 (i : Nat) : SmFn i { np := 2, ns := 1, ass := [false, false], body := .cons (smTup i) smEnd2 } where
  head := ⟨_, rfl⟩
  np := rfl
  ns := rfl
  ass := rfl
  int := fun C a b => ⟨.ow (.int a), .ow (.int b), .no, by by_cases h : a = b <;> simp [smTup, smEnd2, exs, ex, evB, ev, evV, evs, evD, rd, slotD, pers, lock, unlock, own, blt, okIsa, LP.isa, truth, cop, isD, isNon, flat, flatN, eqv, h]⟩
  bl := fun C a b => ⟨.ow (.bl a), .ow (.bl b), .no, by cases a <;> cases b <;> simp [smTup, smEnd2, exs, ex, evB, ev, evV, evs, evD, rd, slotD, pers, lock, unlock, own, blt, okIsa, LP.isa, truth, cop, isD, isNon, flat, flatN, eqv]⟩
  non := fun C => ⟨.ow .non, .ow .non, .no, by simp [smTup, smEnd2, exs, ex, evB, ev, evV, evs, evD, rd, slotD, pers, lock, unlock, own, blt, okIsa, LP.isa, truth, cop, isD, isNon, flat, flatN, eqv]⟩
  str := fun C a b => ⟨.ow (eS a), .ow (eS b), .no, by
    simp [smTup, smEnd2, exs, ex, evB, ev, evV, evs, evD, rd, slotD, pers, lock, unlock, own, blt, okIsa, LP.isa, truth, cop, isD, isNon, flat, flatN, eqv, eS, char_lt]
    exact eqS a b⟩
  nonR := fun C d hp hd => ⟨.ow d, .ow .non, .no, by simp [smTup, smEnd2, exs, ex, evB, ev, evV, evs, evD, rd, slotD, pers, lock, unlock, own, blt, okIsa, LP.isa, truth, cop, isD, isNon, flat, flatN, eqv, hp]; cases d <;> simp_all [isNon]⟩
  nonI := fun C a => ⟨.ow .non, .ow (.int a), .no, by simp [smTup, smEnd2, exs, ex, evB, ev, evV, evs, evD, rd, slotD, pers, lock, unlock, own, blt, okIsa, LP.isa, truth, cop, isD, isNon, flat, flatN, eqv]⟩
  nonB := fun C a => ⟨.ow .non, .ow (.bl a), .no, by simp [smTup, smEnd2, exs, ex, evB, ev, evV, evs, evD, rd, slotD, pers, lock, unlock, own, blt, okIsa, LP.isa, truth, cop, isD, isNon, flat, flatN, eqv]⟩
  nonS := fun C a => ⟨.ow .non, .ow (eS a), .no, by simp [smTup, smEnd2, exs, ex, evB, ev, evV, evs, evD, rd, slotD, pers, lock, unlock, own, blt, okIsa, LP.isa, truth, cop, isD, isNon, flat, flatN, eqv, eS]⟩
theorem alike_ok {fns : List LP.Fn} {i : Nat} (hf : fns[i]? = some { np := 2, ns := 1, ass := [false, false], body := .cons (smTup i) smEnd1 }) {α : Type} {f : α → D} {n : Nat} [DecidableEq α] [Sz α] [Sm f n] (N : Nat) (a b : α) (hn : n ≤ 7 := by decide) : CalE (callN fns (N + 8)) i [f a, f b] (sameF a b) (fun r => eB r) (fun _ ss => ∃ s t, ss = [s, t]) := same_gen (sm1 i) hf N a b hn
theorem same_ok {fns : List LP.Fn} {i : Nat} (hf : fns[i]? = some { np := 2, ns := 1, ass := [false, false], body := .cons (smTup i) smEnd2 }) {α : Type} {f : α → D} {n : Nat} [DecidableEq α] [Sz α] [Sm f n] (N : Nat) (a b : α) (hn : n ≤ 7 := by decide) : CalE (callN fns (N + 8)) i [f a, f b] (sameF a b) (fun r => eB r) (fun _ ss => ∃ s t, ss = [s, t]) := same_gen (sm2 i) hf N a b hn
end SH

set_option autoImplicit false
set_option linter.all false
set_option maxRecDepth 100000
/-! SH9: effects in filters, in a if c else b, in and/or; words with numbers (tags); sorted, sets, max, min -/
namespace SH
open LP
section
variable {α β γ δ ε κ σ τ : Type} {C : Cll} {ρ : Env}
variable {S : Option β} {P : β → Fl → Env → Prop} {ss : Ss} {bs : List Ss} {KE : Option β → D → Kd → Env → Prop}
theorem wc_ifW {c e : E} {Q : Option β → D → Kd → Env → Prop} {R : Option β → Env → Prop} (h : WE S (ev C c ρ) (fun S1 d _ ρ1 => ∃ t, d = eB t ∧ ∃ A B, S1 = (if t then A else B) ∧ (t = true → WE A (ev C e ρ1) Q) ∧ (t = false → R B ρ1))) :
    W2 S (evC C (.so c) ρ) (fun S1 b ρ3 => (b = false ∧ R S1 ρ3) ∨ (b = true ∧ WE S1 (ev C e ρ3) Q)) := fun r hr => by
  obtain ⟨S', d, k, ρ1, h1, h2, t, rfl, A, B, h4, h5, h6⟩ := h.to hr
  refine ⟨S', (t, ρ1), h1, by simp only [evC, h2, eB, truth], ?_⟩
  subst h4
  cases t with
  | true => exact .inr ⟨rfl, h5 rfl⟩
  | false => exact .inl ⟨rfl, h6 rfl⟩
theorem we_iteW {c a b : E} (h : WE S (ev C c ρ) (fun S1 d _ ρ1 => ∃ t, d = eB t ∧ WE S1 (if t then ev C a ρ1 else ev C b ρ1) KE)) : WE S (ev C (.ite c a b) ρ) KE := fun r hr => by
  obtain ⟨S', d, k, ρ1, h1, h2, t, rfl, h3⟩ := h.to hr
  obtain ⟨S2, d2, k2, ρ2, h4, h5, h6⟩ := h3.to h1
  refine ⟨S2, ⟨d2, k2, ρ2⟩, h4, ?_, h6⟩
  cases t <;> simp only [ev, h2, eB, truth] <;> simpa using h5
theorem we_andW {a b : E} (h : WE S (ev C a ρ) (fun S1 d k ρ1 => ∃ t, d = eB t ∧ k = .val ∧ WE S1 (if t then ev C b ρ1 else some ⟨eB false, .val, ρ1⟩) KE)) : WE S (ev C (.and_ a b) ρ) KE := fun r hr => by
  obtain ⟨S', d, k, ρ1, h1, h2, t, rfl, rfl, h3⟩ := h.to hr
  obtain ⟨S2, d2, k2, ρ2, h4, h5, h6⟩ := h3.to h1
  refine ⟨S2, ⟨d2, k2, ρ2⟩, h4, ?_, h6⟩
  cases t <;> simp only [ev, h2, eB, truth] <;> simpa [eB] using h5
theorem we_orW {a b : E} (h : WE S (ev C a ρ) (fun S1 d k ρ1 => ∃ t, d = eB t ∧ k = .val ∧ WE S1 (if t then some ⟨eB true, .val, ρ1⟩ else ev C b ρ1) KE)) : WE S (ev C (.or_ a b) ρ) KE := fun r hr => by
  obtain ⟨S', d, k, ρ1, h1, h2, t, rfl, rfl, h3⟩ := h.to hr
  obtain ⟨S2, d2, k2, ρ2, h4, h5, h6⟩ := h3.to h1
  refine ⟨S2, ⟨d2, k2, ρ2⟩, h4, ?_, h6⟩
  cases t <;> simp only [ev, h2, eB, truth] <;> simpa [eB] using h5
theorem we_itP {t : Bool} {x y : Option Out} {v w : α} {f : α → D} {ρ1 : Env} (hx : t = true → x = some ⟨f v, .val, ρ1⟩) (hy : t = false → y = some ⟨f w, .val, ρ1⟩) (k : KE S (f (if t then v else w)) .val ρ1) : WE S (if t then x else y) KE := by
  cases t with
  | true => exact we_of (hx rfl) k
  | false => exact we_of (hy rfl) k
theorem we_jt {t : Bool} {x y : Option Out} {A B : Option γ} {S : γ → Option β} (J : γ → D → Env → Prop) (ka : t = true → WE A x (fun S1 d k ρ1 => k = .val ∧ ∃ r, S1 = some r ∧ J r d ρ1)) (kb : t = false → WE B y (fun S1 d k ρ1 => k = .val ∧ ∃ r, S1 = some r ∧ J r d ρ1)) (kk : ∀ r d ρ1, J r d ρ1 → KE (S r) d .val ρ1) :
    WE ((if t then A else B).bind S) (if t then x else y) KE := fun r hr => by
  cases t with
  | true =>
    simp only [if_true] at hr ⊢
    cases hA : A with
    | none => rw [hA] at hr; cases hr
    | some q =>
      rw [hA] at hr
      obtain ⟨S', d, k, ρ1, h1, h2, rfl, r', h3, h4⟩ := (ka rfl).to hA
      rw [h1] at h3; cases h3
      exact ⟨S q, ⟨d, .val, ρ1⟩, hr, h2, kk _ _ _ h4⟩
  | false =>
    simp only [Bool.false_eq_true, if_false] at hr ⊢
    cases hA : B with
    | none => rw [hA] at hr; cases hr
    | some q =>
      rw [hA] at hr
      obtain ⟨S', d, k, ρ1, h1, h2, rfl, r', h3, h4⟩ := (kb rfl).to hA
      rw [h1] at h3; cases h3
      exact ⟨S q, ⟨d, .val, ρ1⟩, hr, h2, kk _ _ _ h4⟩
theorem we_jf {t : Bool} {x y : Option Out} {A B : Option γ} {S : γ → Option β} (f : γ → D) (en : γ → Env) (ka : t = true → WE A x (fun S1 d k ρ1 => k = .val ∧ ∃ r, S1 = some r ∧ d = f r ∧ ρ1 = en r)) (kb : t = false → WE B y (fun S1 d k ρ1 => k = .val ∧ ∃ r, S1 = some r ∧ d = f r ∧ ρ1 = en r)) (kk : ∀ r, KE (S r) (f r) .val (en r)) :
    WE ((if t then A else B).bind S) (if t then x else y) KE := we_jt (fun r d ρ1 => d = f r ∧ ρ1 = en r) ka kb fun r d ρ1 h => by rw [h.1, h.2]; exact kk r
/-! a word with a row of values -/
def eG (f : α → D) (p : Str × List α) : D := .tup (eS p.1 :: p.2.map f)
instance {f : α → D} [Ec f] : Ec (eG f) := ⟨fun p => by simp only [eG, pers, persL, persL_map Ec.p, Bool.and_true]; rfl⟩
instance [DecidableEq α] {f : α → D} [Eqv f] : Eqv (eG f) := ⟨fun a b => by
  obtain ⟨a1, a2⟩ := a; obtain ⟨b1, b2⟩ := b
  simp [eG, eqv, eqvL, Eqv.e, eqvL_map, Bool.decide_and]⟩
instance {f : α → D} : Nn (eG f) := ⟨fun _ => rfl⟩
instance {f : α → D} {n : Nat} [Fln f n] : Fln (eG f) (n + 1) := ⟨fun xs m h => by
  cases m with
  | zero => omega
  | succ m => simp only [eG, flatN, flatNL, flatNL_map fun a => Fln.l (f := f) a m (by omega), Fln.l (f := eS) xs.1 m (by omega), Bool.and_self]⟩
theorem tg0a {f : α → D} (u : Str × List α) : stepOf (eG f u) (.int 0) = some (.ix 0) := by simp [eG, stepOf, ixOf]
theorem tg0b {f : α → D} (u : Str × List α) : getS (eG f u) (.ix 0) = some (eS u.1) := by simp [eG, getS]
theorem k_idxG' {a : E} {i : Nat} {x : Option (Str × List α)} {f : α → D} {k : Kd} [Ec f] (ha : EvK C ρ a x (eG f) k) : EvK C ρ (.idx a (.cst (.int ((i + 1 : Nat) : Int)))) (x.bind fun u => getI u.2 (i : Int)) f .val := fun w hw => by
  cases x with
  | none => cases hw
  | some u =>
    have hw : getI u.2 (i : Int) = some w := hw
    have h1 : u.2[i]? = some w := by
      unfold getI at hw
      have : ixOf u.2.length (i : Int) = if (i : Int) < u.2.length then some i else none := by simp [ixOf]
      rw [this] at hw
      split at hw
      · simpa using hw
      · cases hw
    have hi : i < u.2.length := (List.getElem?_eq_some_iff.mp h1).1
    refine idx_gen (s := .ix (i + 1)) (i := .int ((i + 1 : Nat) : Int)) (k2 := .val) (ha u rfl) (by simp only [ev]) ?_ ?_ (Ec.p w)
    · simp only [eG, stepOf, ixOf, List.length_cons, List.length_map]
      rw [if_pos (by omega), if_pos (by omega)]
      rfl
    · simp only [eG, getS, List.getElem?_cons_succ, List.getElem?_map, h1, Option.map_some]
theorem k_idxG {a : E} {i j : Int} (n : Nat) (hi : i = ((n + 1 : Nat) : Int)) (hj : j = (n : Int)) {x : Option (Str × List α)} {f : α → D} {k : Kd} [Ec f] (ha : EvK C ρ a x (eG f) k) : EvK C ρ (.idx a (.cst (.int i))) (x.bind fun u => getI u.2 j) f .val := by
  subst hi hj
  exact k_idxG' ha
theorem cut_nat (xs : List α) (a b : Nat) : cut xs (some (a : Int)) (some (b : Int)) = (xs.drop a).take (b - a) := by
  simp only [cut, cutLo, cutHi]
  rw [if_neg (by omega), if_neg (by omega)]
  simp only [Int.toNat_natCast]
  by_cases h : a ≤ xs.length
  · rw [Nat.min_eq_left h, List.take_eq_take_iff, List.length_drop]; omega
  · rw [List.drop_eq_nil_of_le (by omega), List.drop_eq_nil_of_le (by omega)]; simp
theorem cut_natN (xs : List α) (b : Nat) : cut xs none (some (b : Int)) = xs.take b := by
  have := cut_nat xs 0 b
  simpa [cut, cutLo, cutHi] using this
theorem cut_natE (xs : List α) (a : Nat) : cut xs (some (a : Int)) none = xs.drop a := by
  simp only [cut, cutLo, cutHi]
  rw [if_neg (by omega)]
  simp only [Int.toNat_natCast]
  by_cases h : a ≤ xs.length
  · rw [Nat.min_eq_left h, List.take_of_length_le (by rw [List.length_drop]; omega)]
  · rw [List.drop_eq_nil_of_le (by omega), List.drop_eq_nil_of_le (by omega)]; simp
theorem slG1 {f : α → D} {a b : Nat} (u : Str × List α) : slc (eG f u) (some ((a + 1 : Nat) : Int)) (some ((b + 1 : Nat) : Int)) = some (eT f ((u.2.drop a).take (b - a))) := by
  simp only [eG, slc, cut_nat, List.drop_succ_cons, Nat.add_sub_add_right, eT, List.map_take, List.map_drop]
theorem slG1e {f : α → D} {a : Nat} (u : Str × List α) : slc (eG f u) (some ((a + 1 : Nat) : Int)) none = some (eT f (u.2.drop a)) := by
  simp only [eG, slc, cut_natE, List.drop_succ_cons, eT, List.map_drop]
theorem slG0 {f : α → D} {b : Nat} (u : Str × List α) : slc (eG f u) none (some ((b + 1 : Nat) : Int)) = some (eG f (u.1, u.2.take b)) := by
  simp only [eG, slc, cut_natN, List.take_succ_cons, List.map_take]
@[irreducible] noncomputable def tagG (u : List Str) (v : List α) : Option (Str × List α) := match u with
  | [s] => @ite _ (v.length + 1 < lim) (Classical.propDecidable _) (some (s, v)) none
  | _ => none
theorem tagG_eq {s : Str} {v : List α} (h : v.length < 1000) : tagG [s] v = some (s, v) := by
  unfold tagG
  exact if_pos (by unfold lim; omega)
theorem o_addG {f : α → D} : OpB .add (eT eS) (eT f) tagG (eG f) := fun u v w h => by
  unfold tagG at h
  split at h
  · rename_i s
    split at h
    · rename_i hl
      cases h
      simp only [eT, eG, bop, List.map_cons, List.map_nil, List.cons_append, List.nil_append, mkT, List.length_cons, List.length_map]
      rw [if_pos (by omega)]
    · cases h
  · cases h
end
end SH

set_option autoImplicit false
set_option linter.all false
set_option maxRecDepth 100000
/-! SH10: sorted, sets, max, min -/
namespace SH
open LP
section
variable {α β γ δ ε κ σ τ : Type} {C : Cll} {ρ : Env}
class Fct (p : Prop) : Prop where
  out : p
/-- values that compare -/
class Cm (f : α → D) (lt : outParam (α → α → Bool)) : Prop where
  a : ∀ a b, alk (f a) (f b) = true
  l : ∀ a b, ltB (f a) (f b) = lt a b
def ltI (a b : Int) : Bool := decide (a < b)
def ltS (a b : Str) : Bool := ltN (a.map Char.toNat) (b.map Char.toNat)
def lt2 [DecidableEq α] [DecidableEq β] (l1 : α → α → Bool) (l2 : β → β → Bool) (p q : α × β) : Bool := if p.1 = q.1 then (if p.2 = q.2 then false else l2 p.2 q.2) else l1 p.1 q.1
def lt3 [DecidableEq α] [DecidableEq β] [DecidableEq γ] (l1 : α → α → Bool) (l2 : β → β → Bool) (l3 : γ → γ → Bool) (p q : T3 α β γ) : Bool := if p.a = q.a then (if p.b = q.b then (if p.c = q.c then false else l3 p.c q.c) else l2 p.b q.b) else l1 p.a q.a
def ltL [DecidableEq α] (l : α → α → Bool) : List α → List α → Bool
  | _, [] => false
  | [], _ :: _ => true
  | a :: x, b :: y => if a = b then ltL l x y else l a b
instance : Cm eI ltI := ⟨fun _ _ => rfl, fun _ _ => rfl⟩
instance : Cm eS ltS := ⟨fun _ _ => rfl, fun _ _ => rfl⟩
theorem alkL_map {f : α → D} (h : ∀ a b, alk (f a) (f b) = true) : ∀ xs ys : List α, alkL (xs.map f) (ys.map f) = true
  | [], _ => by simp [alkL]
  | _ :: _, [] => by simp [alkL]
  | a :: x, b :: y => by simp [alkL, h, alkL_map h x y]
theorem ltBL_map [DecidableEq α] {f : α → D} {lt : α → α → Bool} [Cm f lt] [Eqv f] : ∀ xs ys : List α, ltBL (xs.map f) (ys.map f) = ltL lt xs ys
  | [], [] => by simp [ltBL, ltL]
  | _ :: _, [] => by simp [ltBL, ltL]
  | [], _ :: _ => by simp [ltBL, ltL]
  | a :: x, b :: y => by simp only [List.map_cons, ltBL, ltL, Eqv.e, decide_eq_true_eq, ltBL_map x y, Cm.l]
instance [DecidableEq α] {f : α → D} {lt : α → α → Bool} [Cm f lt] [Eqv f] : Cm (eT f) (ltL lt) := ⟨fun a b => by simp only [eT, alk, alkL_map Cm.a], fun a b => by simp only [eT, ltB, ltBL_map]⟩
instance [DecidableEq α] [DecidableEq β] {f : α → D} {g : β → D} {l1 : α → α → Bool} {l2 : β → β → Bool} [Cm f l1] [Cm g l2] [Eqv f] [Eqv g] : Cm (e2 f g) (lt2 l1 l2) := ⟨fun a b => by simp only [e2, alk, alkL, Cm.a, Bool.and_self], fun a b => by
  simp only [e2, ltB, ltBL, Eqv.e, decide_eq_true_eq, Cm.l, lt2]⟩
instance [DecidableEq α] [DecidableEq β] [DecidableEq γ] {f : α → D} {g : β → D} {h : γ → D} {l1 : α → α → Bool} {l2 : β → β → Bool} {l3 : γ → γ → Bool} [Cm f l1] [Cm g l2] [Cm h l3] [Eqv f] [Eqv g] [Eqv h] : Cm (e3 f g h) (lt3 l1 l2 l3) := ⟨fun a b => by simp only [e3, alk, alkL, Cm.a, Bool.and_self], fun a b => by
  simp only [e3, ltB, ltBL, Eqv.e, decide_eq_true_eq, Cm.l, lt3]⟩
/-- .. that can be sorted, if p -/
class Tc (f : α → D) (p : outParam (α → Bool)) : Prop where
  t : (∀ a, p a = true → isTupC (f a) = true) ∨ ∀ a, isTupN (f a) = false
def tt (_ : α) : Bool := true
def ne (x : List α) : Bool := !x.isEmpty
instance : Tc eI tt := ⟨.inr fun _ => rfl⟩
instance : Tc eS tt := ⟨.inr fun _ => rfl⟩
instance {f : α → D} {g : β → D} : Tc (e2 f g) tt := ⟨.inl fun _ _ => rfl⟩
instance {f : α → D} {g : β → D} {h : γ → D} : Tc (e3 f g h) tt := ⟨.inl fun _ _ => rfl⟩
instance {f : α → D} : Tc (eT f) ne := ⟨.inl fun x h => by cases x <;> simp_all [ne, eT, isTupC]⟩
theorem sortOk_map {f : α → D} {lt : α → α → Bool} {p : α → Bool} {n : Nat} [Cm f lt] [Tc f p] [Fln f n] (hn : n ≤ 63) (xs : List α) (h : xs.all p = true) : sortOk (xs.map f) = true := by
  unfold sortOk flatL
  simp only [Bool.and_eq_true, Bool.or_eq_true]
  refine ⟨⟨flatNL_map (fun a => Fln.l (f := f) a 63 hn) xs, ?_⟩, ?_⟩
  · simp only [allAlk, List.all_eq_true, List.mem_map]
    rintro _ ⟨a, _, rfl⟩ _ ⟨b, _, rfl⟩
    exact Cm.a a b
  · simp only [List.all_eq_true] at h
    rcases Tc.t (f := f) (p := p) with q | q
    · refine .inl ?_
      simp only [List.all_eq_true, List.mem_map]
      rintro _ ⟨a, ha, rfl⟩
      exact q a (h a ha)
    · refine .inr ?_
      simp only [List.all_eq_true, List.mem_map, Bool.not_eq_true']
      rintro _ ⟨a, ha, rfl⟩
      exact q a
def insI (lt : α → α → Bool) (x : α) : List α → List α
  | [] => [x]
  | d :: ds => if lt d x then d :: insI lt x ds else x :: d :: ds
def isort (lt : α → α → Bool) : List α → List α
  | [] => []
  | d :: ds => insI lt d (isort lt ds)
def insS [DecidableEq α] (lt : α → α → Bool) (x : α) : List α → List α
  | [] => [x]
  | d :: ds => if x = d then d :: ds else if lt x d then x :: d :: ds else d :: insS lt x ds
def uniqS [DecidableEq α] (lt : α → α → Bool) : List α → List α
  | [] => []
  | d :: ds => insS lt d (uniqS lt ds)
def ddup [DecidableEq α] : List α → List α
  | [] => []
  | d :: ds => if d ∈ ds then ddup ds else d :: ddup ds
theorem insSort_map {f : α → D} {lt : α → α → Bool} [Cm f lt] (x : α) : ∀ xs : List α, insSort (f x) (xs.map f) = (insI lt x xs).map f
  | [] => rfl
  | a :: xs => by
    simp only [List.map_cons, insSort, insI, Cm.l, insSort_map x xs]
    split <;> rfl
theorem sortD_map {f : α → D} {lt : α → α → Bool} [Cm f lt] : ∀ xs : List α, sortD (xs.map f) = (isort lt xs).map f
  | [] => rfl
  | a :: xs => by simp only [List.map_cons, sortD, isort, sortD_map xs, insSort_map]
theorem insSet_map [DecidableEq α] {f : α → D} {lt : α → α → Bool} [Cm f lt] [Eqv f] (x : α) : ∀ xs : List α, insSet (f x) (xs.map f) = (insS lt x xs).map f
  | [] => rfl
  | a :: xs => by
    simp only [List.map_cons, insSet, insS, Cm.l, Eqv.e, insSet_map x xs, decide_eq_true_eq]
    split
    · rfl
    · split <;> rfl
theorem setD_map [DecidableEq α] {f : α → D} {lt : α → α → Bool} [Cm f lt] [Eqv f] : ∀ xs : List α, setD (xs.map f) = (uniqS lt xs).map f
  | [] => rfl
  | a :: xs => by simp only [List.map_cons, setD, uniqS, setD_map xs, insSet_map]
theorem dedup_map [DecidableEq α] {f : α → D} [Eqv f] : ∀ xs : List α, dedup (xs.map f) = (ddup xs).map f
  | [] => rfl
  | a :: xs => by
    simp only [List.map_cons, dedup, ddup, memV_map, dedup_map xs, decide_eq_true_eq]
    split <;> rfl
@[irreducible] noncomputable def srtG (p : α → Bool) (lt : α → α → Bool) (xs : List α) : Option (List α) := @ite _ (xs.all p = true) (Classical.propDecidable _) (some (isort lt xs)) none
theorem srtG_eq {p : α → Bool} {lt : α → α → Bool} {xs : List α} (h : ∀ x ∈ xs, p x = true) : srtG p lt xs = some (isort lt xs) := by unfold srtG; exact if_pos (List.all_eq_true.mpr h)
@[irreducible] noncomputable def ssetG [DecidableEq α] (p : α → Bool) (lt : α → α → Bool) (xs : List α) : Option (List α) := @ite _ (xs.all p = true ∧ xs.length < 4000 ∧ (ddup xs).length < 64) (Classical.propDecidable _) (some (uniqS lt xs)) none
@[irreducible] noncomputable def lsetG [DecidableEq α] (p : α → Bool) (xs : List α) : Option Int := @ite _ (xs.all p = true ∧ xs.length < 4000 ∧ (ddup xs).length < 64) (Classical.propDecidable _) (some ((ddup xs).length : Int)) none
theorem sq_of {c : List α → D} {f : α → D} [Sq c f] [Ec f] (xs : List α) : seqOf (c xs) = some (xs.map f) := by
  rcases Sq.s (c := c) (f := f) with h | ⟨o, h⟩ <;> rw [h] <;> simp [seqOf, persL_map (Ec.p (f := f))]
theorem sq_nd {c : List α → D} {f : α → D} [Sq c f] (xs : List α) : ∀ o ks, c xs ≠ .dct o ks := fun o ks => by
  rcases Sq.s (c := c) (f := f) with h | ⟨o, h⟩ <;> rw [h] <;> simp
theorem b_sorted {c : List α → D} {f : α → D} {lt : α → α → Bool} {p : α → Bool} {n : Nat} [Sq c f] [Ec f] [Cm f lt] [Tc f p] [Fln f n] (hn : n ≤ 63 := by decide) : OpF .sorted c (fun u => srtG p lt u) (eL true f) := fun u w h => by
  have h : srtG p lt u = some w := h
  unfold srtG at h
  split at h
  · rename_i hp
    cases h
    have h1 := sq_of (c := c) (f := f) u
    have h2 := sortOk_map (f := f) hn u hp
    rcases Sq.s (c := c) (f := f) with h | ⟨o, h⟩ <;> rw [h] at h1 ⊢ <;> simp only [blt, h1, h2, if_true, sortD_map, eL]
  · cases h
theorem b_sortedD {o : Bool} {f : κ → D} {g : β → D} {lt : κ → κ → Bool} {p : κ → Bool} {n : Nat} [Cm f lt] [Tc f p] [Fln f n] (hn : n ≤ 63 := by decide) : OpF .sorted (eDi o f g) (fun u => srtG p lt (u.map (·.1))) (eL true f) := fun u w h => by
  have h : srtG p lt (u.map (·.1)) = some w := h
  unfold srtG at h
  split at h
  · rename_i hp
    cases h
    have h2 := sortOk_map (f := f) hn _ hp
    have e : (u.map fun p => (f p.1, g p.2)).map (·.1) = (u.map (·.1)).map f := by rw [List.map_map, List.map_map]; rfl
    simp only [eDi, blt, e, h2, if_true, sortD_map, eL]
  · cases h
theorem b_listD {o : Bool} {f : κ → D} {g : β → D} : OpF .list (eDi o f g) (fun u => some (u.map (·.1))) (eL true f) := fun u w h => by
  cases h
  have e : (u.map fun p => (f p.1, g p.2)).map (·.1) = (u.map (·.1)).map f := by rw [List.map_map, List.map_map]; rfl
  simp only [eDi, blt, e, eL]
/-- members of sets -/
class Stb (f : α → D) (p : outParam (α → Bool)) : Prop where
  s : ∀ xs : List α, xs.all p = true → xs.length < 4000 → (dedup (xs.map f)).length < 64 → (setOk (xs.map f) || setOkI (xs.map f)) = true
instance : Stb eI tt := ⟨fun xs _ h1 h2 => by
  simp only [Bool.or_eq_true]
  refine .inr ?_
  unfold setOkI
  simp only [Bool.and_eq_true, List.all_eq_true, List.mem_map, decide_eq_true_eq, List.length_map]
  refine ⟨⟨?_, h1⟩, h2⟩
  rintro _ ⟨a, _, rfl⟩
  rfl⟩
/-- hashable, and no dict or list within -/
class Ke (f : α → D) : Prop where
  k : ∀ a, keyOk (f a) = true
instance : Ke eI := ⟨fun _ => rfl⟩
instance : Ke eS := ⟨fun _ => rfl⟩
theorem keyOkL_map {f : α → D} (h : ∀ a, keyOk (f a) = true) : ∀ xs : List α, keyOkL (xs.map f) = true
  | [] => rfl
  | a :: xs => by simp only [List.map_cons, keyOkL, h, keyOkL_map h xs, Bool.and_self]
instance {f : α → D} [Ke f] : Ke (eT f) := ⟨fun a => by simp only [eT, keyOk, keyOkL_map Ke.k]⟩
instance {f : α → D} {g : β → D} [Ke f] [Ke g] : Ke (e2 f g) := ⟨fun a => by simp only [e2, keyOk, keyOkL, Ke.k, Bool.and_self]⟩
instance {f : α → D} {g : β → D} {h : γ → D} [Ke f] [Ke g] [Ke h] : Ke (e3 f g h) := ⟨fun a => by simp only [e3, keyOk, keyOkL, Ke.k, Bool.and_self]⟩
theorem setOk_map {f : α → D} {lt : α → α → Bool} {p : α → Bool} {n : Nat} [Cm f lt] [Tc f p] [Fln f n] [Ke f] (hn : n ≤ 8) (ht : ∀ a, isTupN (f a) = true) (hm : ∀ a, isNon (f a) = false) (xs : List α) (h : xs.all p = true) (h2 : (dedup (xs.map f)).length < 64) : setOk (xs.map f) = true := by
  unfold setOk
  simp only [Bool.and_eq_true, List.all_eq_true, List.mem_map, decide_eq_true_eq, Bool.not_eq_true']
  refine ⟨⟨⟨⟨⟨keyOkL_map Ke.k xs, flatNL_map (fun a => Fln.l (f := f) a 8 hn) xs⟩, sortOk_map (by omega) xs h⟩, ?_⟩, ?_⟩, h2⟩
  · rintro _ ⟨a, _, rfl⟩; exact ht a
  · rintro _ ⟨a, _, rfl⟩; exact hm a
instance [DecidableEq α] [DecidableEq β] {f : α → D} {g : β → D} {l1 : α → α → Bool} {l2 : β → β → Bool} {n k : Nat} [Cm f l1] [Cm g l2] [Eqv f] [Eqv g] [Ke f] [Ke g] [Fln f n] [Fln g k] [Fct (n ≤ 6)] [Fct (k ≤ 6)] : Stb (e2 f g) tt := ⟨fun xs h _ h2 => by
  rw [setOk_map (n := max n k + 1) (by have := Fct.out (p := n ≤ 6); have := Fct.out (p := k ≤ 6); omega) (fun _ => rfl) (fun _ => rfl) xs h h2]; rfl⟩
instance [DecidableEq α] [DecidableEq β] [DecidableEq γ] {f : α → D} {g : β → D} {h : γ → D} {l1 : α → α → Bool} {l2 : β → β → Bool} {l3 : γ → γ → Bool} {n k m : Nat} [Cm f l1] [Cm g l2] [Cm h l3] [Eqv f] [Eqv g] [Eqv h] [Ke f] [Ke g] [Ke h] [Fln f n] [Fln g k] [Fln h m] [Fct (n ≤ 6)] [Fct (k ≤ 6)] [Fct (m ≤ 6)] : Stb (e3 f g h) tt := ⟨fun xs h' _ h2 => by
  rw [setOk_map (n := max n (max k m) + 1) (by have := Fct.out (p := n ≤ 6); have := Fct.out (p := k ≤ 6); have := Fct.out (p := m ≤ 6); omega) (fun _ => rfl) (fun _ => rfl) xs h' h2]; rfl⟩
instance [DecidableEq α] {f : α → D} {l1 : α → α → Bool} {n : Nat} [Cm f l1] [Eqv f] [Ke f] [Fln f n] [Fct (n ≤ 6)] : Stb (eT f) ne := ⟨fun xs h _ h2 => by
  rw [setOk_map (n := n + 1) (by have := Fct.out (p := n ≤ 6); omega) (fun _ => rfl) (fun _ => rfl) xs h h2]; rfl⟩
theorem b_sortedSet [DecidableEq α] {c : List α → D} {f : α → D} {lt : α → α → Bool} {p : α → Bool} [Sq c f] [Ec f] [Cm f lt] [Eqv f] [Stb f p] : OpF .sortedSet c (fun u => ssetG p lt u) (eL true f) := fun u w h => by
  have h : ssetG p lt u = some w := h
  unfold ssetG at h
  split at h
  · rename_i hp
    cases h
    have h1 := sq_of (c := c) (f := f) u
    have h2 := Stb.s (f := f) u hp.1 hp.2.1 (by rw [dedup_map, List.length_map]; exact hp.2.2)
    simp only [blt, h1, h2, if_true, setD_map, eL]
  · cases h
theorem b_lenSet [DecidableEq α] {c : List α → D} {f : α → D} {p : α → Bool} [Sq c f] [Ec f] [Eqv f] [Stb f p] : OpF .lenSet c (fun u => lsetG p u) eI := fun u w h => by
  have h : lsetG p u = some w := h
  unfold lsetG at h
  split at h
  · rename_i hp
    cases h
    have h1 := sq_of (c := c) (f := f) u
    have h2 := Stb.s (f := f) u hp.1 hp.2.1 (by rw [dedup_map, List.length_map]; exact hp.2.2)
    simp only [blt, h1, h2, if_true, dedup_map, eI, List.length_map]
  · cases h
/-! max, min -/
def maxL (lt : α → α → Bool) (d : α) : List α → α
  | [] => d
  | e :: es => if lt d e then maxL lt e es else maxL lt d es
def minL (lt : α → α → Bool) (d : α) : List α → α
  | [] => d
  | e :: es => if lt e d then minL lt e es else minL lt d es
theorem maxD_map {f : α → D} {lt : α → α → Bool} [Cm f lt] : ∀ (x : α) (xs : List α), maxD (f x) (xs.map f) = f (maxL lt x xs)
  | x, [] => rfl
  | x, a :: xs => by
    simp only [List.map_cons, maxD, maxL, Cm.l, maxD_map a xs, maxD_map x xs]
    split <;> rfl
theorem minD_map {f : α → D} {lt : α → α → Bool} [Cm f lt] : ∀ (x : α) (xs : List α), minD (f x) (xs.map f) = f (minL lt x xs)
  | x, [] => rfl
  | x, a :: xs => by
    simp only [List.map_cons, minD, minL, Cm.l, minD_map a xs, minD_map x xs]
    split <;> rfl
@[irreducible] noncomputable def maxG (p : α → Bool) (lt : α → α → Bool) (xs : List α) : Option α := match xs with
  | [] => none
  | x :: r => @ite _ ((x :: r).all p = true) (Classical.propDecidable _) (some (maxL lt x r)) none
@[irreducible] noncomputable def minG (p : α → Bool) (lt : α → α → Bool) (xs : List α) : Option α := match xs with
  | [] => none
  | x :: r => @ite _ ((x :: r).all p = true) (Classical.propDecidable _) (some (minL lt x r)) none
theorem maxG_eq {p : α → Bool} {lt : α → α → Bool} {x : α} {xs : List α} (h : ∀ y ∈ x :: xs, p y = true) : maxG p lt (x :: xs) = some (maxL lt x xs) := by unfold maxG; exact if_pos (List.all_eq_true.mpr h)
theorem minG_eq {p : α → Bool} {lt : α → α → Bool} {x : α} {xs : List α} (h : ∀ y ∈ x :: xs, p y = true) : minG p lt (x :: xs) = some (minL lt x xs) := by unfold minG; exact if_pos (List.all_eq_true.mpr h)
theorem b_max {c : List α → D} {f : α → D} {lt : α → α → Bool} {p : α → Bool} {n : Nat} [Sq c f] [Ec f] [Cm f lt] [Tc f p] [Fln f n] (hn : n ≤ 63 := by decide) : OpF .max c (fun u => maxG p lt u) f := fun u w h => by
  have h : maxG p lt u = some w := h
  unfold maxG at h
  cases u with
  | nil => cases h
  | cons x xs =>
    simp only at h
    split at h
    · rename_i hp
      cases h
      have h1 := sq_of (c := c) (f := f) (x :: xs)
      have h2 := sortOk_map (f := f) hn _ hp
      simp only [List.map_cons] at h1 h2
      rcases Sq.s (c := c) (f := f) with h | ⟨o, h⟩ <;> rw [h] at h1 ⊢ <;> simp only [blt, h1, h2, if_true, List.map_cons, maxD_map] at h1 ⊢ <;> simp only [h1, h2, if_true, maxD_map]
    · cases h
theorem b_min {c : List α → D} {f : α → D} {lt : α → α → Bool} {p : α → Bool} {n : Nat} [Sq c f] [Ec f] [Cm f lt] [Tc f p] [Fln f n] (hn : n ≤ 63 := by decide) : OpF .min c (fun u => minG p lt u) f := fun u w h => by
  have h : minG p lt u = some w := h
  unfold minG at h
  cases u with
  | nil => cases h
  | cons x xs =>
    simp only at h
    split at h
    · rename_i hp
      cases h
      have h1 := sq_of (c := c) (f := f) (x :: xs)
      have h2 := sortOk_map (f := f) hn _ hp
      simp only [List.map_cons] at h1 h2
      rcases Sq.s (c := c) (f := f) with h | ⟨o, h⟩ <;> rw [h] at h1 ⊢ <;> simp only [blt, h1, h2, if_true, List.map_cons, minD_map] at h1 ⊢ <;> simp only [h1, h2, if_true, minD_map]
    · cases h
def max2 (a b : Int) : Int := if b > a then b else a
def min2 (a b : Int) : Int := if b < a then b else a
theorem b_max2 : ∀ u v w : Int, some (max2 u v) = some w → blt .max [eI u, eI v] = some (eI w) := fun u v w h => by cases h; rfl
theorem b_min2 : ∀ u v w : Int, some (min2 u v) = some w → blt .min [eI u, eI v] = some (eI w) := fun u v w h => by cases h; rfl
theorem b_ltRg {w : List Int} {n : Int} : True := trivial
@[irreducible] noncomputable def rlG (a b : Int) : Option (List Int) := @ite _ (rOk a = true ∧ rOk b = true ∧ b - a < 65536) (Classical.propDecidable _) (some ((List.range (b - a).toNat).map fun k => a + (k : Nat))) none
theorem rlG_eq {a b : Int} (h0 : 0 ≤ a) (h1 : a < 60000) (h2 : 0 ≤ b) (h3 : b < 60000) : rlG a b = some ((List.range (b - a).toNat).map fun k => a + (k : Nat)) := by
  unfold rlG
  exact if_pos ⟨by simp [rOk]; omega, by simp [rOk]; omega, by omega⟩
theorem rangeD_map (a b : Int) : rangeD a b = ((List.range (b - a).toNat).map fun k => a + (k : Nat)).map eI := by unfold rangeD; rw [List.map_map]; rfl
theorem b_lr1 : OpF .listRg eI (fun u => rlG 0 u) (eL true eI) := fun u w h => by
  have h : rlG 0 u = some w := h
  unfold rlG at h
  split at h
  · rename_i hp
    cases h
    simp only [eI, blt, hp.2.1, Bool.true_and, eL, rangeD_map]
    rw [if_pos (by have := hp.2.2; simp; omega)]
  · cases h
theorem b_tr1 : OpF .tupRg eI (fun u => rlG 0 u) (eT eI) := fun u w h => by
  have h : rlG 0 u = some w := h
  unfold rlG at h
  split at h
  · rename_i hp
    cases h
    simp only [eI, blt, hp.2.1, Bool.true_and, eT, rangeD_map]
    rw [if_pos (by have := hp.2.2; simp; omega)]
  · cases h
theorem b_lr2 : ∀ u v w, rlG u v = some w → blt .listRg [eI u, eI v] = some (eL true eI w) := fun u v w h => by
  unfold rlG at h
  split at h
  · rename_i hp
    cases h
    simp only [eI, blt, hp.1, hp.2.1, Bool.true_and, eL, rangeD_map]
    rw [if_pos (by have := hp.2.2; simp; omega)]
  · cases h
theorem b_tr2 : ∀ u v w, rlG u v = some w → blt .tupRg [eI u, eI v] = some (eT eI w) := fun u v w h => by
  unfold rlG at h
  split at h
  · rename_i hp
    cases h
    simp only [eI, blt, hp.1, hp.2.1, Bool.true_and, eT, rangeD_map]
    rw [if_pos (by have := hp.2.2; simp; omega)]
  · cases h
end
instance : Fct (0 ≤ 6) := ⟨by decide⟩
instance : Fct (1 ≤ 6) := ⟨by decide⟩
instance : Fct (2 ≤ 6) := ⟨by decide⟩
instance : Fct (3 ≤ 6) := ⟨by decide⟩
instance : Fct (max 0 0 + 1 ≤ 6) := ⟨by decide⟩
end SH

set_option autoImplicit false
set_option linter.all false
/-! plain facts on the typed readings -/
namespace SM
open LP SH
section
variable {α β γ σ τ : Type}
/-- not by rfl: the kernel must not compare what stands around -/
theorem bs (a : α) (f : α → Option β) : (some a).bind f = f a := by
  have h : ∀ o : Option α, o = some a → o.bind f = f a := fun o ho => by subst ho; rfl
  exact h _ rfl
theorem lcM_some {xs : List α} {f : α → Option (Option β)} (r : α → Option β) (hl : xs.length < 1000000) (h : ∀ a ∈ xs, f a = some (r a)) : lcM xs f = some (xs.filterMap r) := by
  have key : ∀ xs : List α, (∀ a ∈ xs, f a = some (r a)) → (xs.mapM f).map (·.filterMap id) = some (xs.filterMap r) := by
    intro xs
    induction xs with
    | nil => intro _; rfl
    | cons a xs ih =>
      intro h
      have ih := ih fun b hb => h b (by simp [hb])
      rw [List.mapM_cons, h a (by simp)]
      cases hm : xs.mapM f with
      | none => rw [hm] at ih; cases ih
      | some ys =>
        rw [hm] at ih
        simp only [Option.map_some, Option.some.injEq] at ih
        cases hr : r a <;> simp [hr, ih, bind, pure, Option.bind]
  unfold lcM
  rw [if_pos (by unfold lim; omega)]
  exact key xs h
theorem lcM_fil' {xs : List α} {f : α → Option (Option α)} (p : α → Bool) (hl : xs.length < 1000000) (h : ∀ a ∈ xs, f a = some (if p a then some a else none)) : lcM xs f = some (xs.filter p) := by
  rw [lcM_some (fun a => if p a then some a else none) hl h]
  congr 1
  induction xs with
  | nil => rfl
  | cons a xs ih =>
    have ih := ih (by simp at hl; omega) fun b hb => h b (by simp [hb])
    by_cases hp : p a = true
    · simp [hp, ih]
    · simp [hp, ih]
theorem lcM_map' {xs : List α} {f : α → Option (Option β)} (g : α → β) (hl : xs.length < 1000000) (h : ∀ a ∈ xs, f a = some (some (g a))) : lcM xs f = some (xs.map g) := by
  rw [lcM_some (fun a => some (g a)) hl h]
  simp
theorem lcMap_eq {xs : List α} {g : α → β} (hl : xs.length < 1000000) : lcMap xs g = some (xs.map g) := by
  unfold lcMap; rw [if_pos (by unfold lim; omega)]
theorem lcFil_eq {xs : List α} {p : α → Bool} {g : α → β} (hl : xs.length < 1000000) : lcFil xs p g = some ((xs.filter p).map g) := by
  unfold lcFil; rw [if_pos (by unfold lim; omega)]
theorem lcFil_id {xs : List α} {p : α → Bool} (hl : xs.length < 1000000) : lcFil xs p (fun a => a) = some (xs.filter p) := by
  rw [lcFil_eq hl]; simp
theorem pushG_eq {xs : List α} {a : α} (hl : xs.length < 1000000) : pushG xs a = some (xs ++ [a]) := by
  unfold pushG; rw [if_pos (by unfold lim; omega)]
theorem putG_eq [DecidableEq α] {xs : List (α × β)} {a : α} {b : β} (hl : xs.length < 1000000) : putG xs a b = some (dput xs a b) := by
  unfold putG; rw [if_pos (by unfold lim; omega)]
theorem lmG_eq {xs : List α} (hl : xs.length < 1000000) : lmG xs = some xs := by
  unfold lmG; rw [if_pos (by unfold lim; omega)]
theorem sameF_eq [DecidableEq α] [Sz α] {a b : α} (h : Sz.ok b = true) : sameF a b = some (decide (a = b)) := by
  unfold sameF; rw [if_pos h]
theorem rngG_nat {n : Nat} (h : n < 1000000) : rngG 0 (n : Int) = some (rangeI 0 n) := rng_nat h
theorem rngG_eq {a b : Int} (h1 : -1000000 < a) (h2 : a < 1000000) (h3 : -1000000 < b) (h4 : b < 1000000) : rngG a b = some (rangeI a b) := by
  unfold rngG
  rw [if_pos]
  have e1 : rOk a = true := by unfold rOk; simp; omega
  have e2 : rOk b = true := by unfold rOk; simp; omega
  rw [e1, e2]; rfl
theorem mem_rangeI {a b k : Int} : k ∈ rangeI a b ↔ a ≤ k ∧ k < b := by
  simp only [rangeI, List.mem_map, List.mem_range]
  constructor
  · rintro ⟨x, hx, rfl⟩; omega
  · rintro ⟨h1, h2⟩; exact ⟨(k - a).toNat, by omega, by omega⟩
theorem rangeI_len (a b : Int) : (rangeI a b).length = (b - a).toNat := by simp [rangeI]
theorem rangeI_nat (n : Nat) : rangeI 0 (n : Int) = (List.range n).map Int.ofNat := by
  simp [rangeI]
theorem rangeI_succ (n : Nat) : rangeI 0 ((n + 1 : Nat) : Int) = rangeI 0 (n : Int) ++ [(n : Int)] := by
  rw [rangeI_nat, rangeI_nat, List.range_succ, List.map_append]; rfl
theorem getI_lt {xs : List α} {k : Int} (h0 : 0 ≤ k) (h : k < xs.length) : ∃ a, getI xs k = some a ∧ xs[k.toNat]? = some a := by
  obtain ⟨n, rfl⟩ : ∃ n : Nat, k = n := ⟨k.toNat, by omega⟩
  have hn : n < xs.length := by omega
  exact ⟨xs[n], by rw [getI_nat]; simp [hn], by simp [hn]⟩
theorem getI_mem {xs : List α} {k : Int} {a : α} (h : getI xs k = some a) : a ∈ xs := by
  unfold getI at h
  cases hn : ixOf xs.length k with
  | none => rw [hn] at h; cases h
  | some m => rw [hn] at h; exact List.mem_of_getElem? h
theorem cut_to {xs : List α} (k : Nat) : cut xs none (some (k : Int)) = xs.take k := by
  unfold cut cutLo cutHi
  have : ¬ ((k : Int) < 0) := by omega
  simp only [this, if_false, Int.toNat_natCast, List.drop_zero, Nat.sub_zero]
  by_cases h : k ≤ xs.length
  · rw [Nat.min_eq_left h]
  · rw [Nat.min_eq_right (by omega), List.take_of_length_le (by omega), List.take_of_length_le (by omega)]
theorem cut_from {xs : List α} (k : Nat) : cut xs (some (k : Int)) none = xs.drop k := by
  unfold cut cutLo cutHi
  have : ¬ ((k : Int) < 0) := by omega
  simp only [this, if_false, Int.toNat_natCast]
  by_cases h : k ≤ xs.length
  · rw [Nat.min_eq_left h, List.take_of_length_le (by simp)]
  · rw [Nat.min_eq_right (by omega), List.take_of_length_le (by simp), List.drop_of_length_le (by omega), List.drop_of_length_le (by omega)]
theorem forN_inv {step : α → σ → Option σ} {P : σ → Prop} : ∀ {xs : List α} {s : σ}, P s → (∀ a ∈ xs, ∀ s, P s → ∃ s', step a s = some s' ∧ P s') → ∃ s', forN step xs s = some s' ∧ P s'
  | [], s, h, _ => ⟨s, rfl, h⟩
  | a :: xs, s, h, hs => by
    obtain ⟨s1, e1, h1⟩ := hs a (by simp) s h
    obtain ⟨s2, e2, h2⟩ := forN_inv (xs := xs) h1 fun b hb => hs b (by simp [hb])
    exact ⟨s2, by simp only [forN, e1, Option.bind_some, e2], h2⟩
theorem forN_invL {step : α → σ → Option σ} {P : List α → σ → Prop} : ∀ {xs : List α} {pre : List α} {s : σ}, P pre s → (∀ pre a s, a ∈ xs → P pre s → ∃ s', step a s = some s' ∧ P (pre ++ [a]) s') → ∃ s', forN step xs s = some s' ∧ P (pre ++ xs) s'
  | [], pre, s, h, _ => ⟨s, rfl, by simpa using h⟩
  | a :: xs, pre, s, h, hs => by
    obtain ⟨s1, e1, h1⟩ := hs pre a s (by simp) h
    obtain ⟨s2, e2, h2⟩ := forN_invL (xs := xs) h1 fun p b s hb => hs p b s (by simp [hb])
    exact ⟨s2, by simp only [forN, e1, Option.bind_some, e2], by simpa using h2⟩
theorem forN_congr {s1 s2 : α → σ → Option σ} : ∀ {xs : List α} {s : σ}, (∀ a ∈ xs, ∀ s, s1 a s = s2 a s) → forN s1 xs s = forN s2 xs s
  | [], s, _ => rfl
  | a :: xs, s, h => by
    simp only [forN, h a (by simp)]
    cases s2 a s with
    | none => rfl
    | some s' => exact forN_congr fun b hb => h b (by simp [hb])
/-- equal where an invariant holds -/
theorem forN_congrP {s1 s2 : α → σ → Option σ} {P : σ → Prop} : ∀ {xs : List α} {s : σ}, P s → (∀ a ∈ xs, ∀ s, P s → s1 a s = s2 a s ∧ ∀ s', s2 a s = some s' → P s') → forN s1 xs s = forN s2 xs s
  | [], s, _, _ => rfl
  | a :: xs, s, hp, h => by
    simp only [forN, (h a (by simp) s hp).1]
    cases hs : s2 a s with
    | none => rfl
    | some s' => exact forN_congrP ((h a (by simp) s hp).2 s' hs) fun b hb => h b (by simp [hb])
theorem forN_app {step : α → σ → Option σ} : ∀ {xs ys : List α} {s : σ}, forN step (xs ++ ys) s = (forN step xs s).bind (forN step ys)
  | [], ys, s => rfl
  | a :: xs, ys, s => by
    simp only [List.cons_append, forN]
    cases step a s with
    | none => rfl
    | some s' => exact forN_app
/-- a loop that pushes what passes -/
theorem forN_push {step : α → List α → Option (List α)} (p : α → Bool) : ∀ {xs acc : List α}, acc.length + xs.length < 1000000 → (∀ a ∈ xs, ∀ acc, step a acc = if p a then pushG acc a else some acc) → forN step xs acc = some (acc ++ xs.filter p)
  | [], acc, _, _ => by simp [forN]
  | a :: xs, acc, hl, h => by
    simp only [List.length_cons] at hl
    simp only [forN, h a (by simp)]
    by_cases hp : p a = true
    · rw [if_pos hp, pushG_eq (by omega)]
      simp only [Option.bind_some]
      rw [forN_push p (by simp; omega) fun b hb => h b (by simp [hb])]
      simp [hp]
    · rw [if_neg hp]
      simp only [Option.bind_some]
      rw [forN_push p (by omega) fun b hb => h b (by simp [hb])]
      simp [hp]
theorem forC_inv {step : α → σ → Option (Ct σ β)} {P : σ → Prop} : ∀ {xs : List α} {s : σ}, P s → (∀ a ∈ xs, ∀ s, P s → ∃ s', step a s = some (.nx s') ∧ P s') → ∃ s', forC step xs s = some (.inl s') ∧ P s'
  | [], s, h, _ => ⟨s, rfl, h⟩
  | a :: xs, s, h, hs => by
    obtain ⟨s1, e1, h1⟩ := hs a (by simp) s h
    obtain ⟨s2, e2, h2⟩ := forC_inv (xs := xs) h1 fun b hb => hs b (by simp [hb])
    exact ⟨s2, by simp only [forC, e1, Option.bind_some, e2], h2⟩
theorem jn_inl {s : α} {S : α → Option β} : jn (some (.inl s)) S = S s := rfl
theorem jn_inr {x : β} {S : α → Option β} : jn (some (.inr x)) S = some x := rfl
theorem cal_at {fns : List LP.Fn} {n m i : Nat} {ds : List D} {r : Option α} {f : α → D} {B : α → List Sl → Prop} (h : CalE (callN fns n) i ds r f B) {v : α} {d : D} (e : n = m) (hv : r = some v) (hd : f v = d) : ∃ ss, callN fns m i ds = some (d, ss) := by
  subst e hd
  obtain ⟨ss, h, _⟩ := h v hv
  exact ⟨ss, h⟩
/-! draws -/
theorem next_spec (w : W) {m : Int} (h : 0 < m) : ∃ r w', nextF w m = some (r, w') ∧ 0 ≤ r ∧ r < m :=
  ⟨_, _, by unfold nextF; rw [if_pos h], Int.emod_nonneg _ (by omega), Int.emod_lt_of_pos _ h⟩
theorem getI_lit {xs : List α} {k : Int} {a : α} (n : Nat) (hk : k = n) (h : xs[n]? = some a) : getI xs k = some a := by subst hk; rw [getI_nat, h]
end
end SM

set_option autoImplicit false
set_option linter.all false
set_option maxRecDepth 100000
namespace LW
noncomputable section
open LP SH
def F_L_law_draws_b2 (turn : Int) (s_1 : (List Int) × Int) : Option ((List Int) × Int) :=
  ((if (decide ((0 : Int) < s_1.2)) then (pushG s_1.1 (s_1.2 % (997 : Int))).bind fun draws11 => (some (s_1.2 / (997 : Int))).bind fun rest4 => some ((draws11, rest4)) else some ((s_1.1, s_1.2))) : Option ((List Int) × Int)).bind fun j1 => some ((j1.1, j1.2))
def F_L_law_draws_b1 (script : (List Int)) (k : Int) (s_ : (List Int) × Int) : Option ((List Int) × Int) :=
  (((getI script k).bind fun x => some x).bind fun x => some (((x).natAbs : Int))).bind fun cell => (some ((((s_.2 * (48271 : Int)) + (cell % (1000003 : Int))) + k) % (65537 : Int))).bind fun mixed1 => ((if (decide ((1000000000000000000 : Int) ≤ cell)) then some ((s_.1, cell)) else (pushG s_.1 (cell % (997 : Int))).bind fun draws5 => (pushG draws5 ((((mixed1 * (69621 : Int)) + (5 : Int)) % (65521 : Int)) % (997 : Int))).bind fun draws6 => some ((draws6, (0 : Int)))) : Option ((List Int) × Int)).bind fun j => (rngG 0 (60 : Int)).bind fun xs => (forN (F_L_law_draws_b2) xs (j.1, j.2)).bind fun st => some ((st.1, mixed1))
def F_L_law_draws_b3 (k1 : Int) (s_2 : (List Int) × Int) : Option ((List Int) × Int) :=
  (some ((((s_2.2 * (16807 : Int)) + k1) + (1 : Int)) % (65537 : Int))).bind fun mixed3 => (pushG s_2.1 (mixed3 % (997 : Int))).bind fun draws14 => some ((draws14, mixed3))
def F_L_law_draws (script : (List Int)) (many : Int) : Option ((List Int)) :=
  (rngG 0 (script.length : Int)).bind fun xs2 => (forN (F_L_law_draws_b1 script) xs2 (([] : List Int), (7 : Int))).bind fun st1 => (rngG 0 many).bind fun xs1 => (forN (F_L_law_draws_b3) xs1 (st1.1, st1.2)).bind fun st2 => some ((cut st2.1 none (some many)))
end
end LW

set_option autoImplicit false
set_option linter.all false
namespace LW
open LP SH SM
theorem draws_b2_some (turn : Int) (s : List Int × Int) (h : s.1.length < 900000) : ∃ s', F_L_law_draws_b2 turn s = some s' ∧ s'.1.length ≤ s.1.length + 1 := by
  unfold F_L_law_draws_b2
  by_cases hc : (0 : Int) < s.2
  · rw [pushG_eq (by omega)]
    simp [hc]
  · simp [hc]
theorem draws_in (xs : List Int) : ∀ s : List Int × Int, s.1.length + xs.length < 900000 → ∃ s', forN F_L_law_draws_b2 xs s = some s' ∧ s'.1.length ≤ s.1.length + xs.length := by
  induction xs with
  | nil => intro s _; exact ⟨s, rfl, by simp⟩
  | cons a xs ih =>
    intro s h
    simp only [List.length_cons] at h
    obtain ⟨s1, e1, h1⟩ := draws_b2_some a s (by omega)
    obtain ⟨s2, e2, h2⟩ := ih s1 (by omega)
    exact ⟨s2, by simp only [forN, e1, Option.bind_some, e2], by simp; omega⟩
theorem draws_b1_some (ns : List Int) (k : Int) (s : List Int × Int) (h0 : 0 ≤ k) (hk : k < ns.length) (h : s.1.length < 800000) : ∃ s', F_L_law_draws_b1 ns k s = some s' ∧ s'.1.length ≤ s.1.length + 62 := by
  unfold F_L_law_draws_b1
  obtain ⟨x, hx, _⟩ := getI_lt h0 hk
  simp only [hx, Option.bind_some]
  have hr : rngG 0 (60 : Int) = some (rangeI 0 60) := rngG_nat (n := 60) (by omega)
  have hlen : (rangeI 0 60).length = 60 := by rw [rangeI_len]; rfl
  by_cases hc : (1000000000000000000 : Int) ≤ (x.natAbs : Int)
  · obtain ⟨s1, e1, h1⟩ := draws_in (rangeI 0 60) (s.1, (x.natAbs : Int)) (by rw [hlen]; show s.1.length + 60 < 900000; omega)
    rw [hlen] at h1
    simp only [hc, decide_true, if_true, Option.bind_some, hr, e1]
    exact ⟨_, rfl, by show s1.1.length ≤ _; have h1 : s1.1.length ≤ s.1.length + 60 := h1; omega⟩
  · rw [pushG_eq (by omega)]
    simp only [hc, decide_false, Bool.false_eq_true, if_false, Option.bind_some]
    rw [pushG_eq (by simp; omega)]
    simp only [Option.bind_some, hr]
    obtain ⟨s1, e1, h1⟩ := draws_in (rangeI 0 60) (s.1 ++ [(x.natAbs : Int) % 997] ++ [((((s.2 * 48271 + (x.natAbs : Int) % 1000003 + k) % 65537) * 69621 + 5) % 65521) % 997], 0) (by rw [hlen]; simp; omega)
    rw [hlen] at h1
    simp only [e1, Option.bind_some]
    exact ⟨_, rfl, by simp at h1 ⊢; omega⟩
theorem draws_b3_some (k : Int) (s : List Int × Int) (h : s.1.length < 900000) : ∃ s', F_L_law_draws_b3 k s = some s' ∧ s'.1.length ≤ s.1.length + 1 := by
  unfold F_L_law_draws_b3
  simp only [Option.bind_some]
  rw [pushG_eq (by omega)]
  exact ⟨_, rfl, by simp⟩
theorem draws_some (ns : List Int) (m : Nat) (hn : ns.length ≤ 63) (hm : m < 100000) : ∃ ds, F_L_law_draws ns m = some ds := by
  unfold F_L_law_draws
  rw [rngG_nat (by omega), rngG_nat (by omega)]
  simp only [Option.bind_some]
  have k1 : ∀ (xs : List Int) (s : List Int × Int), (∀ k ∈ xs, 0 ≤ k ∧ k < ns.length) → s.1.length + 62 * xs.length < 700000 → ∃ s', forN (F_L_law_draws_b1 ns) xs s = some s' ∧ s'.1.length ≤ s.1.length + 62 * xs.length := by
    intro xs
    induction xs with
    | nil => intro s _ _; exact ⟨s, rfl, by simp⟩
    | cons a xs ih =>
      intro s hm h
      simp only [List.length_cons] at h
      obtain ⟨s1, e1, h1⟩ := draws_b1_some ns a s (hm a (by simp)).1 (hm a (by simp)).2 (by omega)
      obtain ⟨s2, e2, h2⟩ := ih s1 (fun k hk => hm k (by simp [hk])) (by omega)
      exact ⟨s2, by simp only [forN, e1, Option.bind_some, e2], by simp; omega⟩
  have k3 : ∀ (xs : List Int) (s : List Int × Int), s.1.length + xs.length < 700000 → ∃ s', forN F_L_law_draws_b3 xs s = some s' := by
    intro xs
    induction xs with
    | nil => intro s _; exact ⟨s, rfl⟩
    | cons a xs ih =>
      intro s h
      simp only [List.length_cons] at h
      obtain ⟨s1, e1, h1⟩ := draws_b3_some a s (by omega)
      obtain ⟨s2, e2⟩ := ih s1 (by omega)
      exact ⟨s2, by simp only [forN, e1, Option.bind_some, e2]⟩
  have hl1 : (rangeI 0 (ns.length : Int)).length = ns.length := by rw [rangeI_len]; omega
  have hl2 : (rangeI 0 (m : Int)).length = m := by rw [rangeI_len]; omega
  obtain ⟨s1, e1, h1⟩ := k1 (rangeI 0 (ns.length : Int)) ([], 7) (fun k hk => mem_rangeI.mp hk) (by rw [hl1]; simp; omega)
  rw [hl1] at h1
  simp only [e1, Option.bind_some]
  obtain ⟨s2, e2⟩ := k3 (rangeI 0 (m : Int)) (s1.1, s1.2) (by rw [hl2]; simp at h1 ⊢; omega)
  rw [e2]
  exact ⟨_, rfl⟩
end LW

set_option linter.all false
set_option maxRecDepth 100000
namespace LW
open PySem PySem.Spec PyProof.Rows L2 LP LPS
def f_set_of : LP.Fn := { np := 1, ns := 0, ass := [false], body :=
  (.cons (.ret (.blt .tuple (.cons (.blt .sortedSet (.cons (.var 0) .nil)) .nil))) .nil) }
def f_shifted : LP.Fn := { np := 1, ns := 2, ass := [false], body :=
  (.cons (.ret (.call 0 (.cons (.lc1 (.var 1) [1, 2] (.tp [(.nm 1), (.nm 2), (.nm 2)]) (.var 0) .no) .nil))) .nil) }
def f_open_roles : LP.Fn := { np := 3, ns := 7, ass := [false, false, false], body :=
  (.cons (.asg (.nm 3) (.call 1 (.ref 1 .nil))) (.cons (.asg (.nm 4) (.dct .nil)) (.cons (.asg (.nm 5) (.cst (.bl true))) (.cons (.while_ (.var 5) (.cons (.asg (.nm 5) (.cst (.bl false))) (.cons (.for_ (.tp [(.nm 6), (.nm 7), (.nm 8)]) (.var 1) (.cons (.ifs (.and_ (.cmp .nin (.var 6) (.var 4)) (.and_ (.cmp .in_ (.var 2) (.var 7)) (.blt .all (.cons (.lc1 (.or_ (.cmp .in_ (.var 9) (.var 4)) (.cmp .nin (.var 9) (.var 3))) [9] (.nm 9) (.var 8) .no) .nil)))) (.cons (.sto (.var 4) (.var 6) (.cst (.bl true))) (.cons (.asg (.nm 5) (.cst (.bl true))) .nil)) .nil) .nil)) .nil))) (.cons (.ret (.blt .tuple (.cons (.blt .sorted (.cons (.var 4) .nil)) .nil))) .nil))))) }
def f_hours_of : LP.Fn := { np := 3, ns := 1, ass := [false, false, false], body :=
  (.cons (.ret (.blt .tuple (.cons (.lc1 (.var 3) [3] (.nm 3) (.blt .range (.cons (.var 0) .nil)) (.so (.cmp .in_ (.var 2) (.call 2 (.ref 0 (.ref 1 (.ref 3 .nil))))))) .nil))) .nil) }
def f_always_open : LP.Fn := { np := 2, ns := 1, ass := [false, false], body :=
  (.cons (.ret (.blt .tuple (.cons (.lc1 (.var 2) [2] (.nm 2) (.call 1 (.ref 1 .nil)) (.so (.cmp .eq (.blt .len (.cons (.call 3 (.ref 0 (.ref 1 (.ref 2 .nil)))) .nil)) (.var 0)))) .nil))) .nil) }
def f_longest_gap : LP.Fn := { np := 3, ns := 3, ass := [false, false, false], body :=
  (.cons (.asg (.nm 3) (.call 3 (.ref 0 (.ref 1 (.ref 2 .nil))))) (.cons (.ifs (.cmp .eq (.var 3) (.tup .nil)) (.cons (.ret (.var 0)) .nil) .nil) (.cons (.asg (.nm 4) (.lc1 (.bin .sub (.bin .sub (.idx (.var 3) (.bin .add (.var 5) (.cst (.int 1)))) (.idx (.var 3) (.var 5))) (.cst (.int 1))) [5] (.nm 5) (.blt .range (.cons (.bin .sub (.blt .len (.cons (.var 3) .nil)) (.cst (.int 1))) .nil)) .no)) (.cons (.ret (.blt .max (.cons (.bin .add (.var 4) (.lst (.cons (.bin .sub (.bin .sub (.bin .add (.idx (.var 3) (.cst (.int 0))) (.var 0)) (.idx (.var 3) (.neg (.cst (.int 1))))) (.cst (.int 1))) .nil))) .nil))) .nil)))) }
def f__law_draws : LP.Fn := { np := 2, ns := 6, ass := [false, false], body :=
  (.cons (.asg (.nm 2) (.lst .nil)) (.cons (.asg (.nm 3) (.cst (.int 7))) (.cons (.for_ (.nm 4) (.blt .range (.cons (.blt .len (.cons (.var 0) .nil)) .nil)) (.cons (.asg (.nm 5) (.blt .abs (.cons (.blt .int (.cons (.idx (.var 0) (.var 4)) .nil)) .nil))) (.cons (.asg (.nm 3) (.bin .mod (.blt .int (.cons (.bin .add (.bin .add (.bin .mul (.var 3) (.cst (.int 48271))) (.bin .mod (.var 5) (.cst (.int 1000003)))) (.var 4)) .nil)) (.cst (.int 65537)))) (.cons (.asg (.nm 6) (.cst (.int 0))) (.cons (.ifs (.cmp .ge (.var 5) (.bin .pow (.cst (.int 10)) (.cst (.int 18)))) (.cons (.asg (.nm 6) (.var 5)) .nil) (.cons (.expr (.mm .append (.var 2) (.cons (.bin .mod (.blt .int (.cons (.var 5) .nil)) (.cst (.int 997))) .nil))) (.cons (.expr (.mm .append (.var 2) (.cons (.bin .mod (.bin .mod (.blt .int (.cons (.bin .add (.bin .mul (.var 3) (.cst (.int 69621))) (.cst (.int 5))) .nil)) (.cst (.int 65521))) (.cst (.int 997))) .nil))) .nil))) (.cons (.for_ (.nm 7) (.blt .range (.cons (.cst (.int 60)) .nil)) (.cons (.ifs (.cmp .gt (.var 6) (.cst (.int 0))) (.cons (.expr (.mm .append (.var 2) (.cons (.bin .mod (.blt .int (.cons (.var 6) .nil)) (.cst (.int 997))) .nil))) (.cons (.asg (.nm 6) (.bin .div (.var 6) (.cst (.int 997)))) .nil)) .nil) .nil)) .nil)))))) (.cons (.for_ (.nm 4) (.blt .range (.cons (.var 1) .nil)) (.cons (.asg (.nm 3) (.bin .mod (.blt .int (.cons (.bin .add (.bin .add (.bin .mul (.var 3) (.cst (.int 16807))) (.var 4)) (.cst (.int 1))) .nil)) (.cst (.int 65537)))) (.cons (.expr (.mm .append (.var 2) (.cons (.bin .mod (.blt .int (.cons (.var 3) .nil)) (.cst (.int 997))) .nil))) .nil))) (.cons (.ret (.slc (.var 2) .no (.so (.var 1)))) .nil))))) }
def f__law_next : LP.Fn := { np := 2, ns := 0, ass := [false, false], body :=
  (.cons (.augS (.var 0) (.cst (.str [97, 116])) .add (.cst (.int 1))) (.cons (.ifs (.cmp .gt (.idx (.var 0) (.cst (.str [97, 116]))) (.blt .len (.cons (.idx (.var 0) (.cst (.str [100, 114, 97, 119, 115]))) .nil))) (.cons (.ret (.cst (.int 0))) .nil) .nil) (.cons (.ret (.bin .mod (.blt .int (.cons (.idx (.idx (.var 0) (.cst (.str [100, 114, 97, 119, 115]))) (.bin .sub (.idx (.var 0) (.cst (.str [97, 116]))) (.cst (.int 1)))) .nil)) (.var 1))) .nil))) }
def f__law_same : LP.Fn := { np := 2, ns := 1, ass := [false, false], body :=
  (.cons (.ifs (.blt (.isa .tuple) (.cons (.var 1) .nil)) (.cons (.ifs (.or_ (.not_ (.blt (.isa .tuple) (.cons (.var 0) .nil))) (.cmp .ne (.blt .len (.cons (.var 0) .nil)) (.blt .len (.cons (.var 1) .nil)))) (.cons (.ret (.cst (.bl false))) .nil) .nil) (.cons (.ret (.cmp .eq (.lc1 (.var 2) [2] (.nm 2) (.blt .range (.cons (.blt .len (.cons (.var 1) .nil)) .nil)) (.so (.not_ (.call 8 (.cons (.idx (.var 0) (.var 2)) (.cons (.idx (.var 1) (.var 2)) .nil)))))) (.lst .nil))) .nil)) .nil) (.cons (.ifs (.cmp .is (.var 1) (.cst .non)) (.cons (.ret (.cmp .is (.var 0) (.cst .non))) .nil) .nil) (.cons (.ifs (.blt (.isa .str) (.cons (.var 1) .nil)) (.cons (.ret (.and_ (.blt (.isa .str) (.cons (.var 0) .nil)) (.cmp .eq (.var 0) (.var 1)))) .nil) .nil) (.cons (.ret (.and_ (.blt (.isa .int) (.cons (.var 0) .nil)) (.and_ (.cmp .eq (.blt (.isa .bool) (.cons (.var 0) .nil)) (.blt (.isa .bool) (.cons (.var 1) .nil))) (.cmp .eq (.var 0) (.var 1))))) .nil)))) }
def f__law_shifts : LP.Fn := { np := 2, ns := 6, ass := [false, false], body :=
  (.cons (.asg (.nm 2) (.lst .nil)) (.cons (.for_ (.nm 3) (.blt .range (.cons (.call 7 (.ref 0 (.cons (.cst (.int 7)) .nil))) .nil)) (.cons (.asg (.nm 4) (.blt .tuple (.cons (.lc1 (.var 5) [5] (.nm 5) (.blt .range (.cons (.var 1) .nil)) (.so (.cmp .gt (.call 7 (.ref 0 (.cons (.cst (.int 3)) .nil))) (.cst (.int 0))))) .nil))) (.cons (.asg (.nm 6) (.blt .tuple (.cons (.lc1 (.var 7) [7] (.nm 7) (.blt .range (.cons (.cst (.int 4)) .nil)) (.so (.cmp .eq (.call 7 (.ref 0 (.cons (.cst (.int 5)) .nil))) (.cst (.int 0))))) .nil))) (.cons (.expr (.mm .append (.var 2) (.cons (.tup (.cons (.call 7 (.ref 0 (.cons (.cst (.int 3)) .nil))) (.cons (.var 4) (.cons (.var 6) .nil)))) .nil))) .nil)))) (.cons (.ret (.blt .tuple (.cons (.var 2) .nil))) .nil))) }
def f__law_open : LP.Fn := { np := 2, ns := 8, ass := [false, false], body :=
  (.cons (.par [(.nm 2), (.nm 3)] (.cons (.lc1 (.idx (.var 4) (.cst (.int 0))) [4] (.nm 4) (.var 0) .no) (.cons (.lst .nil) .nil))) (.cons (.for_ (.nm 5) (.var 0) (.cons (.for_ (.tp [(.nm 6), (.nm 7), (.nm 8)]) (.var 0) (.cons (.ifs (.and_ (.cmp .nin (.var 6) (.var 3)) (.and_ (.cmp .in_ (.var 1) (.var 7)) (.cmp .eq (.lc1 (.var 9) [9] (.nm 9) (.var 8) (.so (.and_ (.cmp .in_ (.var 9) (.var 2)) (.cmp .nin (.var 9) (.var 3))))) (.lst .nil)))) (.cons (.expr (.mm .append (.var 3) (.cons (.var 6) .nil))) .nil) .nil) .nil)) .nil)) (.cons (.ret (.blt .sorted (.cons (.var 3) .nil))) .nil))) }
def f__law_hours : LP.Fn := { np := 3, ns := 1, ass := [false, false, false], body :=
  (.cons (.ret (.blt .tuple (.cons (.lc1 (.var 3) [3] (.nm 3) (.blt .range (.cons (.var 0) .nil)) (.so (.cmp .in_ (.var 2) (.call 10 (.ref 1 (.ref 3 .nil)))))) .nil))) .nil) }
def f_law : LP.Fn := { np := 1, ns := 12, ass := [false], body :=
  (.cons (.asg (.nm 1) (.dct (.cons (.cst (.str [100, 114, 97, 119, 115])) (.call 6 (.ref 0 (.cons (.cst (.int 600)) .nil))) (.cons (.cst (.str [97, 116])) (.cst (.int 0)) .nil)))) (.cons (.for_ (.nm 2) (.blt .range (.cons (.cst (.int 4)) .nil)) (.cons (.asg (.nm 3) (.bin .add (.cst (.int 3)) (.call 7 (.ref 1 (.cons (.cst (.int 6)) .nil))))) (.cons (.asg (.nm 4) (.call 9 (.ref 1 (.ref 3 .nil)))) (.cons (.asg (.nm 5) (.blt .sortedSet (.cons (.lc1 (.idx (.var 6) (.cst (.int 0))) [6] (.nm 6) (.var 4) .no) .nil))) (.cons (.for_ (.nm 7) (.blt .range (.cons (.var 3) .nil)) (.cons (.ifs (.not_ (.call 8 (.cons (.call 2 (.ref 3 (.ref 4 (.ref 7 .nil)))) (.cons (.blt .tuple (.cons (.call 10 (.ref 4 (.ref 7 .nil))) .nil)) .nil)))) (.cons (.ret (.cst (.bl false))) .nil) .nil) .nil)) (.cons (.ifs (.not_ (.call 8 (.cons (.call 4 (.ref 3 (.ref 4 .nil))) (.cons (.blt .tuple (.cons (.lc1 (.var 8) [8] (.nm 8) (.var 5) (.so (.cmp .eq (.blt .len (.cons (.call 11 (.ref 3 (.ref 4 (.ref 8 .nil)))) .nil)) (.var 3)))) .nil)) .nil)))) (.cons (.ret (.cst (.bl false))) .nil) .nil) (.cons (.for_ (.nm 8) (.var 5) (.cons (.asg (.nm 9) (.call 11 (.ref 3 (.ref 4 (.ref 8 .nil))))) (.cons (.ifs (.not_ (.call 8 (.cons (.call 3 (.ref 3 (.ref 4 (.ref 8 .nil)))) (.ref 9 .nil)))) (.cons (.ret (.cst (.bl false))) .nil) .nil) (.cons (.asg (.nm 10) (.cst (.int 0))) (.cons (.for_ (.nm 11) (.blt .range (.cons (.var 3) .nil)) (.cons (.asg (.nm 12) (.cst (.int 0))) (.cons (.while_ (.and_ (.cmp .lt (.var 12) (.var 3)) (.cmp .nin (.bin .mod (.bin .add (.var 11) (.var 12)) (.var 3)) (.var 9))) (.cons (.aug 12 .add (.cst (.int 1))) .nil)) (.cons (.asg (.nm 10) (.blt .max (.cons (.var 10) (.cons (.var 12) .nil)))) .nil)))) (.cons (.ifs (.not_ (.call 8 (.cons (.call 5 (.ref 3 (.ref 4 (.ref 8 .nil)))) (.ref 10 .nil)))) (.cons (.ret (.cst (.bl false))) .nil) .nil) .nil)))))) .nil))))))) (.cons (.ret (.cst (.bl true))) .nil))) }
def fns : List LP.Fn := [f_set_of, f_shifted, f_open_roles, f_hours_of, f_always_open, f_longest_gap, f__law_draws, f__law_next, f__law_same, f__law_shifts, f__law_open, f__law_hours, f_law]
def top (i : Nat) : Stmt := PySem.Challenge.pw_grantwarrant_k37_hours_of_roles.main.body.getD i (.Pass ⟨0, 0, 0, 0⟩)
abbrev s_set_of : Stmt := top 1
abbrev s_shifted : Stmt := top 3
abbrev s_open_roles : Stmt := top 4
abbrev s_hours_of : Stmt := top 5
abbrev s_always_open : Stmt := top 6
abbrev s_longest_gap : Stmt := top 7
abbrev s__law_draws : Stmt := top 9
abbrev s__law_next : Stmt := top 10
abbrev s__law_same : Stmt := top 13
abbrev s__law_shifts : Stmt := top 14
abbrev s__law_open : Stmt := top 15
abbrev s__law_hours : Stmt := top 16
abbrev s_law : Stmt := top 18
theorem sc_set_of : FnScope ["things"] ["things"] (defScope s_set_of) := ⟨rfl, rfl, rfl, by decide +kernel, rfl, by decide +kernel, by decide +kernel⟩
theorem sc_shifted : FnScope ["shifts", "role", "_"] ["shifts"] (defScope s_shifted) := ⟨rfl, rfl, rfl, by decide +kernel, rfl, by decide +kernel, by decide +kernel⟩
theorem sc_open_roles : FnScope ["week", "shifts", "hour", "own", "found", "grown", "role", "hours", "needs", "need"] ["week", "shifts", "hour"] (defScope s_open_roles) := ⟨rfl, rfl, rfl, by decide +kernel, rfl, by decide +kernel, by decide +kernel⟩
theorem sc_hours_of : FnScope ["week", "shifts", "role", "hour"] ["week", "shifts", "role"] (defScope s_hours_of) := ⟨rfl, rfl, rfl, by decide +kernel, rfl, by decide +kernel, by decide +kernel⟩
theorem sc_always_open : FnScope ["week", "shifts", "role"] ["week", "shifts"] (defScope s_always_open) := ⟨rfl, rfl, rfl, by decide +kernel, rfl, by decide +kernel, by decide +kernel⟩
theorem sc_longest_gap : FnScope ["week", "shifts", "role", "hours", "gaps", "k"] ["week", "shifts", "role"] (defScope s_longest_gap) := ⟨rfl, rfl, rfl, by decide +kernel, rfl, by decide +kernel, by decide +kernel⟩
theorem sc__law_draws : FnScope ["script", "many", "draws", "mixed", "k", "cell", "rest", "turn"] ["script", "many"] (defScope s__law_draws) := ⟨rfl, rfl, rfl, by decide +kernel, rfl, by decide +kernel, by decide +kernel⟩
theorem sc__law_next : FnScope ["w", "many"] ["w", "many"] (defScope s__law_next) := ⟨rfl, rfl, rfl, by decide +kernel, rfl, by decide +kernel, by decide +kernel⟩
theorem sc__law_same : FnScope ["seen", "due", "k"] ["seen", "due"] (defScope s__law_same) := ⟨rfl, rfl, rfl, by decide +kernel, rfl, by decide +kernel, by decide +kernel⟩
theorem sc__law_shifts : FnScope ["w", "week", "found", "k", "hours", "hour", "needs", "role"] ["w", "week"] (defScope s__law_shifts) := ⟨rfl, rfl, rfl, by decide +kernel, rfl, by decide +kernel, by decide +kernel⟩
theorem sc__law_open : FnScope ["shifts", "hour", "own", "found", "shift", "turn", "role", "hours", "needs", "need"] ["shifts", "hour"] (defScope s__law_open) := ⟨rfl, rfl, rfl, by decide +kernel, rfl, by decide +kernel, by decide +kernel⟩
theorem sc__law_hours : FnScope ["week", "shifts", "role", "hour"] ["week", "shifts", "role"] (defScope s__law_hours) := ⟨rfl, rfl, rfl, by decide +kernel, rfl, by decide +kernel, by decide +kernel⟩
theorem sc_law : FnScope ["script", "w", "turn", "week", "shifts", "roles", "shift", "hour", "role", "hours", "gap", "begin", "far"] ["script"] (defScope s_law) := ⟨rfl, rfl, rfl, by decide +kernel, rfl, by decide +kernel, by decide +kernel⟩
structure Tx (K : PySem.W.Frag) (mg : PySem.Str → Option Value) (a_set_of a_shifted a_open_roles a_hours_of a_always_open a_longest_gap a__law_draws a__law_next a__law_same a__law_shifts a__law_open a__law_hours a_law : Addr) (d_set_of d_shifted d_open_roles d_hours_of d_always_open d_longest_gap d__law_draws d__law_next d__law_same d__law_shifts d__law_open d__law_hours d_law : FuncData) : Prop where
  F_set_of : L2.Fun K "set_of" "set_of" s_set_of a_set_of d_set_of
  m_set_of : mg "set_of" = some (.ref a_set_of)
  b_set_of : Binds K d_set_of ["things"] []
  F_shifted : L2.Fun K "shifted" "shifted" s_shifted a_shifted d_shifted
  m_shifted : mg "shifted" = some (.ref a_shifted)
  b_shifted : Binds K d_shifted ["shifts"] []
  F_open_roles : L2.Fun K "open_roles" "open_roles" s_open_roles a_open_roles d_open_roles
  m_open_roles : mg "open_roles" = some (.ref a_open_roles)
  b_open_roles : Binds K d_open_roles ["week", "shifts", "hour"] []
  F_hours_of : L2.Fun K "hours_of" "hours_of" s_hours_of a_hours_of d_hours_of
  m_hours_of : mg "hours_of" = some (.ref a_hours_of)
  b_hours_of : Binds K d_hours_of ["week", "shifts", "role"] []
  F_always_open : L2.Fun K "always_open" "always_open" s_always_open a_always_open d_always_open
  m_always_open : mg "always_open" = some (.ref a_always_open)
  b_always_open : Binds K d_always_open ["week", "shifts"] []
  F_longest_gap : L2.Fun K "longest_gap" "longest_gap" s_longest_gap a_longest_gap d_longest_gap
  m_longest_gap : mg "longest_gap" = some (.ref a_longest_gap)
  b_longest_gap : Binds K d_longest_gap ["week", "shifts", "role"] []
  F__law_draws : L2.Fun K "_law_draws" "_law_draws" s__law_draws a__law_draws d__law_draws
  m__law_draws : mg "_law_draws" = some (.ref a__law_draws)
  b__law_draws : Binds K d__law_draws ["script", "many"] []
  F__law_next : L2.Fun K "_law_next" "_law_next" s__law_next a__law_next d__law_next
  m__law_next : mg "_law_next" = some (.ref a__law_next)
  b__law_next : Binds K d__law_next ["w", "many"] []
  F__law_same : L2.Fun K "_law_same" "_law_same" s__law_same a__law_same d__law_same
  m__law_same : mg "_law_same" = some (.ref a__law_same)
  b__law_same : Binds K d__law_same ["seen", "due"] []
  F__law_shifts : L2.Fun K "_law_shifts" "_law_shifts" s__law_shifts a__law_shifts d__law_shifts
  m__law_shifts : mg "_law_shifts" = some (.ref a__law_shifts)
  b__law_shifts : Binds K d__law_shifts ["w", "week"] []
  F__law_open : L2.Fun K "_law_open" "_law_open" s__law_open a__law_open d__law_open
  m__law_open : mg "_law_open" = some (.ref a__law_open)
  b__law_open : Binds K d__law_open ["shifts", "hour"] []
  F__law_hours : L2.Fun K "_law_hours" "_law_hours" s__law_hours a__law_hours d__law_hours
  m__law_hours : mg "_law_hours" = some (.ref a__law_hours)
  b__law_hours : Binds K d__law_hours ["week", "shifts", "role"] []
  F_law : L2.Fun K "law" "law" s_law a_law d_law
  m_law : mg "law" = some (.ref a_law)
  b_law : Binds K d_law ["script"] []
  z_abs : mg "abs" = none
  z_all : mg "all" = none
  z_bool : mg "bool" = none
  z_int : mg "int" = none
  z_isinstance : mg "isinstance" = none
  z_len : mg "len" = none
  z_max : mg "max" = none
  z_range : mg "range" = none
  z_set : mg "set" = none
  z_sorted : mg "sorted" = none
  z_str : mg "str" = none
  z_tuple : mg "tuple" = none
structure Fc (P : Program) (w : World) (K : PySem.W.Frag) (mg : PySem.Str → Option Value) (base : Heap) (g : Gk) (n : Nat) (a_set_of a_shifted a_open_roles a_hours_of a_always_open a_longest_gap a__law_draws a__law_next a__law_same a__law_shifts a__law_open a__law_hours a_law : Addr) (d_set_of d_shifted d_open_roles d_hours_of d_always_open d_longest_gap d__law_draws d__law_next d__law_same d__law_shifts d__law_open d__law_hours d_law : FuncData) : Prop extends Tx K mg a_set_of a_shifted a_open_roles a_hours_of a_always_open a_longest_gap a__law_draws a__law_next a__law_same a__law_shifts a__law_open a__law_hours a_law d_set_of d_shifted d_open_roles d_hours_of d_always_open d_longest_gap d__law_draws d__law_next d__law_same d__law_shifts d__law_open d__law_hours d_law where
  k : K = g.K
  inj : ∀ i j, g.an i = g.an j → i = j
  o_set_of : FnOk P w K mg base CX0 n a_set_of d_set_of ["things"] (spF g fns n 0 1)
  o_shifted : FnOk P w K mg base CX0 n a_shifted d_shifted ["shifts"] (spF g fns n 1 1)
  o_open_roles : FnOk P w K mg base CX0 n a_open_roles d_open_roles ["week", "shifts", "hour"] (spF g fns n 2 3)
  o_hours_of : FnOk P w K mg base CX0 n a_hours_of d_hours_of ["week", "shifts", "role"] (spF g fns n 3 3)
  o_always_open : FnOk P w K mg base CX0 n a_always_open d_always_open ["week", "shifts"] (spF g fns n 4 2)
  o_longest_gap : FnOk P w K mg base CX0 n a_longest_gap d_longest_gap ["week", "shifts", "role"] (spF g fns n 5 3)
  o__law_draws : FnOk P w K mg base CX0 n a__law_draws d__law_draws ["script", "many"] (spF g fns n 6 2)
  o__law_next : FnOk P w K mg base CX0 n a__law_next d__law_next ["w", "many"] (spF g fns n 7 2)
  o__law_same : FnOk P w K mg base CX0 n a__law_same d__law_same ["seen", "due"] (spF g fns n 8 2)
  o__law_shifts : FnOk P w K mg base CX0 n a__law_shifts d__law_shifts ["w", "week"] (spF g fns n 9 2)
  o__law_open : FnOk P w K mg base CX0 n a__law_open d__law_open ["shifts", "hour"] (spF g fns n 10 2)
  o__law_hours : FnOk P w K mg base CX0 n a__law_hours d__law_hours ["week", "shifts", "role"] (spF g fns n 11 3)
  o_law : FnOk P w K mg base CX0 n a_law d_law ["script"] (spF g fns n 12 1)
theorem hu66 {k : Nat} {A : Around} (h : Room k A) : A.units + 66 < cLine := by have := h.un; omega
section
variable {P : Program} {w : World} {K : PySem.W.Frag} {mg : PySem.Str → Option Value} {base : Heap} {g : Gk} {n : Nat} {a_set_of a_shifted a_open_roles a_hours_of a_always_open a_longest_gap a__law_draws a__law_next a__law_same a__law_shifts a__law_open a__law_hours a_law : Addr} {d_set_of d_shifted d_open_roles d_hours_of d_always_open d_longest_gap d__law_draws d__law_next d__law_same d__law_shifts d__law_open d__law_hours d_law : FuncData}
theorem Fc.q_set_of (F : Fc P w K mg base g n a_set_of a_shifted a_open_roles a_hours_of a_always_open a_longest_gap a__law_draws a__law_next a__law_same a__law_shifts a__law_open a__law_hours a_law d_set_of d_shifted d_open_roles d_hours_of d_always_open d_longest_gap d__law_draws d__law_next d__law_same d__law_shifts d__law_open d__law_hours d_law) : PySem.W.keepIn K (.ref a_set_of) = true := F.F_set_of.kp
theorem Fc.q_shifted (F : Fc P w K mg base g n a_set_of a_shifted a_open_roles a_hours_of a_always_open a_longest_gap a__law_draws a__law_next a__law_same a__law_shifts a__law_open a__law_hours a_law d_set_of d_shifted d_open_roles d_hours_of d_always_open d_longest_gap d__law_draws d__law_next d__law_same d__law_shifts d__law_open d__law_hours d_law) : PySem.W.keepIn K (.ref a_shifted) = true := F.F_shifted.kp
theorem Fc.q_open_roles (F : Fc P w K mg base g n a_set_of a_shifted a_open_roles a_hours_of a_always_open a_longest_gap a__law_draws a__law_next a__law_same a__law_shifts a__law_open a__law_hours a_law d_set_of d_shifted d_open_roles d_hours_of d_always_open d_longest_gap d__law_draws d__law_next d__law_same d__law_shifts d__law_open d__law_hours d_law) : PySem.W.keepIn K (.ref a_open_roles) = true := F.F_open_roles.kp
theorem Fc.q_hours_of (F : Fc P w K mg base g n a_set_of a_shifted a_open_roles a_hours_of a_always_open a_longest_gap a__law_draws a__law_next a__law_same a__law_shifts a__law_open a__law_hours a_law d_set_of d_shifted d_open_roles d_hours_of d_always_open d_longest_gap d__law_draws d__law_next d__law_same d__law_shifts d__law_open d__law_hours d_law) : PySem.W.keepIn K (.ref a_hours_of) = true := F.F_hours_of.kp
theorem Fc.q_always_open (F : Fc P w K mg base g n a_set_of a_shifted a_open_roles a_hours_of a_always_open a_longest_gap a__law_draws a__law_next a__law_same a__law_shifts a__law_open a__law_hours a_law d_set_of d_shifted d_open_roles d_hours_of d_always_open d_longest_gap d__law_draws d__law_next d__law_same d__law_shifts d__law_open d__law_hours d_law) : PySem.W.keepIn K (.ref a_always_open) = true := F.F_always_open.kp
theorem Fc.q_longest_gap (F : Fc P w K mg base g n a_set_of a_shifted a_open_roles a_hours_of a_always_open a_longest_gap a__law_draws a__law_next a__law_same a__law_shifts a__law_open a__law_hours a_law d_set_of d_shifted d_open_roles d_hours_of d_always_open d_longest_gap d__law_draws d__law_next d__law_same d__law_shifts d__law_open d__law_hours d_law) : PySem.W.keepIn K (.ref a_longest_gap) = true := F.F_longest_gap.kp
theorem Fc.q__law_draws (F : Fc P w K mg base g n a_set_of a_shifted a_open_roles a_hours_of a_always_open a_longest_gap a__law_draws a__law_next a__law_same a__law_shifts a__law_open a__law_hours a_law d_set_of d_shifted d_open_roles d_hours_of d_always_open d_longest_gap d__law_draws d__law_next d__law_same d__law_shifts d__law_open d__law_hours d_law) : PySem.W.keepIn K (.ref a__law_draws) = true := F.F__law_draws.kp
theorem Fc.q__law_next (F : Fc P w K mg base g n a_set_of a_shifted a_open_roles a_hours_of a_always_open a_longest_gap a__law_draws a__law_next a__law_same a__law_shifts a__law_open a__law_hours a_law d_set_of d_shifted d_open_roles d_hours_of d_always_open d_longest_gap d__law_draws d__law_next d__law_same d__law_shifts d__law_open d__law_hours d_law) : PySem.W.keepIn K (.ref a__law_next) = true := F.F__law_next.kp
theorem Fc.q__law_same (F : Fc P w K mg base g n a_set_of a_shifted a_open_roles a_hours_of a_always_open a_longest_gap a__law_draws a__law_next a__law_same a__law_shifts a__law_open a__law_hours a_law d_set_of d_shifted d_open_roles d_hours_of d_always_open d_longest_gap d__law_draws d__law_next d__law_same d__law_shifts d__law_open d__law_hours d_law) : PySem.W.keepIn K (.ref a__law_same) = true := F.F__law_same.kp
theorem Fc.q__law_shifts (F : Fc P w K mg base g n a_set_of a_shifted a_open_roles a_hours_of a_always_open a_longest_gap a__law_draws a__law_next a__law_same a__law_shifts a__law_open a__law_hours a_law d_set_of d_shifted d_open_roles d_hours_of d_always_open d_longest_gap d__law_draws d__law_next d__law_same d__law_shifts d__law_open d__law_hours d_law) : PySem.W.keepIn K (.ref a__law_shifts) = true := F.F__law_shifts.kp
theorem Fc.q__law_open (F : Fc P w K mg base g n a_set_of a_shifted a_open_roles a_hours_of a_always_open a_longest_gap a__law_draws a__law_next a__law_same a__law_shifts a__law_open a__law_hours a_law d_set_of d_shifted d_open_roles d_hours_of d_always_open d_longest_gap d__law_draws d__law_next d__law_same d__law_shifts d__law_open d__law_hours d_law) : PySem.W.keepIn K (.ref a__law_open) = true := F.F__law_open.kp
theorem Fc.q__law_hours (F : Fc P w K mg base g n a_set_of a_shifted a_open_roles a_hours_of a_always_open a_longest_gap a__law_draws a__law_next a__law_same a__law_shifts a__law_open a__law_hours a_law d_set_of d_shifted d_open_roles d_hours_of d_always_open d_longest_gap d__law_draws d__law_next d__law_same d__law_shifts d__law_open d__law_hours d_law) : PySem.W.keepIn K (.ref a__law_hours) = true := F.F__law_hours.kp
theorem Fc.q_law (F : Fc P w K mg base g n a_set_of a_shifted a_open_roles a_hours_of a_always_open a_longest_gap a__law_draws a__law_next a__law_same a__law_shifts a__law_open a__law_hours a_law d_set_of d_shifted d_open_roles d_hours_of d_always_open d_longest_gap d__law_draws d__law_next d__law_same d__law_shifts d__law_open d__law_hours d_law) : PySem.W.keepIn K (.ref a_law) = true := F.F_law.kp
theorem w_set_of (F : Fc P w K mg base g n a_set_of a_shifted a_open_roles a_hours_of a_always_open a_longest_gap a__law_draws a__law_next a__law_same a__law_shifts a__law_open a__law_hours a_law d_set_of d_shifted d_open_roles d_hours_of d_always_open d_longest_gap d__law_draws d__law_next d__law_same d__law_shifts d__law_open d__law_hours d_law) (f : Addr) (cdv : Value) (A : Around) (outer : List PySem.Env) (s : Shared) (H : Hp) (E : XK) (hr : Room n (A.deeper (envOfC "set_of" (defScope s_set_of) s.heap.objs.size f cdv))) :
    PSs (cxOf CX0 P w K mg base ["things"] "set_of" (defScope s_set_of) f cdv A outer s H E).nox (defBody s_set_of) (tSs g (LP.callN fns n) (Wr f_set_of) f_set_of.body) :=
  (pss_consL (ps_retL F.inj (pe_bltTL (cr_tuple F.k) rfl F.z_tuple (by first | rfl | decide +kernel) (pa_consV F.inj (pe_sortedSetL F.k rfl (hu66 hr) rfl F.z_sorted rfl F.z_set (pa_consV F.inj (pe_varL (pv 0)) pa_nilV rfl) rfl rfl) pa_nilV rfl) (by decide) rfl rfl rfl))
  pss_nilL)
theorem w_shifted (F : Fc P w K mg base g n a_set_of a_shifted a_open_roles a_hours_of a_always_open a_longest_gap a__law_draws a__law_next a__law_same a__law_shifts a__law_open a__law_hours a_law d_set_of d_shifted d_open_roles d_hours_of d_always_open d_longest_gap d__law_draws d__law_next d__law_same d__law_shifts d__law_open d__law_hours d_law) (f : Addr) (cdv : Value) (A : Around) (outer : List PySem.Env) (s : Shared) (H : Hp) (E : XK) (hr : Room n (A.deeper (envOfC "shifted" (defScope s_shifted) s.heap.objs.size f cdv))) :
    PSs (cxOf CX0 P w K mg base ["shifts", "role", "_"] "shifted" (defScope s_shifted) f cdv A outer s H E).nox (defBody s_shifted) (tSs g (LP.callN fns n) (Wr f_shifted) f_shifted.body) :=
  (pss_consL (ps_retL F.inj (pe_callL F.o_set_of hr rfl rfl F.m_set_of F.q_set_of F.b_set_of (pa_consA F.inj (pe_lcL F.inj rfl sc_shifted.nd (pi_seqL F.inj F.k (pe_varL (pv 0))) (blkOk_by (N := ["shifts", "role", "_"]) (sc := defScope s_shifted) (own := [("role", 1), ("_", 2)]) (by decide +kernel)) (fun _ _ _ _ _ => (pg_tpL F.k rfl (pgs_consL (pg_nmL (pg_name sc_shifted.nd rfl (by first | exact Or.inl rfl | exact Or.inr rfl))) (pgs_consL (pg_nmL (pg_name sc_shifted.nd rfl (by first | exact Or.inl rfl | exact Or.inr rfl))) (pgs_consL (pg_nmL (pg_name sc_shifted.nd rfl (by first | exact Or.inl rfl | exact Or.inr rfl))) pgs_nilL rfl) rfl) rfl) rfl rfl)) (fun _ _ _ _ _ => pts_nilL) (fun _ _ _ _ _ => (pe_varL (pv 1))) (fun _ => rfl) rfl (by simp [slots, slotsL])) pa_nilA rfl) rfl rfl rfl))
  pss_nilL)
theorem w_open_roles (F : Fc P w K mg base g n a_set_of a_shifted a_open_roles a_hours_of a_always_open a_longest_gap a__law_draws a__law_next a__law_same a__law_shifts a__law_open a__law_hours a_law d_set_of d_shifted d_open_roles d_hours_of d_always_open d_longest_gap d__law_draws d__law_next d__law_same d__law_shifts d__law_open d__law_hours d_law) (f : Addr) (cdv : Value) (A : Around) (outer : List PySem.Env) (s : Shared) (H : Hp) (E : XK) (hr : Room n (A.deeper (envOfC "open_roles" (defScope s_open_roles) s.heap.objs.size f cdv))) :
    PSs (cxOf CX0 P w K mg base ["week", "shifts", "hour", "own", "found", "grown", "role", "hours", "needs", "need"] "open_roles" (defScope s_open_roles) f cdv A outer s H E).nox (defBody s_open_roles) (tSs g (LP.callN fns n) (Wr f_open_roles) f_open_roles.body) :=
  (pss_consL (ps_asgL F.inj (pe_callL F.o_shifted hr rfl rfl F.m_shifted F.q_shifted F.b_shifted (pa_refA (pv 1) pa_nilA rfl) rfl rfl rfl) (pg_nmL (pg_name sc_open_roles.nd rfl (by first | exact Or.inl rfl | exact Or.inr rfl))) rfl rfl rfl (by simp [slots, slotsL, Wr, f_open_roles]))
  (pss_consL (ps_asgL F.inj pe_dct0L (pg_nmL (pg_name sc_open_roles.nd rfl (by first | exact Or.inl rfl | exact Or.inr rfl))) rfl rfl rfl (by simp [slots, slotsL, Wr, f_open_roles]))
  (pss_consL (ps_asgL F.inj (pe_cst pe_bl fun _ _ => mk_bl _ _) (pg_nmL (pg_name sc_open_roles.nd rfl (by first | exact Or.inl rfl | exact Or.inr rfl))) rfl rfl rfl (by simp [slots, slotsL, Wr, f_open_roles]))
  (pss_consL (ps_whileL PassesOwn.never (pt_tr F.inj F.k (pe_varL (pv 5)) fun _ => rfl) (pss_consL (ps_asgL F.inj (pe_cst pe_bl fun _ _ => mk_bl _ _) (pg_nmL (pg_name sc_open_roles.nd rfl (by first | exact Or.inl rfl | exact Or.inr rfl))) rfl rfl rfl (by simp [slots, slotsL, Wr, f_open_roles]))
  (pss_consL (ps_forL PassesOwn.never rfl (pi_seqL F.inj F.k (pe_varL (pv 1))) (pg_tpL F.k rfl (pgs_consL (pg_nmL (pg_name sc_open_roles.nd rfl (by first | exact Or.inl rfl | exact Or.inr rfl))) (pgs_consL (pg_nmL (pg_name sc_open_roles.nd rfl (by first | exact Or.inl rfl | exact Or.inr rfl))) (pgs_consL (pg_nmL (pg_name sc_open_roles.nd rfl (by first | exact Or.inl rfl | exact Or.inr rfl))) pgs_nilL rfl) rfl) rfl) rfl rfl) (pss_consL (ps_ifL (L2.PW.pt (pw_andL (pt_cmpL F.inj (or_ninA F.k (hu66 hr)) (by first | exact nomark _ | rfl) (pe_varL (pv 6)) (pe_varL (pv 4))) (pw_andL (pt_cmpL F.inj (or_inA F.k (hu66 hr)) (by first | exact nomark _ | rfl) (pe_varL (pv 2)) (pe_varL (pv 7))) (pw_and1 (pt_tr F.inj F.k (pe_bltL (cr_allL F.k rfl) rfl F.z_all (by first | rfl | decide +kernel) (pa_consV F.inj (pe_lcL F.inj rfl sc_open_roles.nd (pi_seqL F.inj F.k (pe_varL (pv 8))) (blkOk_by (N := ["week", "shifts", "hour", "own", "found", "grown", "role", "hours", "needs", "need"]) (sc := defScope s_open_roles) (own := [("need", 9)]) (by decide +kernel)) (fun _ _ _ _ _ => (pg_nmL (pg_name sc_open_roles.nd rfl (by first | exact Or.inl rfl | exact Or.inr rfl)))) (fun _ _ _ _ _ => pts_nilL) (fun _ _ _ _ _ => (pe_orL F.inj F.k (pe_cmpL F.inj (or_inA F.k (hu66 hr)) (by first | exact nomark _ | rfl) (pe_varL (pv 9)) (pe_varL (pv 4))) (pe_one (pe_cmpL F.inj (or_ninA F.k (hu66 hr)) (by first | exact nomark _ | rfl) (pe_varL (pv 9)) (pe_varL (pv 3)))))) (fun _ => rfl) rfl (by simp [slots, slotsL])) pa_nilV rfl) (by decide) rfl rfl rfl) fun _ => rfl))))) (pss_consL (ps_stoL F.inj (hu66 hr) (pe_varL (pv 4)) (pe_varL (pv 6)) (pe_cst pe_bl fun _ _ => mk_bl _ _) (fun _ => rfl) rfl rfl rfl)
  (pss_consL (ps_asgL F.inj (pe_cst pe_bl fun _ _ => mk_bl _ _) (pg_nmL (pg_name sc_open_roles.nd rfl (by first | exact Or.inl rfl | exact Or.inr rfl))) rfl rfl rfl (by simp [slots, slotsL, Wr, f_open_roles]))
  pss_nilL)) pss_nilL)
  pss_nilL) (fun _ => rfl) (by simp [slots, slotsL, Wr, f_open_roles]))
  pss_nilL)))
  (pss_consL (ps_retL F.inj (pe_bltTL (cr_tuple F.k) rfl F.z_tuple (by first | rfl | decide +kernel) (pa_consV F.inj (pe_bltL (cr_sorted F.k rfl (hu66 hr)) rfl F.z_sorted (by first | rfl | decide +kernel) (pa_consV F.inj (pe_varL (pv 4)) pa_nilV rfl) (by decide) rfl rfl rfl) pa_nilV rfl) (by decide) rfl rfl rfl))
  pss_nilL)))))
theorem w_hours_of (F : Fc P w K mg base g n a_set_of a_shifted a_open_roles a_hours_of a_always_open a_longest_gap a__law_draws a__law_next a__law_same a__law_shifts a__law_open a__law_hours a_law d_set_of d_shifted d_open_roles d_hours_of d_always_open d_longest_gap d__law_draws d__law_next d__law_same d__law_shifts d__law_open d__law_hours d_law) (f : Addr) (cdv : Value) (A : Around) (outer : List PySem.Env) (s : Shared) (H : Hp) (E : XK) (hr : Room n (A.deeper (envOfC "hours_of" (defScope s_hours_of) s.heap.objs.size f cdv))) :
    PSs (cxOf CX0 P w K mg base ["week", "shifts", "role", "hour"] "hours_of" (defScope s_hours_of) f cdv A outer s H E).nox (defBody s_hours_of) (tSs g (LP.callN fns n) (Wr f_hours_of) f_hours_of.body) :=
  (pss_consL (ps_retL F.inj (pe_bltTL (cr_tuple F.k) rfl F.z_tuple (by first | rfl | decide +kernel) (pa_consV F.inj (pe_lcL F.inj rfl sc_hours_of.nd (pi_rng1L rfl F.z_range (pa_consV F.inj (pe_varL (pv 0)) pa_nilV rfl) rfl) (blkOk_by (N := ["week", "shifts", "role", "hour"]) (sc := defScope s_hours_of) (own := [("hour", 3)]) (by decide +kernel)) (fun _ _ _ _ _ => (pg_nmL (pg_name sc_hours_of.nd rfl (by first | exact Or.inl rfl | exact Or.inr rfl)))) (fun _ _ _ _ _ => (pts_oneL (pt_cmpL F.inj (or_inA F.k (hu66 hr)) (by first | exact nomark _ | rfl) (pe_varL (pv 2)) (pe_callL F.o_open_roles hr rfl rfl F.m_open_roles F.q_open_roles F.b_open_roles (pa_refA (pv 0) (pa_refA (pv 1) (pa_refA (pv 3) pa_nilA rfl) rfl) rfl) rfl rfl rfl)))) (fun _ _ _ _ _ => (pe_varL (pv 3))) (fun _ => rfl) rfl (by simp [slots, slotsL])) pa_nilV rfl) (by decide) rfl rfl rfl))
  pss_nilL)
theorem w_always_open (F : Fc P w K mg base g n a_set_of a_shifted a_open_roles a_hours_of a_always_open a_longest_gap a__law_draws a__law_next a__law_same a__law_shifts a__law_open a__law_hours a_law d_set_of d_shifted d_open_roles d_hours_of d_always_open d_longest_gap d__law_draws d__law_next d__law_same d__law_shifts d__law_open d__law_hours d_law) (f : Addr) (cdv : Value) (A : Around) (outer : List PySem.Env) (s : Shared) (H : Hp) (E : XK) (hr : Room n (A.deeper (envOfC "always_open" (defScope s_always_open) s.heap.objs.size f cdv))) :
    PSs (cxOf CX0 P w K mg base ["week", "shifts", "role"] "always_open" (defScope s_always_open) f cdv A outer s H E).nox (defBody s_always_open) (tSs g (LP.callN fns n) (Wr f_always_open) f_always_open.body) :=
  (pss_consL (ps_retL F.inj (pe_bltTL (cr_tuple F.k) rfl F.z_tuple (by first | rfl | decide +kernel) (pa_consV F.inj (pe_lcL F.inj rfl sc_always_open.nd (pi_seqL F.inj F.k (pe_callL F.o_shifted hr rfl rfl F.m_shifted F.q_shifted F.b_shifted (pa_refA (pv 1) pa_nilA rfl) rfl rfl rfl)) (blkOk_by (N := ["week", "shifts", "role"]) (sc := defScope s_always_open) (own := [("role", 2)]) (by decide +kernel)) (fun _ _ _ _ _ => (pg_nmL (pg_name sc_always_open.nd rfl (by first | exact Or.inl rfl | exact Or.inr rfl)))) (fun _ _ _ _ _ => (pts_oneL (pt_cmpL F.inj (or_eq F.k (hu66 hr)) (by first | exact nomark _ | rfl) (pe_bltL (cr_len F.k) rfl F.z_len (by first | rfl | decide +kernel) (pa_consV F.inj (pe_callL F.o_hours_of hr rfl rfl F.m_hours_of F.q_hours_of F.b_hours_of (pa_refA (pv 0) (pa_refA (pv 1) (pa_refA (pv 2) pa_nilA rfl) rfl) rfl) rfl rfl rfl) pa_nilV rfl) (by decide) rfl rfl rfl) (pe_varL (pv 0))))) (fun _ _ _ _ _ => (pe_varL (pv 2))) (fun _ => rfl) rfl (by simp [slots, slotsL])) pa_nilV rfl) (by decide) rfl rfl rfl))
  pss_nilL)
theorem w_longest_gap (F : Fc P w K mg base g n a_set_of a_shifted a_open_roles a_hours_of a_always_open a_longest_gap a__law_draws a__law_next a__law_same a__law_shifts a__law_open a__law_hours a_law d_set_of d_shifted d_open_roles d_hours_of d_always_open d_longest_gap d__law_draws d__law_next d__law_same d__law_shifts d__law_open d__law_hours d_law) (f : Addr) (cdv : Value) (A : Around) (outer : List PySem.Env) (s : Shared) (H : Hp) (E : XK) (hr : Room n (A.deeper (envOfC "longest_gap" (defScope s_longest_gap) s.heap.objs.size f cdv))) :
    PSs (cxOf CX0 P w K mg base ["week", "shifts", "role", "hours", "gaps", "k"] "longest_gap" (defScope s_longest_gap) f cdv A outer s H E).nox (defBody s_longest_gap) (tSs g (LP.callN fns n) (Wr f_longest_gap) f_longest_gap.body) :=
  (pss_consL (ps_asgL F.inj (pe_callL F.o_hours_of hr rfl rfl F.m_hours_of F.q_hours_of F.b_hours_of (pa_refA (pv 0) (pa_refA (pv 1) (pa_refA (pv 2) pa_nilA rfl) rfl) rfl) rfl rfl rfl) (pg_nmL (pg_name sc_longest_gap.nd rfl (by first | exact Or.inl rfl | exact Or.inr rfl))) rfl rfl rfl (by simp [slots, slotsL, Wr, f_longest_gap]))
  (pss_consL (ps_ifL (pt_cmpL F.inj (or_eq F.k (hu66 hr)) (by first | exact nomark _ | rfl) (pe_varL (pv 3)) (pe_tupL pa_nilE)) (pss_consL (ps_retL F.inj (pe_varL (pv 0)))
  pss_nilL) pss_nilL)
  (pss_consL (ps_setLcL F.inj rfl sc_longest_gap.nd rfl rfl (sw_true rfl rfl rfl (by decide +kernel)) (pi_rng1L rfl F.z_range (pa_consV F.inj (pe_binL F.inj or_sub (pe_bltL (cr_len F.k) rfl F.z_len (by first | rfl | decide +kernel) (pa_consV F.inj (pe_varL (pv 3)) pa_nilV rfl) (by decide) rfl rfl rfl) (pe_cst pe_int fun _ _ => mk_int _ _)) pa_nilV rfl) rfl) (blkOk_by (N := ["week", "shifts", "role", "hours", "gaps", "k"]) (sc := defScope s_longest_gap) (own := [("k", 5)]) (by decide +kernel)) (fun _ _ _ _ _ => (pg_nmL (pg_name sc_longest_gap.nd rfl (by first | exact Or.inl rfl | exact Or.inr rfl)))) (fun _ _ _ _ _ => pts_nilL) (fun _ _ _ _ _ => (pe_binL F.inj or_sub (pe_binL F.inj or_sub (pe_idxL F.inj F.k (hu66 hr) (pe_varL (pv 3)) (pe_binL F.inj or_add (pe_varL (pv 5)) (pe_cst pe_int fun _ _ => mk_int _ _)) (fun _ _ => rfl)) (pe_idxL F.inj F.k (hu66 hr) (pe_varL (pv 3)) (pe_varL (pv 5)) (fun _ _ => rfl))) (pe_cst pe_int fun _ _ => mk_int _ _))) (fun _ => rfl) rfl (by simp [slots, slotsL]) (by simp [slots, slotsL, Wr, f_longest_gap]))
  (pss_consL (ps_retL F.inj (pe_bltL (cr_max F.k rfl (hu66 hr)) rfl F.z_max (by first | rfl | decide +kernel) (pa_consV F.inj (pe_binL F.inj or_add (pe_varL (pv 4)) (pe_lstL (pa_consE F.inj (pe_binL F.inj or_sub (pe_binL F.inj or_sub (pe_binL F.inj or_add (pe_idxL F.inj F.k (hu66 hr) (pe_varL (pv 3)) (pe_cst pe_int fun _ _ => mk_int _ _) (fun _ _ => rfl)) (pe_varL (pv 0))) (pe_idxL F.inj F.k (hu66 hr) (pe_varL (pv 3)) (pe_negL F.inj (pe_cst pe_int fun _ _ => mk_int _ _)) (fun _ _ => rfl))) (pe_cst pe_int fun _ _ => mk_int _ _)) pa_nilE rfl))) pa_nilV rfl) (by decide) rfl rfl rfl))
  pss_nilL))))
theorem w__law_draws (F : Fc P w K mg base g n a_set_of a_shifted a_open_roles a_hours_of a_always_open a_longest_gap a__law_draws a__law_next a__law_same a__law_shifts a__law_open a__law_hours a_law d_set_of d_shifted d_open_roles d_hours_of d_always_open d_longest_gap d__law_draws d__law_next d__law_same d__law_shifts d__law_open d__law_hours d_law) (f : Addr) (cdv : Value) (A : Around) (outer : List PySem.Env) (s : Shared) (H : Hp) (E : XK) (hr : Room n (A.deeper (envOfC "_law_draws" (defScope s__law_draws) s.heap.objs.size f cdv))) :
    PSs (cxOf CX0 P w K mg base ["script", "many", "draws", "mixed", "k", "cell", "rest", "turn"] "_law_draws" (defScope s__law_draws) f cdv A outer s H E).nox (defBody s__law_draws) (tSs g (LP.callN fns n) (Wr f__law_draws) f__law_draws.body) :=
  (pss_consL (ps_asgL F.inj (pe_lstL pa_nilE) (pg_nmL (pg_name sc__law_draws.nd rfl (by first | exact Or.inl rfl | exact Or.inr rfl))) rfl rfl rfl (by simp [slots, slotsL, Wr, f__law_draws]))
  (pss_consL (ps_asgL F.inj (pe_cst pe_int fun _ _ => mk_int _ _) (pg_nmL (pg_name sc__law_draws.nd rfl (by first | exact Or.inl rfl | exact Or.inr rfl))) rfl rfl rfl (by simp [slots, slotsL, Wr, f__law_draws]))
  (pss_consL (ps_forL PassesOwn.never rfl (pi_rng1L rfl F.z_range (pa_consV F.inj (pe_bltL (cr_len F.k) rfl F.z_len (by first | rfl | decide +kernel) (pa_consV F.inj (pe_varL (pv 0)) pa_nilV rfl) (by decide) rfl rfl rfl) pa_nilV rfl) rfl) (pg_nmL (pg_name sc__law_draws.nd rfl (by first | exact Or.inl rfl | exact Or.inr rfl))) (pss_consL (ps_asgL F.inj (pe_bltL cr_abs rfl F.z_abs (by first | rfl | decide +kernel) (pa_consV F.inj (pe_bltTL cr_int rfl F.z_int (by first | rfl | decide +kernel) (pa_consV F.inj (pe_idxL F.inj F.k (hu66 hr) (pe_varL (pv 0)) (pe_varL (pv 4)) (fun _ _ => rfl)) pa_nilV rfl) (by decide) rfl rfl rfl) pa_nilV rfl) (by decide) rfl rfl rfl) (pg_nmL (pg_name sc__law_draws.nd rfl (by first | exact Or.inl rfl | exact Or.inr rfl))) rfl rfl rfl (by simp [slots, slotsL, Wr, f__law_draws]))
  (pss_consL (ps_asgL F.inj (pe_binL F.inj or_mod (pe_bltTL cr_int rfl F.z_int (by first | rfl | decide +kernel) (pa_consV F.inj (pe_binL F.inj or_add (pe_binL F.inj or_add (pe_binL F.inj or_mul (pe_varL (pv 3)) (pe_cst pe_int fun _ _ => mk_int _ _)) (pe_binL F.inj or_mod (pe_varL (pv 5)) (pe_cst pe_int fun _ _ => mk_int _ _))) (pe_varL (pv 4))) pa_nilV rfl) (by decide) rfl rfl rfl) (pe_cst pe_int fun _ _ => mk_int _ _)) (pg_nmL (pg_name sc__law_draws.nd rfl (by first | exact Or.inl rfl | exact Or.inr rfl))) rfl rfl rfl (by simp [slots, slotsL, Wr, f__law_draws]))
  (pss_consL (ps_asgL F.inj (pe_cst pe_int fun _ _ => mk_int _ _) (pg_nmL (pg_name sc__law_draws.nd rfl (by first | exact Or.inl rfl | exact Or.inr rfl))) rfl rfl rfl (by simp [slots, slotsL, Wr, f__law_draws]))
  (pss_consL (ps_ifL (pt_cmpL F.inj (or_ge F.k (hu66 hr)) (by first | exact nomark _ | rfl) (pe_varL (pv 5)) (pe_binL F.inj or_pow (pe_cst pe_int fun _ _ => mk_int _ _) (pe_cst pe_int fun _ _ => mk_int _ _))) (pss_consL (ps_asgL F.inj (pe_varL (pv 5)) (pg_nmL (pg_name sc__law_draws.nd rfl (by first | exact Or.inl rfl | exact Or.inr rfl))) rfl rfl rfl (by simp [slots, slotsL, Wr, f__law_draws]))
  pss_nilL) (pss_consL (ps_exprL (pe_appendL F.inj F.k (pe_varL (pv 2)) (pa_consE F.inj (pe_binL F.inj or_mod (pe_bltTL cr_int rfl F.z_int (by first | rfl | decide +kernel) (pa_consV F.inj (pe_varL (pv 5)) pa_nilV rfl) (by decide) rfl rfl rfl) (pe_cst pe_int fun _ _ => mk_int _ _)) pa_nilE rfl) rfl rfl rfl rfl rfl) rfl)
  (pss_consL (ps_exprL (pe_appendL F.inj F.k (pe_varL (pv 2)) (pa_consE F.inj (pe_binL F.inj or_mod (pe_binL F.inj or_mod (pe_bltTL cr_int rfl F.z_int (by first | rfl | decide +kernel) (pa_consV F.inj (pe_binL F.inj or_add (pe_binL F.inj or_mul (pe_varL (pv 3)) (pe_cst pe_int fun _ _ => mk_int _ _)) (pe_cst pe_int fun _ _ => mk_int _ _)) pa_nilV rfl) (by decide) rfl rfl rfl) (pe_cst pe_int fun _ _ => mk_int _ _)) (pe_cst pe_int fun _ _ => mk_int _ _)) pa_nilE rfl) rfl rfl rfl rfl rfl) rfl)
  pss_nilL)))
  (pss_consL (ps_forL PassesOwn.never rfl (pi_rng1L rfl F.z_range (pa_consV F.inj (pe_cst pe_int fun _ _ => mk_int _ _) pa_nilV rfl) rfl) (pg_nmL (pg_name sc__law_draws.nd rfl (by first | exact Or.inl rfl | exact Or.inr rfl))) (pss_consL (ps_ifL (pt_cmpL F.inj (or_gt F.k (hu66 hr)) (by first | exact nomark _ | rfl) (pe_varL (pv 6)) (pe_cst pe_int fun _ _ => mk_int _ _)) (pss_consL (ps_exprL (pe_appendL F.inj F.k (pe_varL (pv 2)) (pa_consE F.inj (pe_binL F.inj or_mod (pe_bltTL cr_int rfl F.z_int (by first | rfl | decide +kernel) (pa_consV F.inj (pe_varL (pv 6)) pa_nilV rfl) (by decide) rfl rfl rfl) (pe_cst pe_int fun _ _ => mk_int _ _)) pa_nilE rfl) rfl rfl rfl rfl rfl) rfl)
  (pss_consL (ps_asgL F.inj (pe_binL F.inj or_div (pe_varL (pv 6)) (pe_cst pe_int fun _ _ => mk_int _ _)) (pg_nmL (pg_name sc__law_draws.nd rfl (by first | exact Or.inl rfl | exact Or.inr rfl))) rfl rfl rfl (by simp [slots, slotsL, Wr, f__law_draws]))
  pss_nilL)) pss_nilL)
  pss_nilL) (fun _ => rfl) (by simp [slots, slotsL, Wr, f__law_draws]))
  pss_nilL))))) (fun _ => rfl) (by simp [slots, slotsL, Wr, f__law_draws]))
  (pss_consL (ps_forL PassesOwn.never rfl (pi_rng1L rfl F.z_range (pa_consV F.inj (pe_varL (pv 1)) pa_nilV rfl) rfl) (pg_nmL (pg_name sc__law_draws.nd rfl (by first | exact Or.inl rfl | exact Or.inr rfl))) (pss_consL (ps_asgL F.inj (pe_binL F.inj or_mod (pe_bltTL cr_int rfl F.z_int (by first | rfl | decide +kernel) (pa_consV F.inj (pe_binL F.inj or_add (pe_binL F.inj or_add (pe_binL F.inj or_mul (pe_varL (pv 3)) (pe_cst pe_int fun _ _ => mk_int _ _)) (pe_varL (pv 4))) (pe_cst pe_int fun _ _ => mk_int _ _)) pa_nilV rfl) (by decide) rfl rfl rfl) (pe_cst pe_int fun _ _ => mk_int _ _)) (pg_nmL (pg_name sc__law_draws.nd rfl (by first | exact Or.inl rfl | exact Or.inr rfl))) rfl rfl rfl (by simp [slots, slotsL, Wr, f__law_draws]))
  (pss_consL (ps_exprL (pe_appendL F.inj F.k (pe_varL (pv 2)) (pa_consE F.inj (pe_binL F.inj or_mod (pe_bltTL cr_int rfl F.z_int (by first | rfl | decide +kernel) (pa_consV F.inj (pe_varL (pv 3)) pa_nilV rfl) (by decide) rfl rfl rfl) (pe_cst pe_int fun _ _ => mk_int _ _)) pa_nilE rfl) rfl rfl rfl rfl rfl) rfl)
  pss_nilL)) (fun _ => rfl) (by simp [slots, slotsL, Wr, f__law_draws]))
  (pss_consL (ps_retL F.inj (pe_slcL F.inj F.k (pe_varL (pv 2)) po_no (po_so F.inj (pe_varL (pv 1)))))
  pss_nilL)))))
theorem w__law_next (F : Fc P w K mg base g n a_set_of a_shifted a_open_roles a_hours_of a_always_open a_longest_gap a__law_draws a__law_next a__law_same a__law_shifts a__law_open a__law_hours a_law d_set_of d_shifted d_open_roles d_hours_of d_always_open d_longest_gap d__law_draws d__law_next d__law_same d__law_shifts d__law_open d__law_hours d_law) (f : Addr) (cdv : Value) (A : Around) (outer : List PySem.Env) (s : Shared) (H : Hp) (E : XK) (hr : Room n (A.deeper (envOfC "_law_next" (defScope s__law_next) s.heap.objs.size f cdv))) :
    PSs (cxOf CX0 P w K mg base ["w", "many"] "_law_next" (defScope s__law_next) f cdv A outer s H E).nox (defBody s__law_next) (tSs g (LP.callN fns n) (Wr f__law_next) f__law_next.body) :=
  (pss_consL (ps_augSL F.inj (hu66 hr) (pe_varL (pv 0)) (pe_cst pe_str (mk_strE (by decide +kernel))) (pe_cst pe_int fun _ _ => mk_int _ _) ia_add (fun _ _ _ => rfl))
  (pss_consL (ps_ifL (pt_cmpL F.inj (or_gt F.k (hu66 hr)) (by first | exact nomark _ | rfl) (pe_idxL F.inj F.k (hu66 hr) (pe_varL (pv 0)) (pe_cst pe_str (mk_strE (by decide +kernel))) (fun _ _ => rfl)) (pe_bltL (cr_len F.k) rfl F.z_len (by first | rfl | decide +kernel) (pa_consV F.inj (pe_idxL F.inj F.k (hu66 hr) (pe_varL (pv 0)) (pe_cst pe_str (mk_strE (by decide +kernel))) (fun _ _ => rfl)) pa_nilV rfl) (by decide) rfl rfl rfl)) (pss_consL (ps_retL F.inj (pe_cst pe_int fun _ _ => mk_int _ _))
  pss_nilL) pss_nilL)
  (pss_consL (ps_retL F.inj (pe_binL F.inj or_mod (pe_bltTL cr_int rfl F.z_int (by first | rfl | decide +kernel) (pa_consV F.inj (pe_idxL F.inj F.k (hu66 hr) (pe_idxL F.inj F.k (hu66 hr) (pe_varL (pv 0)) (pe_cst pe_str (mk_strE (by decide +kernel))) (fun _ _ => rfl)) (pe_binL F.inj or_sub (pe_idxL F.inj F.k (hu66 hr) (pe_varL (pv 0)) (pe_cst pe_str (mk_strE (by decide +kernel))) (fun _ _ => rfl)) (pe_cst pe_int fun _ _ => mk_int _ _)) (fun _ _ => rfl)) pa_nilV rfl) (by decide) rfl rfl rfl) (pe_varL (pv 1))))
  pss_nilL)))
theorem w__law_same (F : Fc P w K mg base g n a_set_of a_shifted a_open_roles a_hours_of a_always_open a_longest_gap a__law_draws a__law_next a__law_same a__law_shifts a__law_open a__law_hours a_law d_set_of d_shifted d_open_roles d_hours_of d_always_open d_longest_gap d__law_draws d__law_next d__law_same d__law_shifts d__law_open d__law_hours d_law) (f : Addr) (cdv : Value) (A : Around) (outer : List PySem.Env) (s : Shared) (H : Hp) (E : XK) (hr : Room n (A.deeper (envOfC "_law_same" (defScope s__law_same) s.heap.objs.size f cdv))) :
    PSs (cxOf CX0 P w K mg base ["seen", "due", "k"] "_law_same" (defScope s__law_same) f cdv A outer s H E).nox (defBody s__law_same) (tSs g (LP.callN fns n) (Wr f__law_same) f__law_same.body) :=
  (pss_consL (ps_ifL (pt_tr F.inj F.k (pe_isaL F.inj F.k (t := .tuple) rfl F.z_isinstance (by first | rfl | decide +kernel) (pe_varL (pv 1)) (pe_bltn rfl F.z_tuple (by first | rfl | decide +kernel) rfl) (by decide) rfl rfl rfl rfl) fun _ => rfl) (pss_consL (ps_ifL (L2.PW.pt (pw_orL (pt_notL (pt_tr F.inj F.k (pe_isaL F.inj F.k (t := .tuple) rfl F.z_isinstance (by first | rfl | decide +kernel) (pe_varL (pv 0)) (pe_bltn rfl F.z_tuple (by first | rfl | decide +kernel) rfl) (by decide) rfl rfl rfl rfl) fun _ => rfl)) (pw_or1 (pt_cmpL F.inj (or_ne F.k (hu66 hr)) (by first | exact nomark _ | rfl) (pe_bltL (cr_len F.k) rfl F.z_len (by first | rfl | decide +kernel) (pa_consV F.inj (pe_varL (pv 0)) pa_nilV rfl) (by decide) rfl rfl rfl) (pe_bltL (cr_len F.k) rfl F.z_len (by first | rfl | decide +kernel) (pa_consV F.inj (pe_varL (pv 1)) pa_nilV rfl) (by decide) rfl rfl rfl))))) (pss_consL (ps_retL F.inj (pe_cst pe_bl fun _ _ => mk_bl _ _))
  pss_nilL) pss_nilL)
  (pss_consL (ps_retL F.inj (pe_cmpL F.inj (or_eq F.k (hu66 hr)) (by first | exact nomark _ | rfl) (pe_lcL F.inj rfl sc__law_same.nd (pi_rng1L rfl F.z_range (pa_consV F.inj (pe_bltL (cr_len F.k) rfl F.z_len (by first | rfl | decide +kernel) (pa_consV F.inj (pe_varL (pv 1)) pa_nilV rfl) (by decide) rfl rfl rfl) pa_nilV rfl) rfl) (blkOk_by (N := ["seen", "due", "k"]) (sc := defScope s__law_same) (own := [("k", 2)]) (by decide +kernel)) (fun _ _ _ _ _ => (pg_nmL (pg_name sc__law_same.nd rfl (by first | exact Or.inl rfl | exact Or.inr rfl)))) (fun _ _ _ _ _ => (pts_oneL (pt_notL (pt_tr F.inj F.k (pe_callL F.o__law_same hr rfl rfl F.m__law_same F.q__law_same F.b__law_same (pa_consA F.inj (pe_idxL F.inj F.k (hu66 hr) (pe_varL (pv 0)) (pe_varL (pv 2)) (fun _ _ => rfl)) (pa_consA F.inj (pe_idxL F.inj F.k (hu66 hr) (pe_varL (pv 1)) (pe_varL (pv 2)) (fun _ _ => rfl)) pa_nilA rfl) rfl) rfl rfl rfl) fun _ => rfl)))) (fun _ _ _ _ _ => (pe_varL (pv 2))) (fun _ => rfl) rfl (by simp [slots, slotsL])) (pe_lstL pa_nilE)))
  pss_nilL)) pss_nilL)
  (pss_consL (ps_ifL (pt_cmpL F.inj or_is (by first | exact nomark _ | rfl) (pe_varL (pv 1)) (pe_cst pe_non fun _ _ => mk_non _)) (pss_consL (ps_retL F.inj (pe_cmpL F.inj or_is (by first | exact nomark _ | rfl) (pe_varL (pv 0)) (pe_cst pe_non fun _ _ => mk_non _)))
  pss_nilL) pss_nilL)
  (pss_consL (ps_ifL (pt_tr F.inj F.k (pe_isaL F.inj F.k (t := .str) rfl F.z_isinstance (by first | rfl | decide +kernel) (pe_varL (pv 1)) (pe_bltn rfl F.z_str (by first | rfl | decide +kernel) rfl) (by decide) rfl rfl rfl rfl) fun _ => rfl) (pss_consL (ps_retL F.inj (pe_andL F.inj F.k (pe_isaL F.inj F.k (t := .str) rfl F.z_isinstance (by first | rfl | decide +kernel) (pe_varL (pv 0)) (pe_bltn rfl F.z_str (by first | rfl | decide +kernel) rfl) (by decide) rfl rfl rfl rfl) (pe_one (pe_cmpL F.inj (or_eq F.k (hu66 hr)) (by first | exact nomark _ | rfl) (pe_varL (pv 0)) (pe_varL (pv 1))))))
  pss_nilL) pss_nilL)
  (pss_consL (ps_retL F.inj (pe_andL F.inj F.k (pe_isaL F.inj F.k (t := .int) rfl F.z_isinstance (by first | rfl | decide +kernel) (pe_varL (pv 0)) (pe_bltn rfl F.z_int (by first | rfl | decide +kernel) rfl) (by decide) rfl rfl rfl rfl) (pe_andL F.inj F.k (pe_cmpL F.inj (or_eq F.k (hu66 hr)) (by first | exact nomark _ | rfl) (pe_isaL F.inj F.k (t := .bool) rfl F.z_isinstance (by first | rfl | decide +kernel) (pe_varL (pv 0)) (pe_bltn rfl F.z_bool (by first | rfl | decide +kernel) rfl) (by decide) rfl rfl rfl rfl) (pe_isaL F.inj F.k (t := .bool) rfl F.z_isinstance (by first | rfl | decide +kernel) (pe_varL (pv 1)) (pe_bltn rfl F.z_bool (by first | rfl | decide +kernel) rfl) (by decide) rfl rfl rfl rfl)) (pe_one (pe_cmpL F.inj (or_eq F.k (hu66 hr)) (by first | exact nomark _ | rfl) (pe_varL (pv 0)) (pe_varL (pv 1)))))))
  pss_nilL))))
theorem w__law_shifts (F : Fc P w K mg base g n a_set_of a_shifted a_open_roles a_hours_of a_always_open a_longest_gap a__law_draws a__law_next a__law_same a__law_shifts a__law_open a__law_hours a_law d_set_of d_shifted d_open_roles d_hours_of d_always_open d_longest_gap d__law_draws d__law_next d__law_same d__law_shifts d__law_open d__law_hours d_law) (f : Addr) (cdv : Value) (A : Around) (outer : List PySem.Env) (s : Shared) (H : Hp) (E : XK) (hr : Room n (A.deeper (envOfC "_law_shifts" (defScope s__law_shifts) s.heap.objs.size f cdv))) :
    PSs (cxOf CX0 P w K mg base ["w", "week", "found", "k", "hours", "hour", "needs", "role"] "_law_shifts" (defScope s__law_shifts) f cdv A outer s H E).nox (defBody s__law_shifts) (tSs g (LP.callN fns n) (Wr f__law_shifts) f__law_shifts.body) :=
  (pss_consL (ps_asgL F.inj (pe_lstL pa_nilE) (pg_nmL (pg_name sc__law_shifts.nd rfl (by first | exact Or.inl rfl | exact Or.inr rfl))) rfl rfl rfl (by simp [slots, slotsL, Wr, f__law_shifts]))
  (pss_consL (ps_forL PassesOwn.never rfl (pi_rng1L rfl F.z_range (pa_consV F.inj (pe_callL F.o__law_next hr rfl rfl F.m__law_next F.q__law_next F.b__law_next (pa_refA (pv 0) (pa_consA F.inj (pe_cst pe_int fun _ _ => mk_int _ _) pa_nilA rfl) rfl) rfl rfl rfl) pa_nilV rfl) rfl) (pg_nmL (pg_name sc__law_shifts.nd rfl (by first | exact Or.inl rfl | exact Or.inr rfl))) (pss_consL (ps_asgL F.inj (pe_bltTL (cr_tuple F.k) rfl F.z_tuple (by first | rfl | decide +kernel) (pa_consV F.inj (pe_lcL F.inj rfl sc__law_shifts.nd (pi_rng1L rfl F.z_range (pa_consV F.inj (pe_varL (pv 1)) pa_nilV rfl) rfl) (blkOk_by (N := ["w", "week", "found", "k", "hours", "hour", "needs", "role"]) (sc := defScope s__law_shifts) (own := [("hour", 5)]) (by decide +kernel)) (fun _ _ _ _ _ => (pg_nmL (pg_name sc__law_shifts.nd rfl (by first | exact Or.inl rfl | exact Or.inr rfl)))) (fun _ _ _ _ _ => (pts_oneL (pt_cmpL F.inj (or_gt F.k (hu66 hr)) (by first | exact nomark _ | rfl) (pe_callL F.o__law_next hr rfl rfl F.m__law_next F.q__law_next F.b__law_next (pa_refA (pv 0) (pa_consA F.inj (pe_cst pe_int fun _ _ => mk_int _ _) pa_nilA rfl) rfl) rfl rfl rfl) (pe_cst pe_int fun _ _ => mk_int _ _)))) (fun _ _ _ _ _ => (pe_varL (pv 5))) (fun _ => rfl) rfl (by simp [slots, slotsL])) pa_nilV rfl) (by decide) rfl rfl rfl) (pg_nmL (pg_name sc__law_shifts.nd rfl (by first | exact Or.inl rfl | exact Or.inr rfl))) rfl rfl rfl (by simp [slots, slotsL, Wr, f__law_shifts]))
  (pss_consL (ps_asgL F.inj (pe_bltTL (cr_tuple F.k) rfl F.z_tuple (by first | rfl | decide +kernel) (pa_consV F.inj (pe_lcL F.inj rfl sc__law_shifts.nd (pi_rng1L rfl F.z_range (pa_consV F.inj (pe_cst pe_int fun _ _ => mk_int _ _) pa_nilV rfl) rfl) (blkOk_by (N := ["w", "week", "found", "k", "hours", "hour", "needs", "role"]) (sc := defScope s__law_shifts) (own := [("role", 7)]) (by decide +kernel)) (fun _ _ _ _ _ => (pg_nmL (pg_name sc__law_shifts.nd rfl (by first | exact Or.inl rfl | exact Or.inr rfl)))) (fun _ _ _ _ _ => (pts_oneL (pt_cmpL F.inj (or_eq F.k (hu66 hr)) (by first | exact nomark _ | rfl) (pe_callL F.o__law_next hr rfl rfl F.m__law_next F.q__law_next F.b__law_next (pa_refA (pv 0) (pa_consA F.inj (pe_cst pe_int fun _ _ => mk_int _ _) pa_nilA rfl) rfl) rfl rfl rfl) (pe_cst pe_int fun _ _ => mk_int _ _)))) (fun _ _ _ _ _ => (pe_varL (pv 7))) (fun _ => rfl) rfl (by simp [slots, slotsL])) pa_nilV rfl) (by decide) rfl rfl rfl) (pg_nmL (pg_name sc__law_shifts.nd rfl (by first | exact Or.inl rfl | exact Or.inr rfl))) rfl rfl rfl (by simp [slots, slotsL, Wr, f__law_shifts]))
  (pss_consL (ps_exprL (pe_appendL F.inj F.k (pe_varL (pv 2)) (pa_consE F.inj (pe_tupL (pa_consE F.inj (pe_callL F.o__law_next hr rfl rfl F.m__law_next F.q__law_next F.b__law_next (pa_refA (pv 0) (pa_consA F.inj (pe_cst pe_int fun _ _ => mk_int _ _) pa_nilA rfl) rfl) rfl rfl rfl) (pa_consE F.inj (pe_varL (pv 4)) (pa_consE F.inj (pe_varL (pv 6)) pa_nilE rfl) rfl) rfl)) pa_nilE rfl) rfl rfl rfl rfl rfl) rfl)
  pss_nilL))) (fun _ => rfl) (by simp [slots, slotsL, Wr, f__law_shifts]))
  (pss_consL (ps_retL F.inj (pe_bltTL (cr_tuple F.k) rfl F.z_tuple (by first | rfl | decide +kernel) (pa_consV F.inj (pe_varL (pv 2)) pa_nilV rfl) (by decide) rfl rfl rfl))
  pss_nilL)))
theorem w__law_open (F : Fc P w K mg base g n a_set_of a_shifted a_open_roles a_hours_of a_always_open a_longest_gap a__law_draws a__law_next a__law_same a__law_shifts a__law_open a__law_hours a_law d_set_of d_shifted d_open_roles d_hours_of d_always_open d_longest_gap d__law_draws d__law_next d__law_same d__law_shifts d__law_open d__law_hours d_law) (f : Addr) (cdv : Value) (A : Around) (outer : List PySem.Env) (s : Shared) (H : Hp) (E : XK) (hr : Room n (A.deeper (envOfC "_law_open" (defScope s__law_open) s.heap.objs.size f cdv))) :
    PSs (cxOf CX0 P w K mg base ["shifts", "hour", "own", "found", "shift", "turn", "role", "hours", "needs", "need"] "_law_open" (defScope s__law_open) f cdv A outer s H E).nox (defBody s__law_open) (tSs g (LP.callN fns n) (Wr f__law_open) f__law_open.body) :=
  (pss_consL (ps_parGL F.k rfl (pa_consE F.inj (pe_lcL F.inj rfl sc__law_open.nd (pi_seqL F.inj F.k (pe_varL (pv 0))) (blkOk_by (N := ["shifts", "hour", "own", "found", "shift", "turn", "role", "hours", "needs", "need"]) (sc := defScope s__law_open) (own := [("shift", 4)]) (by decide +kernel)) (fun _ _ _ _ _ => (pg_nmL (pg_name sc__law_open.nd rfl (by first | exact Or.inl rfl | exact Or.inr rfl)))) (fun _ _ _ _ _ => pts_nilL) (fun _ _ _ _ _ => (pe_idxL F.inj F.k (hu66 hr) (pe_varL (pv 4)) (pe_cst pe_int fun _ _ => mk_int _ _) (fun _ _ => rfl))) (fun _ => rfl) rfl (by simp [slots, slotsL])) (pa_consE F.inj (pe_lstL pa_nilE) pa_nilE rfl) rfl) (pgs_consL (pg_nmL (pg_name sc__law_open.nd rfl (by first | exact Or.inl rfl | exact Or.inr rfl))) (pgs_consL (pg_nmL (pg_name sc__law_open.nd rfl (by first | exact Or.inl rfl | exact Or.inr rfl))) pgs_nilL rfl) rfl) rfl rfl rfl rfl rfl (by simp [slots, slotsL, Wr, f__law_open]) (by decide))
  (pss_consL (ps_forL PassesOwn.never rfl (pi_seqL F.inj F.k (pe_varL (pv 0))) (pg_nmL (pg_name sc__law_open.nd rfl (by first | exact Or.inl rfl | exact Or.inr rfl))) (pss_consL (ps_forL PassesOwn.never rfl (pi_seqL F.inj F.k (pe_varL (pv 0))) (pg_tpL F.k rfl (pgs_consL (pg_nmL (pg_name sc__law_open.nd rfl (by first | exact Or.inl rfl | exact Or.inr rfl))) (pgs_consL (pg_nmL (pg_name sc__law_open.nd rfl (by first | exact Or.inl rfl | exact Or.inr rfl))) (pgs_consL (pg_nmL (pg_name sc__law_open.nd rfl (by first | exact Or.inl rfl | exact Or.inr rfl))) pgs_nilL rfl) rfl) rfl) rfl rfl) (pss_consL (ps_ifL (L2.PW.pt (pw_andL (pt_cmpL F.inj (or_ninA F.k (hu66 hr)) (by first | exact nomark _ | rfl) (pe_varL (pv 6)) (pe_varL (pv 3))) (pw_andL (pt_cmpL F.inj (or_inA F.k (hu66 hr)) (by first | exact nomark _ | rfl) (pe_varL (pv 1)) (pe_varL (pv 7))) (pw_and1 (pt_cmpL F.inj (or_eq F.k (hu66 hr)) (by first | exact nomark _ | rfl) (pe_lcL F.inj rfl sc__law_open.nd (pi_seqL F.inj F.k (pe_varL (pv 8))) (blkOk_by (N := ["shifts", "hour", "own", "found", "shift", "turn", "role", "hours", "needs", "need"]) (sc := defScope s__law_open) (own := [("need", 9)]) (by decide +kernel)) (fun _ _ _ _ _ => (pg_nmL (pg_name sc__law_open.nd rfl (by first | exact Or.inl rfl | exact Or.inr rfl)))) (fun _ _ _ _ _ => (pts_oneL (L2.PW.pt (pw_andL (pt_cmpL F.inj (or_inA F.k (hu66 hr)) (by first | exact nomark _ | rfl) (pe_varL (pv 9)) (pe_varL (pv 2))) (pw_and1 (pt_cmpL F.inj (or_ninA F.k (hu66 hr)) (by first | exact nomark _ | rfl) (pe_varL (pv 9)) (pe_varL (pv 3)))))))) (fun _ _ _ _ _ => (pe_varL (pv 9))) (fun _ => rfl) rfl (by simp [slots, slotsL])) (pe_lstL pa_nilE)))))) (pss_consL (ps_exprL (pe_appendL F.inj F.k (pe_varL (pv 3)) (pa_consE F.inj (pe_varL (pv 6)) pa_nilE rfl) rfl rfl rfl rfl rfl) rfl)
  pss_nilL) pss_nilL)
  pss_nilL) (fun _ => rfl) (by simp [slots, slotsL, Wr, f__law_open]))
  pss_nilL) (fun _ => rfl) (by simp [slots, slotsL, Wr, f__law_open]))
  (pss_consL (ps_retL F.inj (pe_bltL (cr_sorted F.k rfl (hu66 hr)) rfl F.z_sorted (by first | rfl | decide +kernel) (pa_consV F.inj (pe_varL (pv 3)) pa_nilV rfl) (by decide) rfl rfl rfl))
  pss_nilL)))
theorem w__law_hours (F : Fc P w K mg base g n a_set_of a_shifted a_open_roles a_hours_of a_always_open a_longest_gap a__law_draws a__law_next a__law_same a__law_shifts a__law_open a__law_hours a_law d_set_of d_shifted d_open_roles d_hours_of d_always_open d_longest_gap d__law_draws d__law_next d__law_same d__law_shifts d__law_open d__law_hours d_law) (f : Addr) (cdv : Value) (A : Around) (outer : List PySem.Env) (s : Shared) (H : Hp) (E : XK) (hr : Room n (A.deeper (envOfC "_law_hours" (defScope s__law_hours) s.heap.objs.size f cdv))) :
    PSs (cxOf CX0 P w K mg base ["week", "shifts", "role", "hour"] "_law_hours" (defScope s__law_hours) f cdv A outer s H E).nox (defBody s__law_hours) (tSs g (LP.callN fns n) (Wr f__law_hours) f__law_hours.body) :=
  (pss_consL (ps_retL F.inj (pe_bltTL (cr_tuple F.k) rfl F.z_tuple (by first | rfl | decide +kernel) (pa_consV F.inj (pe_lcL F.inj rfl sc__law_hours.nd (pi_rng1L rfl F.z_range (pa_consV F.inj (pe_varL (pv 0)) pa_nilV rfl) rfl) (blkOk_by (N := ["week", "shifts", "role", "hour"]) (sc := defScope s__law_hours) (own := [("hour", 3)]) (by decide +kernel)) (fun _ _ _ _ _ => (pg_nmL (pg_name sc__law_hours.nd rfl (by first | exact Or.inl rfl | exact Or.inr rfl)))) (fun _ _ _ _ _ => (pts_oneL (pt_cmpL F.inj (or_inA F.k (hu66 hr)) (by first | exact nomark _ | rfl) (pe_varL (pv 2)) (pe_callL F.o__law_open hr rfl rfl F.m__law_open F.q__law_open F.b__law_open (pa_refA (pv 1) (pa_refA (pv 3) pa_nilA rfl) rfl) rfl rfl rfl)))) (fun _ _ _ _ _ => (pe_varL (pv 3))) (fun _ => rfl) rfl (by simp [slots, slotsL])) pa_nilV rfl) (by decide) rfl rfl rfl))
  pss_nilL)
theorem w_law (F : Fc P w K mg base g n a_set_of a_shifted a_open_roles a_hours_of a_always_open a_longest_gap a__law_draws a__law_next a__law_same a__law_shifts a__law_open a__law_hours a_law d_set_of d_shifted d_open_roles d_hours_of d_always_open d_longest_gap d__law_draws d__law_next d__law_same d__law_shifts d__law_open d__law_hours d_law) (f : Addr) (cdv : Value) (A : Around) (outer : List PySem.Env) (s : Shared) (H : Hp) (E : XK) (hr : Room n (A.deeper (envOfC "law" (defScope s_law) s.heap.objs.size f cdv))) :
    PSs (cxOf CX0 P w K mg base ["script", "w", "turn", "week", "shifts", "roles", "shift", "hour", "role", "hours", "gap", "begin", "far"] "law" (defScope s_law) f cdv A outer s H E).nox (defBody s_law) (tSs g (LP.callN fns n) (Wr f_law) f_law.body) :=
  (pss_consL (ps_asgL F.inj (pe_dctL F.inj (pps_cons (pe_cst pe_str (mk_strE (by decide +kernel))) (pe_callL F.o__law_draws hr rfl rfl F.m__law_draws F.q__law_draws F.b__law_draws (pa_refA (pv 0) (pa_consA F.inj (pe_cst pe_int fun _ _ => mk_int _ _) pa_nilA rfl) rfl) rfl rfl rfl) (pps_cons (pe_cst pe_str (mk_strE (by decide +kernel))) (pe_cst pe_int fun _ _ => mk_int _ _) pps_nil)) rfl rfl (by simp) (by decide)) (pg_nmL (pg_name sc_law.nd rfl (by first | exact Or.inl rfl | exact Or.inr rfl))) rfl rfl rfl (by simp [slots, slotsL, Wr, f_law]))
  (pss_consL (ps_forL PassesOwn.never rfl (pi_rng1L rfl F.z_range (pa_consV F.inj (pe_cst pe_int fun _ _ => mk_int _ _) pa_nilV rfl) rfl) (pg_nmL (pg_name sc_law.nd rfl (by first | exact Or.inl rfl | exact Or.inr rfl))) (pss_consL (ps_asgL F.inj (pe_binL F.inj or_add (pe_cst pe_int fun _ _ => mk_int _ _) (pe_callL F.o__law_next hr rfl rfl F.m__law_next F.q__law_next F.b__law_next (pa_refA (pv 1) (pa_consA F.inj (pe_cst pe_int fun _ _ => mk_int _ _) pa_nilA rfl) rfl) rfl rfl rfl)) (pg_nmL (pg_name sc_law.nd rfl (by first | exact Or.inl rfl | exact Or.inr rfl))) rfl rfl rfl (by simp [slots, slotsL, Wr, f_law]))
  (pss_consL (ps_asgL F.inj (pe_callL F.o__law_shifts hr rfl rfl F.m__law_shifts F.q__law_shifts F.b__law_shifts (pa_refA (pv 1) (pa_refA (pv 3) pa_nilA rfl) rfl) rfl rfl rfl) (pg_nmL (pg_name sc_law.nd rfl (by first | exact Or.inl rfl | exact Or.inr rfl))) rfl rfl rfl (by simp [slots, slotsL, Wr, f_law]))
  (pss_consL (ps_asgL F.inj (pe_sortedSetL F.k rfl (hu66 hr) rfl F.z_sorted rfl F.z_set (pa_consV F.inj (pe_lcL F.inj rfl sc_law.nd (pi_seqL F.inj F.k (pe_varL (pv 4))) (blkOk_by (N := ["script", "w", "turn", "week", "shifts", "roles", "shift", "hour", "role", "hours", "gap", "begin", "far"]) (sc := defScope s_law) (own := [("shift", 6)]) (by decide +kernel)) (fun _ _ _ _ _ => (pg_nmL (pg_name sc_law.nd rfl (by first | exact Or.inl rfl | exact Or.inr rfl)))) (fun _ _ _ _ _ => pts_nilL) (fun _ _ _ _ _ => (pe_idxL F.inj F.k (hu66 hr) (pe_varL (pv 6)) (pe_cst pe_int fun _ _ => mk_int _ _) (fun _ _ => rfl))) (fun _ => rfl) rfl (by simp [slots, slotsL])) pa_nilV rfl) rfl rfl) (pg_nmL (pg_name sc_law.nd rfl (by first | exact Or.inl rfl | exact Or.inr rfl))) rfl rfl rfl (by simp [slots, slotsL, Wr, f_law]))
  (pss_consL (ps_forL PassesOwn.never rfl (pi_rng1L rfl F.z_range (pa_consV F.inj (pe_varL (pv 3)) pa_nilV rfl) rfl) (pg_nmL (pg_name sc_law.nd rfl (by first | exact Or.inl rfl | exact Or.inr rfl))) (pss_consL (ps_ifL (pt_notL (pt_tr F.inj F.k (pe_callL F.o__law_same hr rfl rfl F.m__law_same F.q__law_same F.b__law_same (pa_consA F.inj (pe_callL F.o_open_roles hr rfl rfl F.m_open_roles F.q_open_roles F.b_open_roles (pa_refA (pv 3) (pa_refA (pv 4) (pa_refA (pv 7) pa_nilA rfl) rfl) rfl) rfl rfl rfl) (pa_consA F.inj (pe_bltTL (cr_tuple F.k) rfl F.z_tuple (by first | rfl | decide +kernel) (pa_consV F.inj (pe_callL F.o__law_open hr rfl rfl F.m__law_open F.q__law_open F.b__law_open (pa_refA (pv 4) (pa_refA (pv 7) pa_nilA rfl) rfl) rfl rfl rfl) pa_nilV rfl) (by decide) rfl rfl rfl) pa_nilA rfl) rfl) rfl rfl rfl) fun _ => rfl)) (pss_consL (ps_retL F.inj (pe_cst pe_bl fun _ _ => mk_bl _ _))
  pss_nilL) pss_nilL)
  pss_nilL) (fun _ => rfl) (by simp [slots, slotsL, Wr, f_law]))
  (pss_consL (ps_ifL (pt_notL (pt_tr F.inj F.k (pe_callL F.o__law_same hr rfl rfl F.m__law_same F.q__law_same F.b__law_same (pa_consA F.inj (pe_callL F.o_always_open hr rfl rfl F.m_always_open F.q_always_open F.b_always_open (pa_refA (pv 3) (pa_refA (pv 4) pa_nilA rfl) rfl) rfl rfl rfl) (pa_consA F.inj (pe_bltTL (cr_tuple F.k) rfl F.z_tuple (by first | rfl | decide +kernel) (pa_consV F.inj (pe_lcL F.inj rfl sc_law.nd (pi_seqL F.inj F.k (pe_varL (pv 5))) (blkOk_by (N := ["script", "w", "turn", "week", "shifts", "roles", "shift", "hour", "role", "hours", "gap", "begin", "far"]) (sc := defScope s_law) (own := [("role", 8)]) (by decide +kernel)) (fun _ _ _ _ _ => (pg_nmL (pg_name sc_law.nd rfl (by first | exact Or.inl rfl | exact Or.inr rfl)))) (fun _ _ _ _ _ => (pts_oneL (pt_cmpL F.inj (or_eq F.k (hu66 hr)) (by first | exact nomark _ | rfl) (pe_bltL (cr_len F.k) rfl F.z_len (by first | rfl | decide +kernel) (pa_consV F.inj (pe_callL F.o__law_hours hr rfl rfl F.m__law_hours F.q__law_hours F.b__law_hours (pa_refA (pv 3) (pa_refA (pv 4) (pa_refA (pv 8) pa_nilA rfl) rfl) rfl) rfl rfl rfl) pa_nilV rfl) (by decide) rfl rfl rfl) (pe_varL (pv 3))))) (fun _ _ _ _ _ => (pe_varL (pv 8))) (fun _ => rfl) rfl (by simp [slots, slotsL])) pa_nilV rfl) (by decide) rfl rfl rfl) pa_nilA rfl) rfl) rfl rfl rfl) fun _ => rfl)) (pss_consL (ps_retL F.inj (pe_cst pe_bl fun _ _ => mk_bl _ _))
  pss_nilL) pss_nilL)
  (pss_consL (ps_forL PassesOwn.never rfl (pi_seqL F.inj F.k (pe_varL (pv 5))) (pg_nmL (pg_name sc_law.nd rfl (by first | exact Or.inl rfl | exact Or.inr rfl))) (pss_consL (ps_asgL F.inj (pe_callL F.o__law_hours hr rfl rfl F.m__law_hours F.q__law_hours F.b__law_hours (pa_refA (pv 3) (pa_refA (pv 4) (pa_refA (pv 8) pa_nilA rfl) rfl) rfl) rfl rfl rfl) (pg_nmL (pg_name sc_law.nd rfl (by first | exact Or.inl rfl | exact Or.inr rfl))) rfl rfl rfl (by simp [slots, slotsL, Wr, f_law]))
  (pss_consL (ps_ifL (pt_notL (pt_tr F.inj F.k (pe_callL F.o__law_same hr rfl rfl F.m__law_same F.q__law_same F.b__law_same (pa_consA F.inj (pe_callL F.o_hours_of hr rfl rfl F.m_hours_of F.q_hours_of F.b_hours_of (pa_refA (pv 3) (pa_refA (pv 4) (pa_refA (pv 8) pa_nilA rfl) rfl) rfl) rfl rfl rfl) (pa_refA (pv 9) pa_nilA rfl) rfl) rfl rfl rfl) fun _ => rfl)) (pss_consL (ps_retL F.inj (pe_cst pe_bl fun _ _ => mk_bl _ _))
  pss_nilL) pss_nilL)
  (pss_consL (ps_asgL F.inj (pe_cst pe_int fun _ _ => mk_int _ _) (pg_nmL (pg_name sc_law.nd rfl (by first | exact Or.inl rfl | exact Or.inr rfl))) rfl rfl rfl (by simp [slots, slotsL, Wr, f_law]))
  (pss_consL (ps_forL PassesOwn.never rfl (pi_rng1L rfl F.z_range (pa_consV F.inj (pe_varL (pv 3)) pa_nilV rfl) rfl) (pg_nmL (pg_name sc_law.nd rfl (by first | exact Or.inl rfl | exact Or.inr rfl))) (pss_consL (ps_asgL F.inj (pe_cst pe_int fun _ _ => mk_int _ _) (pg_nmL (pg_name sc_law.nd rfl (by first | exact Or.inl rfl | exact Or.inr rfl))) rfl rfl rfl (by simp [slots, slotsL, Wr, f_law]))
  (pss_consL (ps_whileL PassesOwn.never (L2.PW.pt (pw_andL (pt_cmpL F.inj (or_lt F.k (hu66 hr)) (by first | exact nomark _ | rfl) (pe_varL (pv 12)) (pe_varL (pv 3))) (pw_and1 (pt_cmpL F.inj (or_ninA F.k (hu66 hr)) (by first | exact nomark _ | rfl) (pe_binL F.inj or_mod (pe_binL F.inj or_add (pe_varL (pv 11)) (pe_varL (pv 12))) (pe_varL (pv 3))) (pe_varL (pv 9)))))) (pss_consL (ps_augL F.inj (by simp [slots, slotsL, Wr, f_law]) (ps_aug sc_law.nd rfl (by first | exact Or.inl rfl | exact Or.inr rfl) (pe_cst pe_int fun _ _ => mk_int _ _) ia_add))
  pss_nilL))
  (pss_consL (ps_asgL F.inj (pe_bltL (cr_max F.k rfl (hu66 hr)) rfl F.z_max (by first | rfl | decide +kernel) (pa_consV F.inj (pe_varL (pv 10)) (pa_consV F.inj (pe_varL (pv 12)) pa_nilV rfl) rfl) (by decide) rfl rfl rfl) (pg_nmL (pg_name sc_law.nd rfl (by first | exact Or.inl rfl | exact Or.inr rfl))) rfl rfl rfl (by simp [slots, slotsL, Wr, f_law]))
  pss_nilL))) (fun _ => rfl) (by simp [slots, slotsL, Wr, f_law]))
  (pss_consL (ps_ifL (pt_notL (pt_tr F.inj F.k (pe_callL F.o__law_same hr rfl rfl F.m__law_same F.q__law_same F.b__law_same (pa_consA F.inj (pe_callL F.o_longest_gap hr rfl rfl F.m_longest_gap F.q_longest_gap F.b_longest_gap (pa_refA (pv 3) (pa_refA (pv 4) (pa_refA (pv 8) pa_nilA rfl) rfl) rfl) rfl rfl rfl) (pa_refA (pv 10) pa_nilA rfl) rfl) rfl rfl rfl) fun _ => rfl)) (pss_consL (ps_retL F.inj (pe_cst pe_bl fun _ _ => mk_bl _ _))
  pss_nilL) pss_nilL)
  pss_nilL))))) (fun _ => rfl) (by simp [slots, slotsL, Wr, f_law]))
  pss_nilL)))))) (fun _ => rfl) (by simp [slots, slotsL, Wr, f_law]))
  (pss_consL (ps_retL F.inj (pe_cst pe_bl fun _ _ => mk_bl _ _))
  pss_nilL)))
theorem knot (T : Tx K mg a_set_of a_shifted a_open_roles a_hours_of a_always_open a_longest_gap a__law_draws a__law_next a__law_same a__law_shifts a__law_open a__law_hours a_law d_set_of d_shifted d_open_roles d_hours_of d_always_open d_longest_gap d__law_draws d__law_next d__law_same d__law_shifts d__law_open d__law_hours d_law) (hk : K = g.K) (inj : ∀ i j, g.an i = g.an j → i = j) : ∀ n, Fc P w K mg base g n a_set_of a_shifted a_open_roles a_hours_of a_always_open a_longest_gap a__law_draws a__law_next a__law_same a__law_shifts a__law_open a__law_hours a_law d_set_of d_shifted d_open_roles d_hours_of d_always_open d_longest_gap d__law_draws d__law_next d__law_same d__law_shifts d__law_open d__law_hours d_law
  | 0 => { toTx := T, k := hk, inj := inj
           o_set_of := none0
           o_shifted := none0
           o_open_roles := none0
           o_hours_of := none0
           o_always_open := none0
           o_longest_gap := none0
           o__law_draws := none0
           o__law_next := none0
           o__law_same := none0
           o__law_shifts := none0
           o__law_open := none0
           o__law_hours := none0
           o_law := none0
         }
  | n + 1 => by
    have F := knot T hk inj n
    exact { toTx := T, k := hk, inj := inj
            o_set_of := callee rfl rfl rfl T.F_set_of sc_set_of fun cdv A outer s H E hr => w_set_of F _ cdv A outer s H E hr
            o_shifted := callee rfl rfl rfl T.F_shifted sc_shifted fun cdv A outer s H E hr => w_shifted F _ cdv A outer s H E hr
            o_open_roles := callee rfl rfl rfl T.F_open_roles sc_open_roles fun cdv A outer s H E hr => w_open_roles F _ cdv A outer s H E hr
            o_hours_of := callee rfl rfl rfl T.F_hours_of sc_hours_of fun cdv A outer s H E hr => w_hours_of F _ cdv A outer s H E hr
            o_always_open := callee rfl rfl rfl T.F_always_open sc_always_open fun cdv A outer s H E hr => w_always_open F _ cdv A outer s H E hr
            o_longest_gap := callee rfl rfl rfl T.F_longest_gap sc_longest_gap fun cdv A outer s H E hr => w_longest_gap F _ cdv A outer s H E hr
            o__law_draws := callee rfl rfl rfl T.F__law_draws sc__law_draws fun cdv A outer s H E hr => w__law_draws F _ cdv A outer s H E hr
            o__law_next := callee rfl rfl rfl T.F__law_next sc__law_next fun cdv A outer s H E hr => w__law_next F _ cdv A outer s H E hr
            o__law_same := callee rfl rfl rfl T.F__law_same sc__law_same fun cdv A outer s H E hr => w__law_same F _ cdv A outer s H E hr
            o__law_shifts := callee rfl rfl rfl T.F__law_shifts sc__law_shifts fun cdv A outer s H E hr => w__law_shifts F _ cdv A outer s H E hr
            o__law_open := callee rfl rfl rfl T.F__law_open sc__law_open fun cdv A outer s H E hr => w__law_open F _ cdv A outer s H E hr
            o__law_hours := callee rfl rfl rfl T.F__law_hours sc__law_hours fun cdv A outer s H E hr => w__law_hours F _ cdv A outer s H E hr
            o_law := callee rfl rfl rfl T.F_law sc_law fun cdv A outer s H E hr => w_law F _ cdv A outer s H E hr
          }
end
end LW
namespace LW
noncomputable section
open LP SH
theorem ok__law_draws (N : Nat) (script : (List Int)) (many : Int) : CalE (callN fns (N + 1)) 6 [eScr script, eI many] (F_L_law_draws script many) (fun r => (eL true eI) r) (fun r ss => ∃ s0_ s1_ : Sl, ss = [s0_, s1_]) := by
  refine cal_mk (fn := f__law_draws) (n := N + 0) (ρ0 := [.ow (eScr script), .ow (eI many), .no, .no, .no, .no, .no, .no]) rfl (ao_f (ao_f ao_nil)) rfl ?_
  unfold F_L_law_draws
  refine rm_asg (w_val (k_eq (k_lst (k_esn (f := eI))) rfl)) rfl ?_
  refine rm_asg (w_val (k_eq (k_cst eI 7 rfl) rfl)) rfl ?_
  refine rm_forB (fun (s : (List Int) × Int) ρ' => ∃ d14 d15 d16 d17 : Option D, ρ' = [.ow (eScr script), .ow (eI many), .ow ((eL true eI) s.1), .ow (eI s.2), sl d14, sl d15, sl d16, sl d17]) (k_walk (k_eq (k_blt (k_blt (k_var rfl) b_lenS) b_rng1) rfl)) ⟨none, none, none, none, rfl⟩ ?_ ?_
  · rintro k s_ _ ⟨d, d1, d2, d3, rfl⟩
    unfold F_L_law_draws_b1
    refine rm_body (asg_sl rfl) ?_
    refine rm_asgB (w_val (k_eq (k_blt (k_blt (k_idxScr (k_eq (k_var rfl) rfl) (k_var rfl)) b_int) b_abs) rfl)) (fun _ => (asg_sl rfl)) fun cell => ?_
    refine rm_asgB (w_val (k_eq (k_modR (k_blt (k_bin (k_bin (k_mulR (k_var rfl)) (k_modR (k_var rfl)) o_add) (k_var rfl) o_add) b_int)) rfl)) (fun _ => rfl) fun mixed1 => ?_
    refine rm_asg (w_val (k_eq (k_cst eI 0 rfl) rfl)) (asg_sl rfl) ?_
    refine rm_ifJ (fun (s : (List Int) × Int) ρ' => ρ' = [.ow (eScr script), .ow (eI many), .ow ((eL true eI) s.1), .ow (eI mixed1), .ow (eI k), .ow (eI cell), .ow (eI s.2), sl d3]) (k_eq (k_cmp (k_var rfl) (k_powC 1000000000000000000 rfl) c_ge) rfl) (fun _ => ?_) (fun _ => ?_) ?_
    · refine rm_asg (w_val (k_eq (k_var rfl) rfl)) rfl ?_
      exact rm_nil (rm_end ⟨rfl, rfl⟩)
    · refine rm_append (w_val (k_eq (k_modR (k_blt (k_var rfl) b_int)) rfl)) rfl rfl (fun _ => rfl) fun draws5 => ?_
      refine rm_append (w_val (k_eq (k_modR (k_modR (k_blt (k_bin (k_mulR (k_var rfl)) (k_cst eI 5 rfl) o_add) b_int))) rfl)) rfl rfl (fun _ => rfl) fun draws6 => ?_
      exact rm_nil (rm_end ⟨rfl, rfl⟩)
    · rintro j _ rfl
      refine rm_forB (fun (s : (List Int) × Int) ρ' => ∃ d6 : Option D, ρ' = [.ow (eScr script), .ow (eI many), .ow ((eL true eI) s.1), .ow (eI mixed1), .ow (eI k), .ow (eI cell), .ow (eI s.2), sl d6]) (k_walk (k_eq (k_blt (k_cst eI 60 rfl) b_rng1) rfl)) ⟨d3, rfl⟩ ?_ ?_
      · rintro turn s_1 _ ⟨d4, rfl⟩
        unfold F_L_law_draws_b2
        refine rm_body (asg_sl rfl) ?_
        refine rm_ifJ (fun (s : (List Int) × Int) ρ' => ρ' = [.ow (eScr script), .ow (eI many), .ow ((eL true eI) s.1), .ow (eI mixed1), .ow (eI k), .ow (eI cell), .ow (eI s.2), .ow (eI turn)]) (k_eq (k_cmp (k_var rfl) (k_cst eI 0 rfl) c_gt) rfl) (fun _ => ?_) (fun _ => ?_) ?_
        · refine rm_append (w_val (k_eq (k_modR (k_blt (k_var rfl) b_int)) rfl)) rfl rfl (fun _ => rfl) fun draws11 => ?_
          refine rm_asgB (w_val (k_eq (k_divR (k_var rfl)) rfl)) (fun _ => rfl) fun rest4 => ?_
          exact rm_nil (rm_end ⟨rfl, rfl⟩)
        · exact rm_nil (rm_end ⟨rfl, rfl⟩)
        · rintro j1 _ rfl
          exact rm_nil (rm_end ⟨.inl rfl, ⟨(some _), rfl⟩⟩)
      · rintro st _ ⟨d5, rfl⟩
        exact rm_nil (rm_end ⟨.inl rfl, ⟨(some _), (some _), (some _), d5, rfl⟩⟩)
  · rintro st1 _ ⟨d7, d8, d9, d10, rfl⟩
    refine rm_forB (fun (s : (List Int) × Int) ρ' => ∃ d13 : Option D, ρ' = [.ow (eScr script), .ow (eI many), .ow ((eL true eI) s.1), .ow (eI s.2), sl d13, sl d8, sl d9, sl d10]) (k_walk (k_eq (k_blt (k_var rfl) b_rng1) rfl)) ⟨d7, rfl⟩ ?_ ?_
    · rintro k1 s_2 _ ⟨d11, rfl⟩
      unfold F_L_law_draws_b3
      refine rm_body (asg_sl rfl) ?_
      refine rm_asgB (w_val (k_eq (k_modR (k_blt (k_bin (k_bin (k_mulR (k_var rfl)) (k_var rfl) o_add) (k_cst eI 1 rfl) o_add) b_int)) rfl)) (fun _ => rfl) fun mixed3 => ?_
      refine rm_append (w_val (k_eq (k_modR (k_blt (k_var rfl) b_int)) rfl)) rfl rfl (fun _ => rfl) fun draws14 => ?_
      exact rm_nil (rm_end ⟨.inl rfl, ⟨(some _), rfl⟩⟩)
    · rintro st2 _ ⟨d12, rfl⟩
      refine rm_ret (w_val (k_eq (k_slc (k_vw rfl rfl) k_no (k_so (k_var rfl)) s_lst) rfl)) ⟨.inl rfl, ⟨_, _, rfl⟩⟩
theorem ok__law_next (N : Nat) (w : W) (many : Int) : CalE (callN fns (N + 1)) 7 [eW w, eI many] (nextF w many) (fun r => eI r.1) (fun r ss => ∃ s, ss = [.ow (eW r.2), s]) := next_ok (fns := fns) rfl N w many
def F__law_shifts_b1 (week : Int) (k : Int) (s_ : W × (List (T3 Int (List Int) (List Int)))) : Option (W × (List (T3 Int (List Int) (List Int)))) :=
  (rngG 0 week).bind fun x1 => (lcS (fun (hour : Int) (st : W) => (nextF (st) ((3 : Int)) ).bind fun rv1 => (if (decide ((0 : Int) < rv1.1)) then some (some hour, rv1.2) else some (none, rv1.2))) x1 [] s_.1).bind fun rv2 => (rngG 0 (4 : Int)).bind fun x2 => (lcS (fun (role : Int) (st1 : W) => (nextF (st1) ((5 : Int)) ).bind fun rv3 => (if (decide (rv3.1 = (0 : Int))) then some (some role, rv3.2) else some (none, rv3.2))) x2 [] rv2.2).bind fun rv4 => (nextF (rv4.2) ((3 : Int)) ).bind fun rv5 => (pushG s_.2 (⟨rv5.1, rv2.1, rv4.1⟩ : (T3 Int (List Int) (List Int)))).bind fun found1 => some ((rv5.2, found1))
def F__law_shifts (w : W) (week : Int) : Option ((List (T3 Int (List Int) (List Int))) × W) :=
  (nextF (w) ((7 : Int)) ).bind fun rv => (rngG 0 rv.1).bind fun x => (forN (F__law_shifts_b1 week) x (rv.2, ([] : List (T3 Int (List Int) (List Int))))).bind fun st2 => some ((st2.2, st2.1))
theorem ok__law_shifts (N : Nat) (w : W) (week : Int) : CalE (callN fns (N + 2)) 9 [eW w, eI week] (F__law_shifts w week) (fun r => (eT (e3 eI (eT eI) (eT eI))) r.1) (fun r ss => ∃ s1_ : Sl, ss = [.ow (eW r.2), s1_]) := by
  refine cal_mk (fn := f__law_shifts) (n := N + 1) (ρ0 := [.ow (eW w), .ow (eI week), .no, .no, .no, .no, .no, .no]) rfl (ao_f (ao_f ao_nil)) rfl ?_
  unfold F__law_shifts
  refine rm_asg (w_val (k_eq (k_lst (k_esn (f := (e3 eI (eT eI) (eT eI))))) rfl)) rfl ?_
  refine rm_forWX (ww_of (we_blt (wv_cons (we_call (wa_ref rfl (wa_cons (we_p (k_eq (k_cst eI 7 rfl) rfl) (wo_val (wa_nil ⟨_, rfl, (ok_o rfl rfl rfl (ok_val ok_nil)), wx_cal (ok__law_next _ _ _) fun rv ss_ hs => match ss_, hs with | _, ⟨_, rfl⟩ => ⟨_, (bk_o rfl rfl (bk_val bk_nil)), ⟨rfl, (wv_nil (wx_op (fun u h => b_rng1 _ u h) fun x => ⟨_, _, _, wk_sq, rm_fwN (fun (s : W × (List (T3 Int (List Int) (List Int)))) ρ' => ∃ d6 d7 d8 : Option D, ρ' = [.ow (eW s.1), .ow (eI week), .ow ((eL true (e3 eI (eT eI) (eT eI))) s.2), sl d6, sl d7, .no, sl d8, .no]) (by exact ⟨none, none, none, rfl⟩) ?_ ?_⟩))⟩⟩⟩)))))))))
  · rintro k s_ _ ⟨d, d1, d2, rfl⟩
    unfold F__law_shifts_b1
    refine rm_body (asg_sl rfl) ?_
    refine rm_asgW (wx_evD (we_blt (wv_cons (we_lcW (ww_of (we_pB (k_eq (k_blt (k_var rfl) b_rng1) rfl) fun x1 => ⟨_, _, _, wk_sq, (lc_core (g := eI) (fun (st : W) => [.ow (eW st), .ow (eI week), .ow ((eL true (e3 eI (eT eI) (eT eI))) s_.2), .ow (eI k), sl d1, .no, sl d2, .no]) (fun _ => rfl) rfl (fun hour st => (wc_asg rfl (wc_ifW (we_cmp (we_call (wa_ref rfl (wa_cons (we_p (k_eq (k_cst eI 3 rfl) rfl) (wo_val (wa_nil ⟨_, rfl, (ok_o rfl rfl rfl (ok_val ok_nil)), wx_cal (ok__law_next _ _ _) fun rv1 ss_ hs => match ss_, hs with | _, ⟨_, rfl⟩ => ⟨_, (bk_o rfl rfl (bk_val bk_nil)), ⟨rfl, (we_p (k_eq (k_cst eI 0 rfl) rfl) ⟨_, opc c_gt, ⟨_, rfl, _, _, rfl, (fun _ => (we_p (k_eq (k_var rfl) rfl) ⟨rfl, _, _, rfl, rfl, rfl⟩)), (fun _ => ⟨_, rfl, rfl⟩)⟩⟩)⟩⟩⟩)))))))))) (fun rv2 => ⟨rfl, (wv_nil (wx_of (b_tuple _ _ rfl) ⟨rfl, _, (asg_sl rfl), ?_⟩))⟩))⟩))))))
    refine rm_asgW (wx_evD (we_blt (wv_cons (we_lcW (ww_of (we_pB (k_eq (k_blt (k_cst eI 4 rfl) b_rng1) rfl) fun x2 => ⟨_, _, _, wk_sq, (lc_core (g := eI) (fun (st1 : W) => [.ow (eW st1), .ow (eI week), .ow ((eL true (e3 eI (eT eI) (eT eI))) s_.2), .ow (eI k), .ow ((eT eI) rv2.1), .no, sl d2, .no]) (fun _ => rfl) rfl (fun role st1 => (wc_asg rfl (wc_ifW (we_cmp (we_call (wa_ref rfl (wa_cons (we_p (k_eq (k_cst eI 5 rfl) rfl) (wo_val (wa_nil ⟨_, rfl, (ok_o rfl rfl rfl (ok_val ok_nil)), wx_cal (ok__law_next _ _ _) fun rv3 ss_ hs => match ss_, hs with | _, ⟨_, rfl⟩ => ⟨_, (bk_o rfl rfl (bk_val bk_nil)), ⟨rfl, (we_p (k_eq (k_cst eI 0 rfl) rfl) ⟨_, opc c_eq, ⟨_, rfl, _, _, rfl, (fun _ => (we_p (k_eq (k_var rfl) rfl) ⟨rfl, _, _, rfl, rfl, rfl⟩)), (fun _ => ⟨_, rfl, rfl⟩)⟩⟩)⟩⟩⟩)))))))))) (fun rv4 => ⟨rfl, (wv_nil (wx_of (b_tuple _ _ rfl) ⟨rfl, _, (asg_sl rfl), ?_⟩))⟩))⟩))))))
    refine rm_appendW (f := (e3 eI (eT eI) (eT eI))) rfl (wx_evD (we_tup (ws_cons (we_call (wa_ref rfl (wa_cons (we_p (k_eq (k_cst eI 3 rfl) rfl) (wo_val (wa_nil ⟨_, rfl, (ok_o rfl rfl rfl (ok_val ok_nil)), wx_cal (ok__law_next _ _ _) fun rv5 ss_ hs => match ss_, hs with | _, ⟨_, rfl⟩ => ⟨_, (bk_o rfl rfl (bk_val bk_nil)), (wo_val (ws_cons (we_p (k_eq (k_var rfl) rfl) (wo_val (ws_cons (we_p (k_eq (k_var rfl) rfl) (wo_val (ws_nil ⟨_, (tup_mk3 ), ⟨rfl, _, rfl, rfl, _, rfl, fun found1 => ?_⟩⟩))))))))⟩⟩)))))))))
    exact rm_nil (rm_end ⟨.inl rfl, ⟨(some _), (some _), (some _), rfl⟩⟩)
  · rintro st2 _ ⟨d3, d4, d5, rfl⟩
    refine rm_ret (w_val (k_eq (k_blt (k_vw rfl rfl) b_tuple) rfl)) ⟨.inl rfl, ⟨_, rfl⟩⟩
def F_set_of (things : (List Int)) : Option ((List Int)) :=
  ((ssetG tt ltI things).bind fun x => some (x)).bind fun x1 => some (x1)
theorem ok_set_of (N : Nat) (things : (List Int)) : CalE (callN fns (N + 1)) 0 [(eL true eI) things] (F_set_of things) (fun r => (eT eI) r) (fun r ss => ss = [.ow ((eL true eI) things)]) := by
  refine cal_mk (fn := f_set_of) (n := N + 0) (ρ0 := [.ow ((eL true eI) things)]) rfl (ao_f ao_nil) rfl ?_
  unfold F_set_of
  refine rm_retB (w_val (k_eq (k_blt (k_blt (k_vw rfl rfl) b_sortedSet) b_tuple) rfl)) fun x1 => ⟨.inl rfl, rfl⟩
def F_shifted (shifts : (List (T3 Int (List Int) (List Int)))) : Option ((List Int)) :=
  ((lcMap shifts (fun (p : (T3 Int (List Int) (List Int))) => p.a)).bind fun x => F_set_of (x) ).bind fun x1 => some (x1)
theorem ok_shifted (N : Nat) (shifts : (List (T3 Int (List Int) (List Int)))) : CalE (callN fns (N + 2)) 1 [(eT (e3 eI (eT eI) (eT eI))) shifts] (F_shifted shifts) (fun r => (eT eI) r) (fun r ss => ∃ s0_ : Sl, ss = [s0_]) := by
  refine cal_mk (fn := f_shifted) (n := N + 1) (ρ0 := [.ow ((eT (e3 eI (eT eI) (eT eI))) shifts), .no, .no]) rfl (ao_f ao_nil) rfl ?_
  unfold F_shifted
  refine rm_retB (w_val (k_eq (k_eq (m := (lcMap shifts (fun (p : (T3 Int (List Int) (List Int))) => p.a)).bind fun x => F_set_of (x) ) (k_callG (k_ae (k_eq (k_lcP (k_walk (k_eq (k_var rfl) rfl)) (fun _ => (asg_tp (ats_cons rfl (ats_cons rfl (ats_cons rfl ats_nil))))) (fun _ => rfl) (fun p => (k_eq (k_var rfl) rfl))) rfl) k_an) (fun _ => rfl) (fun _ => (ok_val ok_nil)) (fun _ => (ok_set_of _ _)) (fun _ _ ss_ hb => match ss_, hb with | _, rfl => bk_fin (bk_val bk_nil) rfl)) (by simp only [Option.bind_assoc, Option.bind_some])) rfl)) fun x1 => ⟨.inl rfl, ⟨_, rfl⟩⟩
def F_open_roles_b2 (hour : Int) (ownv : (List Int)) (p : (T3 Int (List Int) (List Int))) (s_1 : (List (Int × Bool)) × Bool) : Option ((List (Int × Bool)) × Bool) :=
  ((if (!(dget s_1.1 p.a).isSome) then (if (mem hour p.b) then (lcMap p.c (fun (need : Int) => (((dget s_1.1 need).isSome) || (!mem need ownv)))).bind fun x => some ((x.all id)) else some false) else some false)).bind fun t => ((if t then (putG s_1.1 p.a true).bind fun found4 => some ((found4, true)) else some ((s_1.1, s_1.2))) : Option ((List (Int × Bool)) × Bool)).bind fun j => some ((j.1, j.2))
def F_open_roles_b1 (shifts : (List (T3 Int (List Int) (List Int)))) (hour : Int) (ownv : (List Int)) (s_ : (List (Int × Bool)) × Bool) : Option ((List (Int × Bool)) × Bool) :=
  (forN (F_open_roles_b2 hour ownv) shifts (s_.1, false)).bind fun st => some ((st.1, st.2))
def F_open_roles (week : Int) (shifts : (List (T3 Int (List Int) (List Int)))) (hour : Int) : Option ((List Int)) :=
  (F_shifted (shifts) ).bind fun ownv => (whN (fun (s_ : (List (Int × Bool)) × Bool) => (some s_.2)) (F_open_roles_b1 shifts hour ownv) turns (([] : List (Int × Bool)), true)).bind fun st1 => ((srtG tt ltI (st1.1.map (·.1))).bind fun x1 => some (x1)).bind fun x2 => some (x2)
theorem ok_open_roles (N : Nat) (week : Int) (shifts : (List (T3 Int (List Int) (List Int)))) (hour : Int) : CalE (callN fns (N + 3)) 2 [eI week, (eT (e3 eI (eT eI) (eT eI))) shifts, eI hour] (F_open_roles week shifts hour) (fun r => (eT eI) r) (fun r ss => ∃ s0_ s1_ s2_ : Sl, ss = [s0_, s1_, s2_]) := by
  refine cal_mk (fn := f_open_roles) (n := N + 2) (ρ0 := [.ow (eI week), .ow ((eT (e3 eI (eT eI) (eT eI))) shifts), .ow (eI hour), .no, .no, .no, .no, .no, .no, .no]) rfl (ao_f (ao_f (ao_f ao_nil))) rfl ?_
  unfold F_open_roles
  refine rm_asgB (w_val (k_eq (k_callG (k_ar rfl k_an) (fun _ => rfl) (fun _ => (ok_p (Ec.p _) ok_nil)) (fun _ => (ok_shifted _ _)) (fun _ _ ss_ hb => match ss_, hb with | _, ⟨_, rfl⟩ => bk_fin (bk_p (Ec.p _) bk_nil) rfl)) rfl)) (fun _ => rfl) fun ownv => ?_
  refine rm_asg (w_val (k_eq (k_dct0 (f := eI) (g := eB)) rfl)) rfl ?_
  refine rm_asg (w_val (k_eq (k_cst eB true rfl) rfl)) rfl ?_
  refine rm_wh (fun (s : (List (Int × Bool)) × Bool) ρ' => ∃ d15 d16 d17 : Option D, ρ' = [.ow (eI week), .ow ((eT (e3 eI (eT eI) (eT eI))) shifts), .ow (eI hour), .ow ((eT eI) ownv), .ow ((eDi true eI eB) s.1), .ow (eB s.2), sl d15, sl d16, sl d17, .no]) ⟨none, none, none, rfl⟩ ?_ ?_ ?_
  · rintro s_ _ ⟨d, d1, d2, rfl⟩
    exact ⟨_, (k_eq (k_var rfl) rfl)⟩
  · rintro s_ _ ⟨d, d1, d2, rfl⟩ _
    unfold F_open_roles_b1
    refine rm_asg (w_val (k_eq (k_cst eB false rfl) rfl)) rfl ?_
    refine rm_for (fun (s : (List (Int × Bool)) × Bool) ρ' => ∃ d9 d10 d11 : Option D, ρ' = [.ow (eI week), .ow ((eT (e3 eI (eT eI) (eT eI))) shifts), .ow (eI hour), .ow ((eT eI) ownv), .ow ((eDi true eI eB) s.1), .ow (eB s.2), sl d9, sl d10, sl d11, .no]) (k_walk (k_eq (k_var rfl) rfl)) ⟨d, d1, d2, rfl⟩ ?_ ?_
    · rintro p s_1 _ ⟨d3, d4, d5, rfl⟩
      unfold F_open_roles_b2
      refine rm_body (asg_tp (ats_cons (asg_sl rfl) (ats_cons (asg_sl rfl) (ats_cons (asg_sl rfl) ats_nil)))) ?_
      refine rm_ifJB (fun (s : (List (Int × Bool)) × Bool) ρ' => ρ' = [.ow (eI week), .ow ((eT (e3 eI (eT eI) (eT eI))) shifts), .ow (eI hour), .ow ((eT eI) ownv), .ow ((eDi true eI eB) s.1), .ow (eB s.2), .ow (eI p.a), .ow ((eT eI) p.b), .ow ((eT eI) p.c), .no]) (k_eq (k_and (k_cmp (k_var rfl) (k_vw rfl rfl) c_ninD) (k_and (k_cmp (k_var rfl) (k_var rfl) c_in) (k_blt (k_lcP (k_walk (k_eq (k_var rfl) rfl)) (fun _ => rfl) (fun _ => rfl) (fun need => (k_eq (k_orP (k_eq (k_cmp (k_var rfl) (k_vw rfl rfl) c_inD) rfl) (k_eq (k_cmp (k_var rfl) (k_var rfl) c_nin) rfl)) rfl))) b_all))) rfl) (fun _ => ?_) (fun _ => ?_) ?_
      · refine rm_put (w_val (k_eq (k_cst eB true rfl) rfl)) rfl (k_eq (k_var rfl) rfl) (fun _ => rfl) fun found4 => ?_
        refine rm_asg (w_val (k_eq (k_cst eB true rfl) rfl)) rfl ?_
        exact rm_nil (rm_end ⟨rfl, rfl⟩)
      · exact rm_nil (rm_end ⟨rfl, rfl⟩)
      · rintro j _ rfl
        exact rm_nil (rm_end ⟨.inl rfl, ⟨(some _), (some _), (some _), rfl⟩⟩)
    · rintro st _ ⟨d6, d7, d8, rfl⟩
      exact rm_nil (rm_end ⟨.inl rfl, ⟨d6, d7, d8, rfl⟩⟩)
  · rintro st1 _ ⟨d12, d13, d14, rfl⟩
    refine rm_retB (w_val (k_eq (k_blt (k_blt (k_vw rfl rfl) b_sortedD) b_tuple) rfl)) fun x2 => ⟨.inl rfl, ⟨_, _, _, rfl⟩⟩
def F__law_open_b2 (hour : Int) (x : (List Int)) (p : (T3 Int (List Int) (List Int))) (s_1 : (List Int)) : Option ((List Int)) :=
  ((if (!mem p.a s_1) then (if (mem hour p.b) then (lcFil p.c (fun (need : Int) => ((mem need x) && (!mem need s_1))) (fun (need : Int) => need)).bind fun x1 => some ((decide (x1 = ([] : List Int)))) else some false) else some false)).bind fun t => ((if t then (pushG s_1 p.a).bind fun found4 => some (found4) else some (s_1)) : Option ((List Int))).bind fun j => some (j)
def F__law_open_b1 (shifts : (List (T3 Int (List Int) (List Int)))) (hour : Int) (x : (List Int)) (turn : (T3 Int (List Int) (List Int))) (s_ : (List Int)) : Option ((List Int)) :=
  (forN (F__law_open_b2 hour x) shifts s_).bind fun st => some (st)
def F__law_open (shifts : (List (T3 Int (List Int) (List Int)))) (hour : Int) : Option ((List Int)) :=
  (lcMap shifts (fun (shift : (T3 Int (List Int) (List Int))) => shift.a)).bind fun x => (forN (F__law_open_b1 shifts hour x) shifts ([] : List Int)).bind fun st1 => (srtG tt ltI st1).bind fun x2 => some (x2)
theorem ok__law_open (N : Nat) (shifts : (List (T3 Int (List Int) (List Int)))) (hour : Int) : CalE (callN fns (N + 1)) 10 [(eT (e3 eI (eT eI) (eT eI))) shifts, eI hour] (F__law_open shifts hour) (fun r => (eL true eI) r) (fun r ss => ∃ s0_ s1_ : Sl, ss = [s0_, s1_]) := by
  refine cal_mk (fn := f__law_open) (n := N + 0) (ρ0 := [.ow ((eT (e3 eI (eT eI) (eT eI))) shifts), .ow (eI hour), .no, .no, .no, .no, .no, .no, .no, .no]) rfl (ao_f (ao_f ao_nil)) rfl ?_
  unfold F__law_open
  refine rm_parW (ws_cons (we_pB (k_eq (k_lcP (k_walk (k_eq (k_var rfl) rfl)) (fun _ => rfl) (fun _ => rfl) (fun shift => (k_eq (k_idxT (g := eI) (pr := fun (u : (T3 Int (List Int) (List Int))) => u.a) (n := 0) (k_var rfl) (fun _ => rfl) (fun _ => rfl)) rfl))) rfl) fun x => (wo_val (ws_cons (we_p (k_eq (k_lst (k_esn (f := eI))) rfl) (wo_val (ws_nil ⟨_, (ats_cons rfl (ats_cons rfl ats_nil)), ?_⟩)))))))
  refine rm_for (fun (s : (List Int)) ρ' => ∃ d17 d18 d19 d20 : Option D, ρ' = [.ow ((eT (e3 eI (eT eI) (eT eI))) shifts), .ow (eI hour), .ow ((eL true eI) x), .ow ((eL true eI) s), .no, sl d17, sl d18, sl d19, sl d20, .no]) (k_walk (k_eq (k_var rfl) rfl)) ⟨none, none, none, none, rfl⟩ ?_ ?_
  · rintro turn s_ _ ⟨d, d1, d2, d3, rfl⟩
    unfold F__law_open_b1
    refine rm_body (asg_sl rfl) ?_
    refine rm_for (fun (s : (List Int)) ρ' => ∃ d10 d11 d12 : Option D, ρ' = [.ow ((eT (e3 eI (eT eI) (eT eI))) shifts), .ow (eI hour), .ow ((eL true eI) x), .ow ((eL true eI) s), .no, .ow ((e3 eI (eT eI) (eT eI)) turn), sl d10, sl d11, sl d12, .no]) (k_walk (k_eq (k_var rfl) rfl)) ⟨d1, d2, d3, rfl⟩ ?_ ?_
    · rintro p s_1 _ ⟨d4, d5, d6, rfl⟩
      unfold F__law_open_b2
      refine rm_body (asg_tp (ats_cons (asg_sl rfl) (ats_cons (asg_sl rfl) (ats_cons (asg_sl rfl) ats_nil)))) ?_
      refine rm_ifJB (fun (s : (List Int)) ρ' => ρ' = [.ow ((eT (e3 eI (eT eI) (eT eI))) shifts), .ow (eI hour), .ow ((eL true eI) x), .ow ((eL true eI) s), .no, .ow ((e3 eI (eT eI) (eT eI)) turn), .ow (eI p.a), .ow ((eT eI) p.b), .ow ((eT eI) p.c), .no]) (k_eq (k_and (k_cmp (k_var rfl) (k_vw rfl rfl) c_nin) (k_and (k_cmp (k_var rfl) (k_var rfl) c_in) (k_cmp (k_lcF (k_walk (k_eq (k_var rfl) rfl)) (fun _ => rfl) (fun _ => rfl) (fun need => (k_eq (k_andP (k_eq (k_cmp (k_var rfl) (k_vw rfl rfl) c_in) rfl) (k_eq (k_cmp (k_var rfl) (k_vw rfl rfl) c_nin) rfl)) rfl)) (fun need => (k_eq (k_var rfl) rfl))) (k_lst (k_esn (f := eI))) c_eqL))) rfl) (fun _ => ?_) (fun _ => ?_) ?_
      · refine rm_append (w_val (k_eq (k_var rfl) rfl)) rfl rfl (fun _ => rfl) fun found4 => ?_
        exact rm_nil (rm_end ⟨rfl, rfl⟩)
      · exact rm_nil (rm_end ⟨rfl, rfl⟩)
      · rintro j _ rfl
        exact rm_nil (rm_end ⟨.inl rfl, ⟨(some _), (some _), (some _), rfl⟩⟩)
    · rintro st _ ⟨d7, d8, d9, rfl⟩
      exact rm_nil (rm_end ⟨.inl rfl, ⟨(some _), d7, d8, d9, rfl⟩⟩)
  · rintro st1 _ ⟨d13, d14, d15, d16, rfl⟩
    refine rm_retB (w_val (k_eq (k_blt (k_vw rfl rfl) b_sorted) rfl)) fun x2 => ⟨.inl rfl, ⟨_, _, rfl⟩⟩
theorem ok__law_same (N : Nat) (a b : (List Int)) : CalE (callN fns (N + 8)) 8 [(eT eI) a, (eT eI) b] (sameF a b) (fun r => eB r) (fun _ ss => ∃ s t, ss = [s, t]) := same_ok (fns := fns) rfl N a b
def F_hours_of (week : Int) (shifts : (List (T3 Int (List Int) (List Int)))) (role : Int) : Option ((List Int)) :=
  (((rngG 0 week).bind fun x3 => lcM x3 (fun (hour : Int) => ((F_open_roles (week) (shifts) (hour) ).bind fun x => some ((mem role x))).bind fun x2 => if x2 then some (some hour) else some none)).bind fun x4 => some (x4)).bind fun x5 => some (x5)
theorem ok_hours_of (N : Nat) (week : Int) (shifts : (List (T3 Int (List Int) (List Int)))) (role : Int) : CalE (callN fns (N + 4)) 3 [eI week, (eT (e3 eI (eT eI) (eT eI))) shifts, eI role] (F_hours_of week shifts role) (fun r => (eT eI) r) (fun r ss => ∃ s0_ s1_ s2_ : Sl, ss = [s0_, s1_, s2_]) := by
  refine cal_mk (fn := f_hours_of) (n := N + 3) (ρ0 := [.ow (eI week), .ow ((eT (e3 eI (eT eI) (eT eI))) shifts), .ow (eI role), .no]) rfl (ao_f (ao_f (ao_f ao_nil))) rfl ?_
  unfold F_hours_of
  refine rm_retB (w_val (k_eq (k_blt (k_lc (k_walk (k_eq (k_blt (k_var rfl) b_rng1) rfl)) (t_one (fun _ => rfl) (fun _ => rfl) (fun hour => (k_eq (k_cmp (k_var rfl) (k_callG (k_ar rfl (k_ar rfl (k_ar rfl k_an))) (fun _ => rfl) (fun _ => (ok_p (Ec.p _) (ok_p (Ec.p _) (ok_p (Ec.p _) ok_nil)))) (fun _ => (ok_open_roles _ _ _ _)) (fun _ _ ss_ hb => match ss_, hb with | _, ⟨_, _, _, rfl⟩ => bk_fin (bk_p (Ec.p _) (bk_p (Ec.p _) (bk_p (Ec.p _) bk_nil))) rfl)) c_in) rfl)) (fun hour => (k_eq (k_var rfl) rfl)))) b_tuple) rfl)) fun x5 => ⟨.inl rfl, ⟨_, _, _, rfl⟩⟩
def F_always_open (week : Int) (shifts : (List (T3 Int (List Int) (List Int)))) : Option ((List Int)) :=
  (((F_shifted (shifts) ).bind fun x4 => lcM x4 (fun (role : Int) => (((F_hours_of (week) (shifts) (role) ).bind fun x => some ((x.length : Int))).bind fun x1 => some ((decide (x1 = week)))).bind fun x3 => if x3 then some (some role) else some none)).bind fun x5 => some (x5)).bind fun x6 => some (x6)
theorem ok_always_open (N : Nat) (week : Int) (shifts : (List (T3 Int (List Int) (List Int)))) : CalE (callN fns (N + 5)) 4 [eI week, (eT (e3 eI (eT eI) (eT eI))) shifts] (F_always_open week shifts) (fun r => (eT eI) r) (fun r ss => ∃ s0_ s1_ : Sl, ss = [s0_, s1_]) := by
  refine cal_mk (fn := f_always_open) (n := N + 4) (ρ0 := [.ow (eI week), .ow ((eT (e3 eI (eT eI) (eT eI))) shifts), .no]) rfl (ao_f (ao_f ao_nil)) rfl ?_
  unfold F_always_open
  refine rm_retB (w_val (k_eq (k_blt (k_lc (k_walk (k_eq (k_callG (k_ar rfl k_an) (fun _ => rfl) (fun _ => (ok_p (Ec.p _) ok_nil)) (fun _ => (ok_shifted _ _)) (fun _ _ ss_ hb => match ss_, hb with | _, ⟨_, rfl⟩ => bk_fin (bk_p (Ec.p _) bk_nil) rfl)) rfl)) (t_one (fun _ => rfl) (fun _ => rfl) (fun role => (k_eq (k_cmp (k_blt (k_callG (k_ar rfl (k_ar rfl (k_ar rfl k_an))) (fun _ => rfl) (fun _ => (ok_p (Ec.p _) (ok_p (Ec.p _) (ok_p (Ec.p _) ok_nil)))) (fun _ => (ok_hours_of _ _ _ _)) (fun _ _ ss_ hb => match ss_, hb with | _, ⟨_, _, _, rfl⟩ => bk_fin (bk_p (Ec.p _) (bk_p (Ec.p _) (bk_p (Ec.p _) bk_nil))) rfl)) b_len) (k_var rfl) c_eq) rfl)) (fun role => (k_eq (k_var rfl) rfl)))) b_tuple) rfl)) fun x6 => ⟨.inl rfl, ⟨_, _, rfl⟩⟩
def F__law_hours (week : Int) (shifts : (List (T3 Int (List Int) (List Int)))) (role : Int) : Option ((List Int)) :=
  (((rngG 0 week).bind fun x3 => lcM x3 (fun (hour : Int) => ((F__law_open (shifts) (hour) ).bind fun x => some ((mem role x))).bind fun x2 => if x2 then some (some hour) else some none)).bind fun x4 => some (x4)).bind fun x5 => some (x5)
theorem ok__law_hours (N : Nat) (week : Int) (shifts : (List (T3 Int (List Int) (List Int)))) (role : Int) : CalE (callN fns (N + 2)) 11 [eI week, (eT (e3 eI (eT eI) (eT eI))) shifts, eI role] (F__law_hours week shifts role) (fun r => (eT eI) r) (fun r ss => ∃ s0_ s1_ s2_ : Sl, ss = [s0_, s1_, s2_]) := by
  refine cal_mk (fn := f__law_hours) (n := N + 1) (ρ0 := [.ow (eI week), .ow ((eT (e3 eI (eT eI) (eT eI))) shifts), .ow (eI role), .no]) rfl (ao_f (ao_f (ao_f ao_nil))) rfl ?_
  unfold F__law_hours
  refine rm_retB (w_val (k_eq (k_blt (k_lc (k_walk (k_eq (k_blt (k_var rfl) b_rng1) rfl)) (t_one (fun _ => rfl) (fun _ => rfl) (fun hour => (k_eq (k_cmp (k_var rfl) (k_callG (k_ar rfl (k_ar rfl k_an)) (fun _ => rfl) (fun _ => (ok_p (Ec.p _) (ok_p (Ec.p _) ok_nil))) (fun _ => (ok__law_open _ _ _)) (fun _ _ ss_ hb => match ss_, hb with | _, ⟨_, _, rfl⟩ => bk_fin (bk_p (Ec.p _) (bk_p (Ec.p _) bk_nil)) rfl)) c_in) rfl)) (fun hour => (k_eq (k_var rfl) rfl)))) b_tuple) rfl)) fun x5 => ⟨.inl rfl, ⟨_, _, _, rfl⟩⟩
def F_longest_gap (week : Int) (shifts : (List (T3 Int (List Int) (List Int)))) (role : Int) : Option (Int) :=
  (F_hours_of (week) (shifts) (role) ).bind fun hours => if (decide (hours = ([] : List Int))) then some (week) else ((rngG 0 ((hours.length : Int) - (1 : Int))).bind fun x4 => lcM x4 (fun (k : Int) => (((getI hours (k + (1 : Int))).bind fun x => (getI hours k).bind fun x1 => some ((x - x1))).bind fun x2 => some ((x2 - (1 : Int)))).bind fun x3 => some (some x3))).bind fun gaps => (((((((getI hours (0 : Int)).bind fun x5 => some ((x5 + week))).bind fun x6 => (getI hours (-(1 : Int))).bind fun x7 => some ((x6 - x7))).bind fun x8 => some ((x8 - (1 : Int)))).bind fun x9 => some (([x9] : List Int))).bind fun x10 => lmG (gaps ++ x10)).bind fun x11 => maxG tt ltI x11).bind fun x12 => some (x12)
theorem ok_longest_gap (N : Nat) (week : Int) (shifts : (List (T3 Int (List Int) (List Int)))) (role : Int) : CalE (callN fns (N + 5)) 5 [eI week, (eT (e3 eI (eT eI) (eT eI))) shifts, eI role] (F_longest_gap week shifts role) (fun r => eI r) (fun r ss => ∃ s0_ s1_ s2_ : Sl, ss = [s0_, s1_, s2_]) := by
  refine cal_mk (fn := f_longest_gap) (n := N + 4) (ρ0 := [.ow (eI week), .ow ((eT (e3 eI (eT eI) (eT eI))) shifts), .ow (eI role), .no, .no, .no]) rfl (ao_f (ao_f (ao_f ao_nil))) rfl ?_
  unfold F_longest_gap
  refine rm_asgB (w_val (k_eq (k_callG (k_ar rfl (k_ar rfl (k_ar rfl k_an))) (fun _ => rfl) (fun _ => (ok_p (Ec.p _) (ok_p (Ec.p _) (ok_p (Ec.p _) ok_nil)))) (fun _ => (ok_hours_of _ _ _ _)) (fun _ _ ss_ hb => match ss_, hb with | _, ⟨_, _, _, rfl⟩ => bk_fin (bk_p (Ec.p _) (bk_p (Ec.p _) (bk_p (Ec.p _) bk_nil))) rfl)) rfl)) (fun _ => rfl) fun hours => ?_
  refine rm_if (k_eq (k_cmp (k_var rfl) (k_tupS (k_esn (f := eI))) c_eq) rfl) (fun _ => ?_) (fun _ => ?_)
  · refine rm_ret (w_val (k_eq (k_var rfl) rfl)) ⟨.inl rfl, ⟨_, _, _, rfl⟩⟩
  · refine rm_nil ?_
    refine rm_asgB (w_val (k_eq (k_lc (k_walk (k_eq (k_blt (k_bin (k_blt (k_var rfl) b_len) (k_cst eI 1 rfl) o_sub) b_rng1) rfl)) (t_no (fun _ => rfl) (fun _ => rfl) (fun k => (k_eq (k_bin (k_bin (k_idx (k_var rfl) (k_bin (k_var rfl) (k_cst eI 1 rfl) o_add)) (k_idx (k_var rfl) (k_var rfl)) o_sub) (k_cst eI 1 rfl) o_sub) rfl)))) rfl)) (fun _ => rfl) fun gaps => ?_
    refine rm_retB (w_val (k_eq (k_blt (k_bin (k_vw rfl rfl) (k_lst (k_esc (k_bin (k_bin (k_bin (k_idx (k_var rfl) (k_cst eI 0 rfl)) (k_var rfl) o_add) (k_idx (k_var rfl) (k_neg (k_cst eI 1 rfl))) o_sub) (k_cst eI 1 rfl) o_sub) (k_esn (f := eI)))) o_addL) b_max) rfl)) fun x12 => ⟨.inl rfl, ⟨_, _, _, rfl⟩⟩
theorem ok__law_same_1 (N : Nat) (a b : Int) : CalE (callN fns (N + 8)) 8 [eI a, eI b] (sameF a b) (fun r => eB r) (fun _ ss => ∃ s t, ss = [s, t]) := same_ok (fns := fns) rfl N a b
def F_law_b2 (rv : (Int × W)) (rv1 : ((List (T3 Int (List Int) (List Int))) × W)) (hour : Int) (s_1 : Unit) : Option (Ct (Unit) (Ct (W) (Bool))) :=
  (((F_open_roles (((3 : Int) + rv.1)) (rv1.1) (hour) ).bind fun x3 => ((F__law_open (rv1.1) (hour) ).bind fun x2 => some (x2)).bind fun x4 => sameF (x3) (x4) ).bind fun x5 => some ((!x5))).bind fun t => if t then some (Ct.rt (Ct.rt (false))) else some (Ct.nx (()))
def F_law_b5 (s_4 : Int) : Option (Int) :=
  some ((s_4 + (1 : Int)))
def F_law_b4 (rv : (Int × W)) (hours : (List Int)) (beginv : Int) (s_3 : Int) : Option (Int) :=
  (whN (fun (s_4 : Int) => ((if (decide (s_4 < ((3 : Int) + rv.1))) then (modG (beginv + s_4) ((3 : Int) + rv.1)).bind fun x16 => some ((!mem x16 hours)) else some false))) (F_law_b5) turns (0 : Int)).bind fun st1 => (some (max2 s_3 st1)).bind fun gap1 => some (gap1)
def F_law_b3 (rv : (Int × W)) (rv1 : ((List (T3 Int (List Int) (List Int))) × W)) (role1 : Int) (s_2 : Unit) : Option (Ct (Unit) (Ct (W) (Bool))) :=
  (F__law_hours (((3 : Int) + rv.1)) (rv1.1) (role1) ).bind fun hours => (((F_hours_of (((3 : Int) + rv.1)) (rv1.1) (role1) ).bind fun x14 => sameF (x14) (hours) ).bind fun x15 => some ((!x15))).bind fun t2 => if t2 then some (Ct.rt (Ct.rt (false))) else (rngG 0 ((3 : Int) + rv.1)).bind fun xs => (forN (F_law_b4 rv hours) xs (0 : Int)).bind fun st2 => (((F_longest_gap (((3 : Int) + rv.1)) (rv1.1) (role1) ).bind fun x17 => sameF (x17) (st2) ).bind fun x18 => some ((!x18))).bind fun t1 => if t1 then some (Ct.rt (Ct.rt (false))) else some (Ct.nx (()))
def F_law_b1 (turn : Int) (s_ : W) : Option (Ct (W) (Bool)) :=
  (nextF (s_) ((6 : Int)) ).bind fun rv => (F__law_shifts (rv.2) (((3 : Int) + rv.1)) ).bind fun rv1 => ((lcMap rv1.1 (fun (shift : (T3 Int (List Int) (List Int))) => shift.a)).bind fun x1 => ssetG tt ltI x1).bind fun roles => (rngG 0 ((3 : Int) + rv.1)).bind fun xs2 => jn (forC (F_law_b2 rv rv1) xs2 ()) fun st => (((F_always_open (((3 : Int) + rv.1)) (rv1.1) ).bind fun x11 => ((lcM roles (fun (role : Int) => (((F__law_hours (((3 : Int) + rv.1)) (rv1.1) (role) ).bind fun x6 => some ((x6.length : Int))).bind fun x7 => some ((decide (x7 = ((3 : Int) + rv.1))))).bind fun x9 => if x9 then some (some role) else some none)).bind fun x10 => some (x10)).bind fun x12 => sameF (x11) (x12) ).bind fun x13 => some ((!x13))).bind fun t3 => if t3 then some (Ct.rt (false)) else jn (forC (F_law_b3 rv rv1) roles ()) fun st3 => some (Ct.nx (rv1.2))
def F_law (script : (List Int)) : Option (Bool) :=
  ((F_L_law_draws (script) ((600 : Int)) ).bind fun x => some ((⟨x, 0⟩ : W))).bind fun w => (rngG 0 (4 : Int)).bind fun xs3 => jn (forC (F_law_b1) xs3 w) fun st4 => some (true)
theorem ok_law (N : Nat) (script : (List Int)) : CalE (callN fns (N + 9)) 12 [eScr script] (F_law script) (fun r => eB r) (fun r ss => ∃ s0_ : Sl, ss = [s0_]) := by
  refine cal_mk (fn := f_law) (n := N + 8) (ρ0 := [.ow (eScr script), .no, .no, .no, .no, .no, .no, .no, .no, .no, .no, .no, .no]) rfl (ao_f ao_nil) rfl ?_
  unfold F_law
  refine rm_asgB (w_val (k_eq (k_w (k_callG (k_ar rfl (k_ae (k_eq (k_cst eI 600 rfl) rfl) k_an)) (fun _ => rfl) (fun _ => (ok_p (Ec.p _) (ok_val ok_nil))) (fun _ => (ok__law_draws _ _ _)) (fun _ _ ss_ hb => match ss_, hb with | _, ⟨_, _, rfl⟩ => bk_fin (bk_p (Ec.p _) (bk_val bk_nil)) rfl))) rfl)) (fun _ => rfl) fun w => ?_
  refine rm_forCB (fun (s : W) ρ' => ∃ d44 d45 d46 d47 d48 d49 d50 d51 d52 d53 : Option D, ρ' = [.ow (eScr script), .ow (eW s), sl d44, sl d45, sl d46, sl d47, .no, sl d48, sl d49, sl d50, sl d51, sl d52, sl d53]) (k_walk (k_eq (k_blt (k_cst eI 4 rfl) b_rng1) rfl)) ⟨none, none, none, none, none, none, none, none, none, none, rfl⟩ ?_ ?_
  · rintro turn s_ _ ⟨d, d1, d2, d3, d4, d5, d6, d7, d8, d9, rfl⟩
    unfold F_law_b1
    refine rm_body (asg_sl rfl) ?_
    refine rm_asgW (wx_evD (we_bin (we_p (k_eq (k_cst eI 3 rfl) rfl) ⟨rfl, (we_call (wa_ref rfl (wa_cons (we_p (k_eq (k_cst eI 6 rfl) rfl) (wo_val (wa_nil ⟨_, rfl, (ok_o rfl rfl rfl (ok_val ok_nil)), wx_cal (ok__law_next _ _ _) fun rv ss_ hs => match ss_, hs with | _, ⟨_, rfl⟩ => ⟨_, (bk_o rfl rfl (bk_val bk_nil)), (wx_of (o := eI ((3 : Int) + rv.1)) rfl ⟨rfl, _, (asg_sl rfl), ?_⟩)⟩⟩))))))⟩)))
    refine rm_asgW (wx_evD (we_call (wa_ref rfl (wa_ref rfl (wa_nil ⟨_, rfl, (ok_o rfl rfl rfl (ok_p (Ec.p _) ok_nil)), wx_cal (ok__law_shifts _ _ _) fun rv1 ss_ hs => match ss_, hs with | _, ⟨_, rfl⟩ => ⟨_, (bk_o rfl rfl (bk_p (Ec.p _) bk_nil)), ⟨rfl, _, (asg_sl rfl), ?_⟩⟩⟩)))))
    refine rm_asgB (w_val (k_eq (k_blt (k_lcP (k_walk (k_eq (k_var rfl) rfl)) (fun _ => rfl) (fun _ => rfl) (fun shift => (k_eq (k_idxT (g := eI) (pr := fun (u : (T3 Int (List Int) (List Int))) => u.a) (n := 0) (k_var rfl) (fun _ => rfl) (fun _ => rfl)) rfl))) b_sortedSet) rfl)) (fun _ => (asg_sl rfl)) fun roles => ?_
    refine rm_forCB (fun (s : Unit) ρ' => ∃ d33 : Option D, ρ' = [.ow (eScr script), .ow (eW rv1.2), .ow (eI turn), .ow (eI ((3 : Int) + rv.1)), .ow ((eT (e3 eI (eT eI) (eT eI))) rv1.1), .ow ((eL true eI) roles), .no, sl d33, sl d5, sl d6, sl d7, sl d8, sl d9]) (k_walk (k_eq (k_blt (k_var rfl) b_rng1) rfl)) ⟨d4, rfl⟩ ?_ ?_
    · rintro hour s_1 _ ⟨d10, rfl⟩
      unfold F_law_b2
      refine rm_body (asg_sl rfl) ?_
      refine rm_ifB (k_eq (k_not (k_eq (m := (F_open_roles (((3 : Int) + rv.1)) (rv1.1) (hour) ).bind fun x3 => ((F__law_open (rv1.1) (hour) ).bind fun x2 => some (x2)).bind fun x4 => sameF (x3) (x4) ) (k_callG (k_ae (k_eq (k_callG (k_ar rfl (k_ar rfl (k_ar rfl k_an))) (fun _ => rfl) (fun _ => (ok_p (Ec.p _) (ok_p (Ec.p _) (ok_p (Ec.p _) ok_nil)))) (fun _ => (ok_open_roles _ _ _ _)) (fun _ _ ss_ hb => match ss_, hb with | _, ⟨_, _, _, rfl⟩ => bk_fin (bk_p (Ec.p _) (bk_p (Ec.p _) (bk_p (Ec.p _) bk_nil))) rfl)) rfl) (k_ae (k_eq (k_blt (k_callG (k_ar rfl (k_ar rfl k_an)) (fun _ => rfl) (fun _ => (ok_p (Ec.p _) (ok_p (Ec.p _) ok_nil))) (fun _ => (ok__law_open _ _ _)) (fun _ _ ss_ hb => match ss_, hb with | _, ⟨_, _, rfl⟩ => bk_fin (bk_p (Ec.p _) (bk_p (Ec.p _) bk_nil)) rfl)) b_tuple) rfl) k_an)) (fun _ => rfl) (fun _ => (ok_val (ok_val ok_nil))) (fun _ => (ok__law_same _ _ _)) (fun _ _ ss_ hb => match ss_, hb with | _, ⟨_, _, rfl⟩ => bk_fin (bk_val (bk_val bk_nil)) rfl)) (by simp only [Option.bind_assoc, Option.bind_some]))) rfl) (fun _ => ?_) (fun _ => ?_)
      · refine rm_ret (w_val (k_eq (k_cst eB false rfl) rfl)) ⟨_, rfl, ⟨_, rfl, ⟨.inl rfl, ⟨_, rfl⟩⟩⟩⟩
      · refine rm_nil ?_
        exact rm_nil (rm_end ⟨.inl rfl, ⟨(some _), rfl⟩⟩)
    · rintro st _ ⟨d11, rfl⟩
      refine rm_ifB (k_eq (k_not (k_eq (m := (F_always_open (((3 : Int) + rv.1)) (rv1.1) ).bind fun x11 => ((lcM roles (fun (role : Int) => (((F__law_hours (((3 : Int) + rv.1)) (rv1.1) (role) ).bind fun x6 => some ((x6.length : Int))).bind fun x7 => some ((decide (x7 = ((3 : Int) + rv.1))))).bind fun x9 => if x9 then some (some role) else some none)).bind fun x10 => some (x10)).bind fun x12 => sameF (x11) (x12) ) (k_callG (k_ae (k_eq (k_callG (k_ar rfl (k_ar rfl k_an)) (fun _ => rfl) (fun _ => (ok_p (Ec.p _) (ok_p (Ec.p _) ok_nil))) (fun _ => (ok_always_open _ _ _)) (fun _ _ ss_ hb => match ss_, hb with | _, ⟨_, _, rfl⟩ => bk_fin (bk_p (Ec.p _) (bk_p (Ec.p _) bk_nil)) rfl)) rfl) (k_ae (k_eq (k_blt (k_lc (k_walkV (k_eq (k_vw rfl rfl) rfl)) (t_one (fun _ => rfl) (fun _ => rfl) (fun role => (k_eq (k_cmp (k_blt (k_callG (k_ar rfl (k_ar rfl (k_ar rfl k_an))) (fun _ => rfl) (fun _ => (ok_p (Ec.p _) (ok_p (Ec.p _) (ok_p (Ec.p _) ok_nil)))) (fun _ => (ok__law_hours _ _ _ _)) (fun _ _ ss_ hb => match ss_, hb with | _, ⟨_, _, _, rfl⟩ => bk_fin (bk_p (Ec.p _) (bk_p (Ec.p _) (bk_p (Ec.p _) bk_nil))) rfl)) b_len) (k_var rfl) c_eq) rfl)) (fun role => (k_eq (k_var rfl) rfl)))) b_tuple) rfl) k_an)) (fun _ => rfl) (fun _ => (ok_val (ok_val ok_nil))) (fun _ => (ok__law_same _ _ _)) (fun _ _ ss_ hb => match ss_, hb with | _, ⟨_, _, rfl⟩ => bk_fin (bk_val (bk_val bk_nil)) rfl)) (by simp only [Option.bind_assoc, Option.bind_some]))) rfl) (fun _ => ?_) (fun _ => ?_)
      · refine rm_ret (w_val (k_eq (k_cst eB false rfl) rfl)) ⟨_, rfl, ⟨.inl rfl, ⟨_, rfl⟩⟩⟩
      · refine rm_nil ?_
        refine rm_forC (fun (s : Unit) ρ' => ∃ d28 d29 d30 d31 d32 : Option D, ρ' = [.ow (eScr script), .ow (eW rv1.2), .ow (eI turn), .ow (eI ((3 : Int) + rv.1)), .ow ((eT (e3 eI (eT eI) (eT eI))) rv1.1), .ro ((eL true eI) roles), .no, sl d11, sl d28, sl d29, sl d30, sl d31, sl d32]) (k_walkV (k_eq (k_vw rfl rfl) rfl)) ⟨d5, d6, d7, d8, d9, rfl⟩ ?_ ?_
        · rintro role1 s_2 _ ⟨d12, d13, d14, d15, d16, rfl⟩
          unfold F_law_b3
          refine rm_body (asg_sl rfl) ?_
          refine rm_asgB (w_val (k_eq (k_callG (k_ar rfl (k_ar rfl (k_ar rfl k_an))) (fun _ => rfl) (fun _ => (ok_p (Ec.p _) (ok_p (Ec.p _) (ok_p (Ec.p _) ok_nil)))) (fun _ => (ok__law_hours _ _ _ _)) (fun _ _ ss_ hb => match ss_, hb with | _, ⟨_, _, _, rfl⟩ => bk_fin (bk_p (Ec.p _) (bk_p (Ec.p _) (bk_p (Ec.p _) bk_nil))) rfl)) rfl)) (fun _ => (asg_sl rfl)) fun hours => ?_
          refine rm_ifB (k_eq (k_not (k_eq (m := (F_hours_of (((3 : Int) + rv.1)) (rv1.1) (role1) ).bind fun x14 => sameF (x14) (hours) ) (k_callG (k_ae (k_eq (k_callG (k_ar rfl (k_ar rfl (k_ar rfl k_an))) (fun _ => rfl) (fun _ => (ok_p (Ec.p _) (ok_p (Ec.p _) (ok_p (Ec.p _) ok_nil)))) (fun _ => (ok_hours_of _ _ _ _)) (fun _ _ ss_ hb => match ss_, hb with | _, ⟨_, _, _, rfl⟩ => bk_fin (bk_p (Ec.p _) (bk_p (Ec.p _) (bk_p (Ec.p _) bk_nil))) rfl)) rfl) (k_ar rfl k_an)) (fun _ => rfl) (fun _ => (ok_val (ok_p (Ec.p _) ok_nil))) (fun _ => (ok__law_same _ _ _)) (fun _ _ ss_ hb => match ss_, hb with | _, ⟨_, _, rfl⟩ => bk_fin (bk_val (bk_p (Ec.p _) bk_nil)) rfl)) (by simp only [Option.bind_assoc, Option.bind_some]))) rfl) (fun _ => ?_) (fun _ => ?_)
          · refine rm_ret (w_val (k_eq (k_cst eB false rfl) rfl)) ⟨_, rfl, ⟨_, rfl, ⟨.inl rfl, ⟨_, rfl⟩⟩⟩⟩
          · refine rm_nil ?_
            refine rm_asg (w_val (k_eq (k_cst eI 0 rfl) rfl)) (asg_sl rfl) ?_
            refine rm_forB (fun (s : Int) ρ' => ∃ d21 d22 : Option D, ρ' = [.ow (eScr script), .ow (eW rv1.2), .ow (eI turn), .ow (eI ((3 : Int) + rv.1)), .ow ((eT (e3 eI (eT eI) (eT eI))) rv1.1), .ro ((eL true eI) roles), .no, sl d11, .ow (eI role1), .ow ((eT eI) hours), .ow (eI s), sl d21, sl d22]) (k_walk (k_eq (k_blt (k_var rfl) b_rng1) rfl)) ⟨d15, d16, rfl⟩ ?_ ?_
            · rintro beginv s_3 _ ⟨d17, d18, rfl⟩
              unfold F_law_b4
              refine rm_body (asg_sl rfl) ?_
              refine rm_asg (w_val (k_eq (k_cst eI 0 rfl) rfl)) (asg_sl rfl) ?_
              refine rm_wh (fun (s : Int) ρ' => ρ' = [.ow (eScr script), .ow (eW rv1.2), .ow (eI turn), .ow (eI ((3 : Int) + rv.1)), .ow ((eT (e3 eI (eT eI) (eT eI))) rv1.1), .ro ((eL true eI) roles), .no, sl d11, .ow (eI role1), .ow ((eT eI) hours), .ow (eI s_3), .ow (eI beginv), .ow (eI s)]) rfl ?_ ?_ ?_
              · rintro s_4 _ rfl
                exact ⟨_, (k_eq (k_and (k_cmp (k_var rfl) (k_var rfl) c_lt) (k_cmp (k_bin (k_bin (k_var rfl) (k_var rfl) o_add) (k_var rfl) o_mod) (k_var rfl) c_nin)) rfl)⟩
              · rintro s_4 _ rfl _
                unfold F_law_b5
                refine rm_augI rfl (k_eq (k_cst eI 1 rfl) rfl) rfl rfl ?_
                exact rm_nil (rm_end ⟨.inl rfl, rfl⟩)
              · rintro st1 _ rfl
                refine rm_asgB (w_val (k_eq (k_blt2 (r := fun u v => some (max2 u v)) (k_var rfl) (k_var rfl) b_max2) rfl)) (fun _ => rfl) fun gap1 => ?_
                exact rm_nil (rm_end ⟨.inl rfl, ⟨(some _), (some _), rfl⟩⟩)
            · rintro st2 _ ⟨d19, d20, rfl⟩
              refine rm_ifB (k_eq (k_not (k_eq (m := (F_longest_gap (((3 : Int) + rv.1)) (rv1.1) (role1) ).bind fun x17 => sameF (x17) (st2) ) (k_callG (k_ae (k_eq (k_callG (k_ar rfl (k_ar rfl (k_ar rfl k_an))) (fun _ => rfl) (fun _ => (ok_p (Ec.p _) (ok_p (Ec.p _) (ok_p (Ec.p _) ok_nil)))) (fun _ => (ok_longest_gap _ _ _ _)) (fun _ _ ss_ hb => match ss_, hb with | _, ⟨_, _, _, rfl⟩ => bk_fin (bk_p (Ec.p _) (bk_p (Ec.p _) (bk_p (Ec.p _) bk_nil))) rfl)) rfl) (k_ar rfl k_an)) (fun _ => rfl) (fun _ => (ok_val (ok_p (Ec.p _) ok_nil))) (fun _ => (ok__law_same_1 _ _ _)) (fun _ _ ss_ hb => match ss_, hb with | _, ⟨_, _, rfl⟩ => bk_fin (bk_val (bk_p (Ec.p _) bk_nil)) rfl)) (by simp only [Option.bind_assoc, Option.bind_some]))) rfl) (fun _ => ?_) (fun _ => ?_)
              · refine rm_ret (w_val (k_eq (k_cst eB false rfl) rfl)) ⟨_, rfl, ⟨_, rfl, ⟨.inl rfl, ⟨_, rfl⟩⟩⟩⟩
              · refine rm_nil ?_
                exact rm_nil (rm_end ⟨.inl rfl, ⟨(some _), (some _), (some _), d19, d20, rfl⟩⟩)
        · rintro st3 _ ⟨d23, d24, d25, d26, d27, rfl⟩
          exact rm_nil (rm_end ⟨.inl rfl, ⟨(some _), (some _), (some _), (some _), d11, d23, d24, d25, d26, d27, rfl⟩⟩)
  · rintro st4 _ ⟨d34, d35, d36, d37, d38, d39, d40, d41, d42, d43, rfl⟩
    refine rm_ret (w_val (k_eq (k_cst eB true rfl) rfl)) ⟨.inl rfl, ⟨_, rfl⟩⟩
end
end LW
set_option autoImplicit false
set_option linter.all false
set_option maxRecDepth 100000
/-! ascending rows, sets of numbers, indices -/
namespace SM
open LP SH
theorem szInts {xs : List Int} (h : xs.length < 1000000) : Sz.ok xs = true := by
  show (decide (xs.length < 1000000) && xs.all Sz.ok) = true
  simp only [Bool.and_eq_true, decide_eq_true_eq, List.all_eq_true]
  exact ⟨h, fun _ _ => rfl⟩
abbrev Asc (xs : List Int) : Prop := xs.Pairwise (· < ·)
theorem asc_ext : ∀ {xs ys : List Int}, Asc xs → Asc ys → (∀ a, a ∈ xs ↔ a ∈ ys) → xs = ys
  | [], [], _, _, _ => rfl
  | [], y :: ys, _, _, h => by have := (h y).mpr (by simp); simp at this
  | x :: xs, [], _, _, h => by have := (h x).mp (by simp); simp at this
  | x :: xs, y :: ys, hx, hy, h => by
    obtain ⟨h1, h2⟩ := List.pairwise_cons.mp hx
    obtain ⟨h3, h4⟩ := List.pairwise_cons.mp hy
    have e : x = y := by
      rcases List.mem_cons.mp ((h x).mp (by simp)) with e | e
      · exact e
      · rcases List.mem_cons.mp ((h y).mpr (by simp)) with e' | e'
        · exact e'.symm
        · have := h3 x e; have := h1 y e'; omega
    subst e
    rw [asc_ext h2 h4 fun a => ?_]
    constructor
    · intro ha
      rcases List.mem_cons.mp ((h a).mp (by simp [ha])) with e | e
      · have := h1 a ha; omega
      · exact e
    · intro ha
      rcases List.mem_cons.mp ((h a).mpr (by simp [ha])) with e | e
      · have := h3 a ha; omega
      · exact e
theorem insS_mem (x : Int) : ∀ (xs : List Int) (a : Int), a ∈ insS ltI x xs ↔ a = x ∨ a ∈ xs
  | [], a => by simp [insS]
  | y :: ys, a => by
    simp only [insS]
    split
    · rename_i e; subst e; simp
    · split
      · simp
      · simp only [List.mem_cons, insS_mem x ys a]
        constructor
        · rintro (h | h | h) <;> simp [h]
        · rintro (h | h | h) <;> simp [h]
theorem insS_asc (x : Int) : ∀ {xs : List Int}, Asc xs → Asc (insS ltI x xs)
  | [], _ => by simp [insS]
  | y :: ys, h => by
    obtain ⟨h1, h2⟩ := List.pairwise_cons.mp h
    simp only [insS]
    split
    · exact h
    · rename_i hne
      split
      · rename_i hl
        simp only [ltI, decide_eq_true_eq] at hl
        refine List.pairwise_cons.mpr ⟨fun a ha => ?_, h⟩
        rcases List.mem_cons.mp ha with e | e
        · omega
        · have := h1 a e; omega
      · rename_i hl
        simp only [ltI, decide_eq_true_eq] at hl
        refine List.pairwise_cons.mpr ⟨fun a ha => ?_, insS_asc x h2⟩
        rcases (insS_mem x ys a).mp ha with e | e
        · omega
        · exact h1 a e
theorem uniqS_mem : ∀ (xs : List Int) (a : Int), a ∈ uniqS ltI xs ↔ a ∈ xs
  | [], a => by simp [uniqS]
  | x :: xs, a => by simp only [uniqS, insS_mem, uniqS_mem xs a, List.mem_cons]
theorem uniqS_asc : ∀ xs : List Int, Asc (uniqS ltI xs)
  | [] => List.Pairwise.nil
  | x :: xs => insS_asc x (uniqS_asc xs)
theorem uniqS_eq {xs ys : List Int} (hy : Asc ys) (h : ∀ a, a ∈ ys ↔ a ∈ xs) : uniqS ltI xs = ys := asc_ext (uniqS_asc xs) hy fun a => (uniqS_mem xs a).trans (h a).symm
theorem uniqS_congr {xs ys : List Int} (h : ∀ a, a ∈ xs ↔ a ∈ ys) : uniqS ltI xs = uniqS ltI ys := uniqS_eq (uniqS_asc ys) fun a => (uniqS_mem ys a).trans (h a).symm
theorem ddup_len {α : Type} [DecidableEq α] : ∀ xs : List α, (ddup xs).length ≤ xs.length
  | [] => Nat.le_refl _
  | x :: xs => by
    simp only [ddup]
    have := ddup_len xs
    split <;> simp <;> omega
theorem ssetG_eq {xs : List Int} (h : xs.length < 64) : ssetG tt ltI xs = some (uniqS ltI xs) := by
  unfold ssetG
  exact if_pos ⟨List.all_eq_true.mpr fun _ _ => rfl, by omega, Nat.lt_of_le_of_lt (ddup_len xs) h⟩
/-! sorted -/
theorem insI_mem (x : Int) : ∀ (xs : List Int) (a : Int), a ∈ insI ltI x xs ↔ a = x ∨ a ∈ xs
  | [], a => by simp [insI]
  | y :: ys, a => by
    simp only [insI]
    split
    · simp only [List.mem_cons, insI_mem x ys a]
      constructor
      · rintro (h | h | h) <;> simp [h]
      · rintro (h | h | h) <;> simp [h]
    · simp
theorem insI_srt (x : Int) : ∀ {xs : List Int}, xs.Pairwise (· ≤ ·) → (insI ltI x xs).Pairwise (· ≤ ·)
  | [], _ => by simp [insI]
  | y :: ys, h => by
    obtain ⟨h1, h2⟩ := List.pairwise_cons.mp h
    simp only [insI]
    split
    · rename_i hl
      simp only [ltI, decide_eq_true_eq] at hl
      refine List.pairwise_cons.mpr ⟨fun a ha => ?_, insI_srt x h2⟩
      rcases (insI_mem x ys a).mp ha with e | e
      · omega
      · exact h1 a e
    · rename_i hl
      simp only [ltI, decide_eq_true_eq] at hl
      refine List.pairwise_cons.mpr ⟨fun a ha => ?_, h⟩
      rcases List.mem_cons.mp ha with e | e
      · omega
      · have := h1 a e; omega
theorem insI_len (x : Int) : ∀ xs : List Int, (insI ltI x xs).length = xs.length + 1
  | [] => rfl
  | y :: ys => by
    simp only [insI]
    split
    · simp [insI_len x ys]
    · rfl
theorem isort_mem : ∀ (xs : List Int) (a : Int), a ∈ isort ltI xs ↔ a ∈ xs
  | [], a => by simp [isort]
  | x :: xs, a => by simp only [isort, insI_mem, isort_mem xs a, List.mem_cons]
theorem isort_srt : ∀ xs : List Int, (isort ltI xs).Pairwise (· ≤ ·)
  | [] => List.Pairwise.nil
  | x :: xs => insI_srt x (isort_srt xs)
theorem isort_len : ∀ xs : List Int, (isort ltI xs).length = xs.length
  | [] => rfl
  | x :: xs => by simp [isort, insI_len, isort_len xs]
theorem srtG_int (xs : List Int) : srtG tt ltI xs = some (isort ltI xs) := srtG_eq fun _ _ => rfl
theorem isort_asc : ∀ {xs : List Int}, Asc xs → isort ltI xs = xs
  | [], _ => rfl
  | x :: xs, h => by
    obtain ⟨h1, h2⟩ := List.pairwise_cons.mp h
    simp only [isort, isort_asc h2]
    cases xs with
    | nil => rfl
    | cons y ys =>
      have := h1 y (by simp)
      simp only [insI, ltI, decide_eq_true_eq]
      rw [if_neg (by omega)]
/-- the law's own making of a set: sorted, each once -/
theorem dedup_run {step : Int → List Int → Option (List Int)} (hs : ∀ x acc, acc.length < 10000 → step x acc = if acc = [] ∨ acc.getLast? ≠ some x then some (acc ++ [x]) else some acc) :
    ∀ (xs acc : List Int), acc.length + xs.length < 10000 → xs.Pairwise (· ≤ ·) → Asc acc → (∀ a ∈ acc, ∀ x ∈ xs, a ≤ x) → ∃ ys, forN step xs acc = some ys ∧ Asc ys ∧ ∀ a, a ∈ ys ↔ a ∈ acc ∨ a ∈ xs
  | [], acc, _, _, h, _ => ⟨acc, rfl, h, fun a => by simp⟩
  | x :: xs, acc, hl, hp, h, hb => by
    obtain ⟨h1, h2⟩ := List.pairwise_cons.mp hp
    simp only [List.length_cons] at hl
    simp only [forN, hs x acc (by omega)]
    by_cases c : acc = [] ∨ acc.getLast? ≠ some x
    · rw [if_pos c]
      have hx : ∀ a ∈ acc, a < x := fun a ha => by
        rcases c with c | c
        · rw [c] at ha; simp at ha
        · have hne : acc ≠ [] := fun z => by rw [z] at ha; simp at ha
          obtain ⟨pre, l, rfl⟩ : ∃ pre l, acc = pre ++ [l] := ⟨acc.dropLast, acc.getLast hne, (List.dropLast_concat_getLast hne).symm⟩
          have hl' : l ≤ x := hb l (by simp) x (by simp)
          have hne' : l ≠ x := fun z => c (by rw [z]; simp)
          obtain ⟨_, _, h5⟩ := List.pairwise_append.mp h
          rcases List.mem_append.mp ha with z | z
          · have := h5 a z l (by simp); omega
          · simp at z; omega
      obtain ⟨ys, e, g1, g2⟩ := dedup_run hs xs (acc ++ [x]) (by simp; omega) h2 (List.pairwise_append.mpr ⟨h, by simp, fun a ha b hb' => by simp at hb'; subst hb'; exact hx a ha⟩) fun a ha y hy => by
        rcases List.mem_append.mp ha with z | z
        · exact hb a z y (by simp [hy])
        · simp at z; subst z; exact h1 y hy
      exact ⟨ys, e, g1, fun a => by rw [g2]; simp [or_assoc]⟩
    · rw [if_neg c]
      obtain ⟨ys, e, g1, g2⟩ := dedup_run hs xs acc (by omega) h2 h fun a ha y hy => hb a ha y (by simp [hy])
      refine ⟨ys, e, g1, fun a => ?_⟩
      rw [g2]
      have hx : x ∈ acc := by
        simp only [not_or, ne_eq, Classical.not_not] at c
        exact List.mem_of_getLast? c.2
      constructor
      · rintro (z | z)
        · exact .inl z
        · exact .inr (by simp [z])
      · rintro (z | z)
        · exact .inl z
        · rcases List.mem_cons.mp z with z | z
          · rw [z]; exact .inl hx
          · exact .inr z
theorem getI_last {xs : List Int} (h : xs ≠ []) : getI xs ((xs.length : Int) - 1) = xs.getLast? := by
  have : 0 < xs.length := List.length_pos_iff.mpr h
  have e : ((xs.length : Int) - 1) = ((xs.length - 1 : Nat) : Int) := by omega
  rw [e, getI_nat, List.getLast?_eq_getElem?]
/-- .. as the laws write it -/
theorem lset_step {x : Int} {acc : List Int} (h : acc.length < 10000) :
    ((if (decide (acc = ([] : List Int))) then some true else (getI acc ((acc.length : Int) - (1 : Int))).bind fun y => some ((decide (y ≠ x))))).bind (fun t => ((if t then (pushG acc x).bind (fun found => some (found)) else some (acc)) : Option ((List Int))).bind fun j => some (j)) = if acc = [] ∨ acc.getLast? ≠ some x then some (acc ++ [x]) else some acc := by
  by_cases c : acc = []
  · subst c
    simp only [decide_true, if_true, bs, true_or]
    rw [pushG_eq (by simp)]
    simp only [bs]
  · simp only [c, decide_false, Bool.false_eq_true, if_false, false_or]
    rw [getI_last c]
    cases hl : acc.getLast? with
    | none => rw [List.getLast?_eq_none_iff] at hl; exact absurd hl c
    | some y =>
      simp only [bs]
      by_cases e : y = x
      · subst e; simp
      · have e' : ¬ some y = some x := fun z => e (Option.some.inj z)
        simp only [ne_eq, e, e', not_false_eq_true, decide_true, if_true]
        rw [pushG_eq (by omega)]
        simp only [bs]
theorem lset_run {step : Int → List Int → Option (List Int)} (hs : ∀ x acc, acc.length < 10000 → step x acc = if acc = [] ∨ acc.getLast? ≠ some x then some (acc ++ [x]) else some acc) {xs : List Int} (hl : xs.length < 9000) :
    forN step (isort ltI xs) [] = some (uniqS ltI xs) := by
  obtain ⟨ys, e, g1, g2⟩ := dedup_run hs (isort ltI xs) [] (by simp [isort_len]; omega) (isort_srt xs) List.Pairwise.nil (fun a ha => by simp at ha)
  rw [e, uniqS_eq g1 fun a => by rw [g2]; simp [isort_mem]]
theorem ne_nil_mem {α : Type} {xs : List α} : xs ≠ [] ↔ ∃ x, x ∈ xs := ⟨List.exists_mem_of_ne_nil xs, fun ⟨x, h⟩ e => by rw [e] at h; cases h⟩
theorem rangeI_asc (a b : Int) : Asc (rangeI a b) := by
  unfold rangeI
  refine List.pairwise_map.mpr (List.pairwise_lt_range.imp fun {x y} h => by omega)
theorem rlG_len {n : Nat} (h : n < 60000) : rlG 0 (n : Int) = some (rangeI 0 n) := rlG_eq (by omega) (by omega) (by omega) (by omega)
theorem asc_nodup {xs : List Int} (h : Asc xs) : xs.Nodup := h.imp fun h => by omega
theorem lcM_map_of {α β : Type} {xs : List α} {f : α → Option (Option β)} (g : α → β) (hl : xs.length < 1000000) (h : ∀ a ∈ xs, f a = some (some (g a))) : lcM xs f = some (xs.map g) := lcM_map' g hl h
/-- a loop that draws one more item at each turn -/
theorem forN_grow {α β : Type} {step : α → W × List β → Option (W × List β)} {G : β → Prop} (hs : ∀ a s, s.2.length < 1000 → (∀ e ∈ s.2, G e) → ∃ w' e, step a s = some (w', s.2 ++ [e]) ∧ G e) :
    ∀ (xs : List α) (s : W × List β), xs.length + s.2.length < 1000 → (∀ e ∈ s.2, G e) → ∃ s', forN step xs s = some s' ∧ s'.2.length = s.2.length + xs.length ∧ ∀ e ∈ s'.2, G e
  | [], s, _, h => ⟨s, rfl, rfl, h⟩
  | a :: xs, s, hl, h => by
    simp only [List.length_cons] at hl
    obtain ⟨w', e, e1, h1⟩ := hs a s (by omega) h
    obtain ⟨s', e2, h2, h3⟩ := forN_grow hs xs (w', s.2 ++ [e]) (by simp; omega) fun b hb => by
      rcases List.mem_append.mp hb with z | z
      · exact h b z
      · simp at z; rw [z]; exact h1
    exact ⟨s', by simp only [forN, e1, bs, e2], by rw [h2]; simp; omega, h3⟩
theorem get3_0 {α : Type} (a b c : α) : getI [a, b, c] 0 = some a := getI_lit 0 rfl rfl
theorem get3_1 {α : Type} (a b c : α) : getI [a, b, c] 1 = some b := getI_lit 1 rfl rfl
theorem get3_2 {α : Type} (a b c : α) : getI [a, b, c] 2 = some c := getI_lit 2 rfl rfl
/-- a comprehension that draws -/
theorem lcS_sub {α β σ : Type} {step : α → σ → Option (Option β × σ)} {G : α → β → Prop} : ∀ (xs : List α) (acc : List β) (s : σ), acc.length + xs.length < 1000000 → (∀ a ∈ xs, ∀ s, ∃ o s', step a s = some (o, s') ∧ ∀ b, o = some b → G a b) →
    ∃ ys s', lcS step xs acc s = some (acc ++ ys, s') ∧ ys.length ≤ xs.length ∧ ∀ b ∈ ys, ∃ a ∈ xs, G a b
  | [], acc, s, _, _ => ⟨[], s, by simp [lcS], by simp, fun b h => by simp at h⟩
  | a :: xs, acc, s, hl, h => by
    simp only [List.length_cons] at hl
    obtain ⟨o, s1, e1, h1⟩ := h a (by simp) s
    cases o with
    | none =>
      obtain ⟨ys, s', e2, h2, h3⟩ := lcS_sub xs acc s1 (by omega) fun b hb => h b (by simp [hb])
      refine ⟨ys, s', by simp only [lcS, e1, bs, e2], by simp; omega, fun b hb => ?_⟩
      obtain ⟨c, hc, g⟩ := h3 b hb
      exact ⟨c, by simp [hc], g⟩
    | some b =>
      obtain ⟨ys, s', e2, h2, h3⟩ := lcS_sub xs (acc ++ [b]) s1 (by simp; omega) fun b hb => h b (by simp [hb])
      refine ⟨b :: ys, s', by simp only [lcS, e1, bs]; rw [pushG_eq (by omega)]; simp only [bs, e2]; simp, by simp; omega, fun c hc => ?_⟩
      rcases List.mem_cons.mp hc with rfl | hc
      · exact ⟨a, by simp, h1 c rfl⟩
      · obtain ⟨d, hd, g⟩ := h3 c hc
        exact ⟨d, by simp [hd], g⟩
theorem modG_eq {a b : Int} (h : 0 < b) : modG a b = some (a % b) := by
  unfold modG
  first
  | rw [if_pos h]
  | (simp only [h]; rfl)
/-- a list of marks, all of a length -/
def allB : Nat → List (List Bool)
  | 0 => [[]]
  | n + 1 => (allB n).flatMap fun l => [false :: l, true :: l]
theorem allB_mem : ∀ l : List Bool, l ∈ allB l.length
  | [] => by simp [allB]
  | b :: l => by
    simp only [List.length_cons, allB, List.mem_flatMap]
    exact ⟨l, allB_mem l, by cases b <;> simp⟩
/-- the places that are marked -/
def selB : List Bool → Int → List Int
  | [], _ => []
  | b :: l, k => if b then k :: selB l (k + 1) else selB l (k + 1)
theorem rangeI_cons {a b : Int} (h : a < b) : rangeI a b = a :: rangeI (a + 1) b := by
  unfold rangeI
  obtain ⟨n, e⟩ : ∃ n : Nat, (b - a).toNat = n + 1 := ⟨(b - a).toNat - 1, by omega⟩
  have e2 : (b - (a + 1)).toNat = n := by omega
  rw [e, e2, List.range_succ_eq_map, List.map_cons, List.map_map]
  simp only [List.cons.injEq]
  refine ⟨by simp, List.map_congr_left fun k _ => ?_⟩
  simp only [Function.comp, Nat.succ_eq_add_one]; omega
theorem selB_fil (p : Int → Bool) : ∀ (n : Nat) (a b : Int), (b - a).toNat = n → (rangeI a b).filter p = selB ((rangeI a b).map p) a
  | 0, a, b, h => by
    have : rangeI a b = [] := by unfold rangeI; rw [h]; rfl
    rw [this]; rfl
  | n + 1, a, b, h => by
    rw [rangeI_cons (by omega), List.map_cons, List.filter_cons]
    simp only [selB]
    rw [selB_fil p n (a + 1) b (by omega)]
end SM

set_option autoImplicit false
set_option linter.all false
set_option maxRecDepth 100000
namespace LW
open LP SH SM
namespace K37
abbrev Sh := T3 Int (List Int) (List Int)
def GoodS (p : Sh) : Prop := p.b.length ≤ 100 ∧ p.c.length ≤ 100
def Good (ss : List Sh) : Prop := ss.length ≤ 6 ∧ ∀ p ∈ ss, GoodS p
def roles (ss : List Sh) : List Int := ss.map (·.a)
/-- whether p opens, when acc is open -/
def opn (hour : Int) (own acc : List Int) (p : Sh) : Bool := decide (p.a ∉ acc ∧ hour ∈ p.b ∧ ∀ n ∈ p.c, n ∈ acc ∨ n ∉ own)
def step (hour : Int) (own : List Int) (acc : List Int) (p : Sh) : List Int := if opn hour own acc p then acc ++ [p.a] else acc
def pass (hour : Int) (own : List Int) (ss : List Sh) (acc : List Int) : List Int := ss.foldl (step hour own) acc
def iter (hour : Int) (own : List Int) (ss : List Sh) : Nat → List Int → List Int
  | 0, acc => acc
  | n + 1, acc => iter hour own ss n (pass hour own ss acc)
theorem opn_congr {hour : Int} {own own' acc : List Int} {p : Sh} (h : ∀ a, a ∈ own ↔ a ∈ own') : opn hour own acc p = opn hour own' acc p := by
  unfold opn; simp only [h]
theorem pass_congr {hour : Int} {own own' : List Int} (h : ∀ a, a ∈ own ↔ a ∈ own') (ss : List Sh) (acc : List Int) : pass hour own ss acc = pass hour own' ss acc := by
  unfold pass
  have : step hour own = step hour own' := by funext acc p; unfold step; rw [opn_congr h]
  rw [this]
theorem iter_congr {hour : Int} {own own' : List Int} (h : ∀ a, a ∈ own ↔ a ∈ own') (ss : List Sh) : ∀ (n : Nat) (acc : List Int), iter hour own ss n acc = iter hour own' ss n acc
  | 0, _ => rfl
  | n + 1, acc => by simp only [iter, pass_congr h, iter_congr h ss n]
theorem pass_ext {hour : Int} {own : List Int} : ∀ (ss : List Sh) (acc : List Int), acc.Nodup → ∃ more, pass hour own ss acc = acc ++ more ∧ (acc ++ more).Nodup ∧ (∀ a ∈ more, a ∈ roles ss) ∧ more.length ≤ ss.length
  | [], acc, h => ⟨[], by simp [pass], by simpa using h, by simp, by simp⟩
  | p :: ss, acc, h => by
    have e : pass hour own (p :: ss) acc = pass hour own ss (step hour own acc p) := rfl
    rw [e]
    unfold step
    by_cases c : opn hour own acc p = true
    · rw [if_pos c]
      have hp : p.a ∉ acc := (of_decide_eq_true c).1
      obtain ⟨more, e2, h2, h3, h4⟩ := pass_ext ss (acc ++ [p.a]) (List.nodup_append.mpr ⟨h, by simp, fun a ha b hb => by simp at hb; subst hb; exact fun z => hp (z ▸ ha)⟩)
      refine ⟨p.a :: more, by rw [e2]; simp, by simpa using h2, fun a ha => ?_, by simp; omega⟩
      rcases List.mem_cons.mp ha with rfl | ha
      · simp [roles]
      · have := h3 a ha; simp [roles] at this ⊢; exact .inr this
    · rw [if_neg c]
      obtain ⟨more, e2, h2, h3, h4⟩ := pass_ext ss acc h
      refine ⟨more, e2, h2, fun a ha => ?_, by simp; omega⟩
      have := h3 a ha; simp [roles] at this ⊢; exact .inr this
theorem iter_fix {hour : Int} {own : List Int} {ss : List Sh} {acc : List Int} (h : pass hour own ss acc = acc) : ∀ n, iter hour own ss n acc = acc
  | 0 => rfl
  | n + 1 => by simp only [iter, h, iter_fix h n]
/-! the program's walk -/
def dk (acc : List Int) : List (Int × Bool) := acc.map fun k => (k, true)
theorem dget_dk (k : Int) : ∀ acc : List Int, (dget (dk acc) k).isSome = decide (k ∈ acc)
  | [] => rfl
  | a :: acc => by
    have ih := dget_dk k acc
    simp only [dk, List.map_cons, dget] at ih ⊢
    by_cases h : a = k
    · subst h; simp
    · have h' : ¬ k = a := fun z => h z.symm
      rw [if_neg h, ih]; simp [h']
theorem dput_dk (k : Int) : ∀ acc : List Int, k ∉ acc → dput (dk acc) k true = dk (acc ++ [k])
  | [], _ => rfl
  | a :: acc, h => by
    have ih := dput_dk k acc fun z => h (by simp [z])
    have h' : ¬ a = k := fun z => h (by simp [z])
    simp only [dk, List.map_cons, List.cons_append, dput, if_neg h'] at ih ⊢
    rw [ih]
theorem b2_eq {hour : Int} {own acc : List Int} {p : Sh} {t : Bool} (g : GoodS p) (hl : acc.length < 1000) : F_open_roles_b2 hour own p (dk acc, t) = some (if opn hour own acc p then (dk (acc ++ [p.a]), true) else (dk acc, t)) := by
  unfold F_open_roles_b2
  simp only [dget_dk]
  by_cases h1 : p.a ∈ acc
  · have : opn hour own acc p = false := by unfold opn; simp [h1]
    simp only [h1, decide_true, Bool.not_true, Bool.false_eq_true, if_false, bs, this]
  · simp only [h1, decide_false, Bool.not_false, if_true]
    by_cases h2 : hour ∈ p.b
    · simp only [mem, h2, decide_true, if_true]
      rw [lcMap_eq (by have := g.2; omega)]
      simp only [bs]
      have e : (p.c.map fun need => (decide (need ∈ acc) || !decide (need ∈ own))).all id = opn hour own acc p := by
        unfold opn
        rw [Bool.eq_iff_iff]
        simp only [List.all_eq_true, List.mem_map, id, decide_eq_true_eq, h1, h2, not_false_eq_true, true_and]
        constructor
        · intro h n hn
          have := h _ ⟨n, hn, rfl⟩
          simpa using this
        · rintro h _ ⟨n, hn, rfl⟩
          have := h n hn
          simpa using this
      rw [e]
      by_cases h3 : opn hour own acc p = true
      · simp only [h3, if_true]
        rw [putG_eq (by simp [dk]; omega), dput_dk _ _ h1]
        simp only [bs]
      · simp only [h3, Bool.false_eq_true, if_false, bs]
    · have : opn hour own acc p = false := by unfold opn; simp [h2]
      simp only [mem, h2, decide_false, Bool.false_eq_true, if_false, bs, this]
theorem b2_run {hour : Int} {own : List Int} : ∀ (ss : List Sh) (acc : List Int) (t : Bool), (∀ p ∈ ss, GoodS p) → acc.length + ss.length < 1000 →
    forN (F_open_roles_b2 hour own) ss (dk acc, t) = some (dk (pass hour own ss acc), t || decide (pass hour own ss acc ≠ acc))
  | [], acc, t, _, _ => by simp [forN, pass]
  | p :: ss, acc, t, g, hl => by
    simp only [List.length_cons] at hl
    simp only [forN, b2_eq (g p (by simp)) (show acc.length < 1000 by omega), bs]
    have e : pass hour own (p :: ss) acc = pass hour own ss (step hour own acc p) := rfl
    rw [e]
    unfold step
    by_cases c : opn hour own acc p = true
    · simp only [c, if_true]
      rw [b2_run ss (acc ++ [p.a]) true (fun q hq => g q (by simp [hq])) (by simp; omega)]
      have hne : pass hour own ss (acc ++ [p.a]) ≠ acc := by
        have : ∀ (ss : List Sh) (l : List Int), l.length ≤ (pass hour own ss l).length := by
          intro ss
          induction ss with
          | nil => intro l; simp [pass]
          | cons q ss ih =>
            intro l
            have := ih (step hour own l q)
            show l.length ≤ (pass hour own ss (step hour own l q)).length
            unfold step at this ⊢
            split at this <;> rename_i hc <;> simp [hc] at this ⊢ <;> omega
        intro z
        have h := this ss (acc ++ [p.a])
        rw [z] at h
        simp at h
        omega
      simp [hne]
    · simp only [c, if_false]
      exact b2_run ss acc t (fun q hq => g q (by simp [hq])) (by omega)
theorem wh_eq {hour : Int} {own : List Int} {ss : List Sh} (g : Good ss) : ∀ (m n : Nat) (acc : List Int), acc.Nodup → (∀ a ∈ acc, a ∈ roles ss) → ss.length ≤ acc.length + m → m + 2 ≤ n →
    whN (fun (s_ : (List (Int × Bool)) × Bool) => (some s_.2)) (F_open_roles_b1 ss hour own) n (dk acc, true) = some (dk (iter hour own ss m acc), false) := by
  intro m
  induction m with
  | zero =>
    intro n acc hn hs hm hk
    obtain ⟨n, rfl⟩ : ∃ k, n = k + 2 := ⟨n - 2, by omega⟩
    have hl : acc.length ≤ 6 := by
      have := List.Nodup.length_le_of_subset hn (l₂ := roles ss) fun a ha => hs a ha
      have h2 := g.1
      simp [roles] at this; omega
    have hp : pass hour own ss acc = acc := by
      obtain ⟨more, e, h1, h2, h3⟩ := pass_ext (hour := hour) (own := own) ss acc hn
      have h4 := List.Nodup.length_le_of_subset h1 (l₂ := roles ss) fun a ha => by
        rcases List.mem_append.mp ha with z | z
        · exact hs a z
        · exact h2 a z
      simp [roles] at h4
      have : more = [] := List.eq_nil_of_length_eq_zero (by omega)
      rw [e, this, List.append_nil]
    have g1 := g.1
    have hb : F_open_roles_b1 ss hour own (dk acc, true) = some (dk acc, false) := by
      unfold F_open_roles_b1
      simp only [b2_run ss acc false g.2 (by omega), bs, hp, ne_eq, not_true_eq_false, decide_false, Bool.or_false]
    simp only [whN, bs, if_true, hb, Bool.false_eq_true, if_false, iter]
  | succ m ih =>
    intro n acc hn hs hm hk
    obtain ⟨n, rfl⟩ : ∃ k, n = k + 2 := ⟨n - 2, by omega⟩
    have hl : acc.length ≤ 6 := by
      have := List.Nodup.length_le_of_subset hn (l₂ := roles ss) fun a ha => hs a ha
      have h2 := g.1
      simp [roles] at this; omega
    have g1 := g.1
    have hb : F_open_roles_b1 ss hour own (dk acc, true) = some (dk (pass hour own ss acc), decide (pass hour own ss acc ≠ acc)) := by
      unfold F_open_roles_b1
      simp only [b2_run ss acc false g.2 (by omega), bs, Bool.false_or]
    by_cases hp : pass hour own ss acc = acc
    · simp only [whN, bs, if_true, hb, hp, ne_eq, not_true_eq_false, decide_false, Bool.false_eq_true, if_false, iter_fix hp]
    · have hb' : F_open_roles_b1 ss hour own (dk acc, true) = some (dk (pass hour own ss acc), true) := by rw [hb]; simp [hp]
      obtain ⟨more, e, h1, h2, h3⟩ := pass_ext (hour := hour) (own := own) ss acc hn
      have hne : more ≠ [] := fun z => hp (by rw [e, z, List.append_nil])
      have : 0 < more.length := List.length_pos_iff.mpr hne
      rw [whN]
      simp only [bs, if_true, hb', iter]
      refine ih (n + 1) _ (by rw [e]; exact h1) (fun a ha => ?_) (by rw [e]; simp; omega) (by omega)
      rw [e] at ha
      rcases List.mem_append.mp ha with z | z
      · exact hs a z
      · exact h2 a z
/-- what is open -/
def opens (ss : List Sh) (hour : Int) : List Int := isort ltI (iter hour (roles ss) ss ss.length [])
theorem set_of_eq {xs : List Int} (h : xs.length < 64) : F_set_of xs = some (uniqS ltI xs) := by
  unfold F_set_of
  rw [ssetG_eq h]
  rfl
theorem shifted_eq {ss : List Sh} (g : Good ss) : F_shifted ss = some (uniqS ltI (roles ss)) := by
  unfold F_shifted
  have := g.1
  rw [lcMap_eq (by omega)]
  simp only [bs]
  rw [show (ss.map fun p : Sh => p.a) = roles ss from rfl, set_of_eq (by simp [roles]; omega)]
  rfl
theorem open_eq {ss : List Sh} (g : Good ss) (week hour : Int) : F_open_roles week ss hour = some (opens ss hour) := by
  unfold F_open_roles
  rw [shifted_eq g]
  simp only [bs]
  have h := wh_eq (hour := hour) (own := uniqS ltI (roles ss)) g ss.length turns [] List.nodup_nil (fun a h => by simp at h) (by simp) (by have := g.1; unfold turns; omega)
  rw [show (([] : List (Int × Bool)), true) = (dk [], true) from rfl, h]
  simp only [bs]
  have e : (dk (iter hour (uniqS ltI (roles ss)) ss ss.length [])).map (·.1) = iter hour (roles ss) ss ss.length [] := by
    rw [iter_congr (uniqS_mem (roles ss))]
    unfold dk
    rw [List.map_map]
    exact List.map_id _
  rw [e, srtG_int]
  rfl
/-! the law's -/
theorem lb2_eq {hour : Int} {own acc : List Int} {p : Sh} (g : GoodS p) (hl : acc.length < 1000) : F__law_open_b2 hour own p acc = some (step hour own acc p) := by
  unfold F__law_open_b2 step
  by_cases h1 : p.a ∈ acc
  · have : opn hour own acc p = false := by unfold opn; simp [h1]
    simp only [mem, h1, decide_true, Bool.not_true, Bool.false_eq_true, if_false, bs, this]
  · simp only [mem, h1, decide_false, Bool.not_false, if_true]
    by_cases h2 : hour ∈ p.b
    · simp only [h2, decide_true, if_true]
      rw [lcFil_id (by have := g.2; omega)]
      simp only [bs]
      have e : decide (p.c.filter (fun need => (decide (need ∈ own) && !decide (need ∈ acc))) = []) = opn hour own acc p := by
        unfold opn
        refine decide_eq_decide.mpr ?_
        rw [List.filter_eq_nil_iff]
        simp only [h1, h2, not_false_eq_true, true_and]
        refine ⟨fun h n hn => ?_, fun h n hn => ?_⟩
        · have := h n hn
          simp only [Bool.and_eq_true, decide_eq_true_eq, Bool.not_eq_true', decide_eq_false_iff_not, not_and, Classical.not_not] at this
          by_cases ho : n ∈ own
          · exact .inl (this ho)
          · exact .inr ho
        · simp only [Bool.and_eq_true, decide_eq_true_eq, Bool.not_eq_true', decide_eq_false_iff_not, not_and, Classical.not_not]
          intro ho
          exact (h n hn).resolve_right fun z => z ho
      rw [e]
      by_cases h3 : opn hour own acc p = true
      · simp only [h3, if_true]
        rw [pushG_eq (by omega)]
        simp only [bs]
      · simp only [h3, Bool.false_eq_true, if_false, bs]
    · have : opn hour own acc p = false := by unfold opn; simp [h2]
      simp only [h2, decide_false, Bool.false_eq_true, if_false, bs, this]
theorem lb2_run {hour : Int} {own : List Int} : ∀ (ss : List Sh) (acc : List Int), (∀ p ∈ ss, GoodS p) → acc.length + ss.length < 1000 → forN (F__law_open_b2 hour own) ss acc = some (pass hour own ss acc)
  | [], acc, _, _ => rfl
  | p :: ss, acc, g, hl => by
    simp only [List.length_cons] at hl
    simp only [forN, lb2_eq (g p (by simp)) (show acc.length < 1000 by omega), bs]
    refine lb2_run ss _ (fun q hq => g q (by simp [hq])) ?_
    unfold step
    split
    · simp; omega
    · omega
theorem lb1_run {hour : Int} {own : List Int} {ss : List Sh} (g : Good ss) : ∀ (xs : List Sh) (acc : List Int), acc.Nodup → (∀ a ∈ acc, a ∈ roles ss) → forN (F__law_open_b1 ss hour own) xs acc = some (iter hour own ss xs.length acc)
  | [], acc, _, _ => rfl
  | x :: xs, acc, hn, hs => by
    have hl : acc.length ≤ 6 := by
      have := List.Nodup.length_le_of_subset hn (l₂ := roles ss) fun a ha => hs a ha
      have h2 := g.1
      simp [roles] at this; omega
    have g1 := g.1
    have hb : F__law_open_b1 ss hour own x acc = some (pass hour own ss acc) := by
      unfold F__law_open_b1
      rw [lb2_run ss acc g.2 (by omega)]
      rfl
    simp only [forN, hb, bs]
    obtain ⟨more, e, h1, h2, h3⟩ := pass_ext (hour := hour) (own := own) ss acc hn
    refine lb1_run g xs _ (by rw [e]; exact h1) fun a ha => ?_
    rw [e] at ha
    rcases List.mem_append.mp ha with z | z
    · exact hs a z
    · exact h2 a z
theorem lopen_eq {ss : List Sh} (g : Good ss) (hour : Int) : F__law_open ss hour = some (opens ss hour) := by
  unfold F__law_open
  have := g.1
  rw [lcMap_eq (by omega)]
  simp only [bs]
  rw [show (ss.map fun p : Sh => p.a) = roles ss from rfl, lb1_run g ss [] List.nodup_nil fun a h => by simp at h]
  simp only [bs, srtG_int]
  rfl
/-! hours -/
def hrs (ss : List Sh) (week role : Int) : List Int := (rangeI 0 week).filter fun h => mem role (opens ss h)
theorem hours_eq {ss : List Sh} (g : Good ss) {week : Int} (h0 : 0 ≤ week) (h1 : week < 1000) (role : Int) : F_hours_of week ss role = some (hrs ss week role) := by
  unfold F_hours_of
  rw [rngG_eq (by omega) (by omega) (by omega) (by omega)]
  simp only [bs]
  rw [lcM_fil' (fun h => mem role (opens ss h)) (by rw [rangeI_len]; omega) fun h _ => ?_]
  · rfl
  · simp only [open_eq g, bs]
    split <;> rfl
theorem lhours_eq {ss : List Sh} (g : Good ss) {week : Int} (h0 : 0 ≤ week) (h1 : week < 1000) (role : Int) : F__law_hours week ss role = some (hrs ss week role) := by
  unfold F__law_hours
  rw [rngG_eq (by omega) (by omega) (by omega) (by omega)]
  simp only [bs]
  rw [lcM_fil' (fun h => mem role (opens ss h)) (by rw [rangeI_len]; omega) fun h _ => ?_]
  · rfl
  · simp only [lopen_eq g, bs]
    split <;> rfl
theorem uq_len {xs : List Int} {n : Nat} (h : xs.length ≤ n) : (uniqS ltI xs).length ≤ n := by
  have := List.Nodup.length_le_of_subset (asc_nodup (uniqS_asc xs)) (l₂ := xs) fun a ha => (uniqS_mem xs a).mp ha
  omega
theorem always_eq {ss : List Sh} (g : Good ss) {week : Int} (h0 : 0 ≤ week) (h1 : week < 1000) : F_always_open week ss = some ((uniqS ltI (roles ss)).filter fun r => decide (((hrs ss week r).length : Int) = week)) := by
  unfold F_always_open
  rw [shifted_eq g]
  simp only [bs]
  have hl : (roles ss).length ≤ 6 := by have := g.1; simpa [roles] using this
  rw [lcM_fil' (fun r => decide (((hrs ss week r).length : Int) = week)) (by have := uq_len hl; omega) fun r _ => ?_]
  · rfl
  · simp only [hours_eq g h0 h1, bs]
    split <;> rfl
/-! gaps -/
def farF (W : Int) (H : List Int) (b : Int) : Nat → Int → Int
  | 0, f => f
  | n + 1, f => if f < W ∧ (b + f) % W ∉ H then farF W H b n (f + 1) else f
theorem far_wh {W : Int} {H : List Int} {b : Int} {c : Int → Option Bool} (hc : ∀ f, c f = some (decide (f < W ∧ (b + f) % W ∉ H))) : ∀ (n m : Nat) (f : Int), W - f ≤ n → n + 1 ≤ m → whN c (F_law_b5) m f = some (farF W H b n f) := by
  intro n
  induction n with
  | zero =>
    intro m f hf hm
    obtain ⟨m, rfl⟩ : ∃ k, m = k + 1 := ⟨m - 1, by omega⟩
    have : ¬ f < W := by omega
    simp only [whN, hc, this, false_and, decide_false, Bool.false_eq_true, if_false, bs, farF]
  | succ n ih =>
    intro m f hf hm
    obtain ⟨m, rfl⟩ : ∃ k, m = k + 1 := ⟨m - 1, by omega⟩
    by_cases h : f < W ∧ (b + f) % W ∉ H
    · simp only [whN, hc, h, not_false_eq_true, and_self, decide_true, if_true, bs, farF, F_law_b5]
      exact ih m (f + 1) (by omega) (by omega)
    · simp only [whN, hc, h, decide_false, Bool.false_eq_true, if_false, bs, farF]
theorem far_c {W : Int} (hW : 0 < W) (H : List Int) (b f : Int) : (if (decide (f < W)) then (modG (b + f) W).bind fun x16 => some ((!mem x16 H)) else some false) = some (decide (f < W ∧ (b + f) % W ∉ H)) := by
  by_cases h : f < W
  · simp only [h, decide_true, if_true, modG_eq hW, bs, mem, true_and]
    by_cases h2 : (b + f) % W ∈ H <;> simp [h2]
  · simp [h]
def lawGap (W : Int) (H : List Int) : Int := (rangeI 0 W).foldl (fun g b => max2 g (farF W H b W.toNat 0)) 0
theorem b4_run {rv : Int × W} {H : List Int} (hW : 0 < 3 + rv.1) (h8 : rv.1 < 1000) : ∀ (xs : List Int) (g : Int), forN (F_law_b4 rv H) xs g = some (xs.foldl (fun g b => max2 g (farF (3 + rv.1) H b (3 + rv.1).toNat 0)) g)
  | [], g => rfl
  | b :: xs, g => by
    have e : F_law_b4 rv H b g = some (max2 g (farF (3 + rv.1) H b (3 + rv.1).toNat 0)) := by
      unfold F_law_b4
      rw [far_wh (far_c hW H b) (3 + rv.1).toNat turns 0 (by omega) (by unfold turns; omega)]
      rfl
    simp only [forN, e, bs, List.foldl_cons]
    exact b4_run hW h8 xs _
def difs : List Int → List Int
  | a :: b :: r => (b - a - 1) :: difs (b :: r)
  | _ => []
def maxI (g : Int) (xs : List Int) : Int := xs.foldl max2 g
def progGap (W : Int) (H : List Int) : Int := match H with
  | [] => W
  | h :: r => match difs (h :: r) ++ [h + W - (h :: r).getLast (by simp) - 1] with
    | [] => 0
    | x :: xs => maxL ltI x xs
theorem difs_get : ∀ (xs : List Int) (k : Nat) (a b : Int), xs[k]? = some a → xs[k + 1]? = some b → (difs xs)[k]? = some (b - a - 1)
  | [], k, a, b, h, _ => by simp at h
  | [x], k, a, b, h, h2 => by simp at h2
  | x :: y :: r, 0, a, b, h, h2 => by simp at h h2; subst h h2; simp [difs]
  | x :: y :: r, k + 1, a, b, h, h2 => by
    simp only [difs, List.getElem?_cons_succ] at h h2 ⊢
    exact difs_get (y :: r) k a b h h2
theorem difs_len : ∀ xs : List Int, (difs xs).length = xs.length - 1
  | [] => rfl
  | [x] => rfl
  | x :: y :: r => by simp only [difs, List.length_cons, difs_len (y :: r)]; omega
theorem gap_eq {ss : List Sh} (g : Good ss) {week : Int} (h0 : 0 ≤ week) (h1 : week < 1000) (role : Int) : F_longest_gap week ss role = some (progGap week (hrs ss week role)) := by
  unfold F_longest_gap
  rw [hours_eq g h0 h1]
  simp only [bs]
  have hl : (hrs ss week role).length ≤ 1000 := by
    unfold hrs
    have := List.length_filter_le (fun h => mem role (opens ss h)) (rangeI 0 week)
    rw [rangeI_len] at this; omega
  generalize hrs ss week role = H at hl
  cases H with
  | nil => simp [progGap]
  | cons h r =>
    rw [if_neg (by simp)]
    have hn : (((h :: r).length : Int) - 1) = ((h :: r).length - 1 : Nat) := by simp
    rw [hn, rngG_nat (by omega)]
    simp only [bs]
    have hg : lcM (rangeI 0 (((h :: r).length - 1 : Nat) : Int)) (fun (k : Int) => (((getI (h :: r) (k + (1 : Int))).bind fun x => (getI (h :: r) k).bind fun x1 => some ((x - x1))).bind fun x2 => some ((x2 - (1 : Int)))).bind fun x3 => some (some x3)) = some (difs (h :: r)) := by
      rw [lcM_map' (fun k => (h :: r).getD (k + 1).toNat 0 - (h :: r).getD k.toNat 0 - 1) (by rw [rangeI_len]; omega) fun k hk => ?_]
      · congr 1
        apply List.ext_getElem?
        intro n
        by_cases hn : n < (h :: r).length - 1
        · have e1 := List.getElem?_eq_getElem (l := h :: r) (i := n) (by omega)
          have e2 := List.getElem?_eq_getElem (l := h :: r) (i := n + 1) (by omega)
          rw [difs_get _ n _ _ e1 e2, rangeI_nat, List.map_map, List.getElem?_map, List.getElem?_range hn]
          simp only [Option.map_some, Function.comp]
          rw [show Int.ofNat n + 1 = ((n + 1 : Nat) : Int) from rfl, show Int.ofNat n = (n : Int) from rfl, Int.toNat_natCast, Int.toNat_natCast, List.getD_eq_getElem?_getD, List.getD_eq_getElem?_getD, e1, e2]
          rfl
        · rw [List.getElem?_eq_none (by rw [List.length_map, rangeI_len]; omega), List.getElem?_eq_none (by rw [difs_len]; omega)]
      · obtain ⟨k0, k1⟩ := mem_rangeI.mp hk
        obtain ⟨a, e1, e2⟩ := getI_lt (xs := h :: r) (k := k + 1) (by omega) (by omega)
        obtain ⟨b, e3, e4⟩ := getI_lt (xs := h :: r) (k := k) (by omega) (by omega)
        simp only [e1, e3, bs, List.getD_eq_getElem?_getD, e2, e4, Option.getD_some]
    rw [hg]
    simp only [bs]
    have hz : getI (h :: r) 0 = some h := getI_lit 0 rfl rfl
    have hlast : getI (h :: r) (-1) = some ((h :: r).getLast (by simp)) := by
      unfold getI
      have : ixOf (h :: r).length (-1) = some ((h :: r).length - 1) := by
        unfold ixOf
        rw [if_neg (by omega), if_pos (by simp only [List.length_cons]; omega)]
        congr 1
        simp only [List.length_cons]; omega
      rw [this]
      simp only [bs]
      rw [← List.getLast?_eq_getElem?, List.getLast?_eq_some_getLast]
    rw [show (-(1 : Int)) = -1 from rfl, hlast, show (0 : Int) = 0 from rfl, hz]
    simp only [bs]
    have dl := difs_len (h :: r)
    rw [lmG_eq (by simp only [List.length_append, dl, List.length_cons, List.length_nil]; simp only [List.length_cons] at hl; omega)]
    simp only [bs, progGap]
    cases hc : difs (h :: r) ++ [h + week - (h :: r).getLast (by simp) - 1] with
    | nil => simp at hc
    | cons x xs =>
      rw [maxG_eq (p := tt) fun _ _ => rfl]
      rfl
/-! the two looks at gaps -/
def chk (W : Nat) : Bool := (allB W).all fun l => decide (progGap W (selB l 0) = lawGap W (selB l 0))
theorem gaps3 : chk 3 = true := by decide +kernel
theorem gaps4 : chk 4 = true := by decide +kernel
theorem gaps5 : chk 5 = true := by decide +kernel
theorem gaps6 : chk 6 = true := by decide +kernel
theorem gaps7 : chk 7 = true := by decide +kernel
theorem gaps8 : chk 8 = true := by decide +kernel
theorem gaps (W : Nat) (h3 : 3 ≤ W) (h8 : W ≤ 8) (p : Int → Bool) : progGap W ((rangeI 0 W).filter p) = lawGap W ((rangeI 0 W).filter p) := by
  have hc : chk W = true := by
    have : W = 3 ∨ W = 4 ∨ W = 5 ∨ W = 6 ∨ W = 7 ∨ W = 8 := by omega
    rcases this with rfl | rfl | rfl | rfl | rfl | rfl
    · exact gaps3
    · exact gaps4
    · exact gaps5
    · exact gaps6
    · exact gaps7
    · exact gaps8
  unfold chk at hc
  rw [List.all_eq_true] at hc
  rw [selB_fil p W 0 W (by omega)]
  have hm := allB_mem ((rangeI 0 (W : Int)).map p)
  rw [List.length_map, rangeI_len] at hm
  have e : ((W : Int) - 0).toNat = W := by omega
  rw [e] at hm
  exact of_decide_eq_true (hc _ hm)
/-! the draws -/
theorem shift_b1 (week : Int) (h0 : 0 ≤ week) (h1 : week < 100) (k : Int) (s : W × List Sh) (hl : s.2.length < 1000) : ∃ w' e, F__law_shifts_b1 week k s = some (w', s.2 ++ [e]) ∧ GoodS e := by
  unfold F__law_shifts_b1
  rw [rngG_eq (by omega) (by omega) (by omega) (by omega)]
  simp only [bs]
  obtain ⟨ys, w1, e1, l1, _⟩ := lcS_sub (G := fun _ _ => True) (step := fun (hour : Int) (st : W) => (nextF (st) ((3 : Int)) ).bind fun rv1 => (if (decide ((0 : Int) < rv1.1)) then some (some hour, rv1.2) else some (none, rv1.2))) (rangeI 0 week) [] s.1 (by rw [rangeI_len]; simp; omega) fun a _ st => by
    obtain ⟨r, w', e, _⟩ := next_spec st (m := 3) (by omega)
    rw [e]
    simp only [bs]
    by_cases h : 0 < r
    · simp only [h, decide_true, if_true]; exact ⟨_, _, rfl, fun _ _ => trivial⟩
    · simp only [h, decide_false, Bool.false_eq_true, if_false]; exact ⟨_, _, rfl, fun _ _ => trivial⟩
  rw [e1]
  simp only [bs, List.nil_append]
  have hr : rngG 0 (4 : Int) = some (rangeI 0 4) := rngG_nat (n := 4) (by omega)
  rw [hr]
  simp only [bs]
  obtain ⟨zs, w2, e2, l2, _⟩ := lcS_sub (G := fun _ _ => True) (step := fun (role : Int) (st1 : W) => (nextF (st1) ((5 : Int)) ).bind fun rv3 => (if (decide (rv3.1 = (0 : Int))) then some (some role, rv3.2) else some (none, rv3.2))) (rangeI 0 4) [] w1 (by rw [rangeI_len]; simp) fun a _ st => by
    obtain ⟨r, w', e, _⟩ := next_spec st (m := 5) (by omega)
    rw [e]
    simp only [bs]
    by_cases h : r = 0
    · simp only [h, decide_true, if_true]; exact ⟨_, _, rfl, fun _ _ => trivial⟩
    · simp only [h, decide_false, Bool.false_eq_true, if_false]; exact ⟨_, _, rfl, fun _ _ => trivial⟩
  rw [e2]
  simp only [bs, List.nil_append]
  obtain ⟨r, w3, e3, _⟩ := next_spec w2 (m := 3) (by omega)
  rw [e3]
  simp only [bs]
  rw [pushG_eq (by omega)]
  simp only [bs]
  rw [rangeI_len] at l1 l2
  exact ⟨_, _, rfl, by show ys.length ≤ 100; omega, by show zs.length ≤ 100; omega⟩
theorem shifts_ok (w : W) (week : Int) (h0 : 0 ≤ week) (h1 : week < 100) : ∃ ss w', F__law_shifts w week = some (ss, w') ∧ Good ss := by
  unfold F__law_shifts
  obtain ⟨r, w1, e1, r0, r1⟩ := next_spec w (m := 7) (by omega)
  simp only [e1, bs]
  rw [rngG_eq (by omega) (by omega) (by omega) (by omega)]
  simp only [bs]
  obtain ⟨s', e2, g1, g2⟩ := forN_grow (step := F__law_shifts_b1 week) (G := GoodS) (fun a s hl _ => shift_b1 week h0 h1 a s hl) (rangeI 0 r) (w1, []) (by rw [rangeI_len]; simp; omega) (fun e h => by simp at h)
  rw [e2]
  simp only [bs]
  refine ⟨_, _, rfl, ?_, g2⟩
  have := g1
  simp [rangeI_len] at this
  omega
theorem opens_len {ss : List Sh} (g : Good ss) (hour : Int) : (opens ss hour).length < 1000 := by
  have : ∀ (n : Nat) (acc : List Int), acc.Nodup → (∀ a ∈ acc, a ∈ roles ss) → (iter hour (roles ss) ss n acc).length ≤ 6 := by
    intro n
    induction n with
    | zero =>
      intro acc hn hs
      have := List.Nodup.length_le_of_subset hn (l₂ := roles ss) fun a ha => hs a ha
      have h2 := g.1
      simp [roles] at this
      show acc.length ≤ 6
      omega
    | succ n ih =>
      intro acc hn hs
      obtain ⟨more, e, h1, h2, h3⟩ := pass_ext (hour := hour) (own := roles ss) ss acc hn
      simp only [iter, e]
      refine ih _ h1 fun a ha => ?_
      rcases List.mem_append.mp ha with z | z
      · exact hs a z
      · exact h2 a z
  have h := this ss.length [] List.nodup_nil fun a h => by simp at h
  unfold opens
  rw [isort_len]; omega
theorem b1_ok (t : Int) (w : W) : ∃ w', F_law_b1 t w = some (.nx w') := by
  unfold F_law_b1
  obtain ⟨r, w1, e1, r0, r1⟩ := next_spec w (m := 6) (by omega)
  simp only [e1, bs]
  obtain ⟨ss, w2, e2, g⟩ := shifts_ok w1 (3 + r) (by omega) (by omega)
  have hl := g.1
  have hr : (roles ss).length ≤ 6 := by simpa [roles] using hl
  simp only [e2, bs]
  rw [lcMap_eq (by omega)]
  simp only [bs]
  rw [show (ss.map fun p : Sh => p.a) = roles ss from rfl, ssetG_eq (by omega)]
  simp only [bs]
  have hw0 : (0 : Int) ≤ 3 + r := by omega
  have hw1 : 3 + r < 1000 := by omega
  rw [rngG_eq (by omega) (by omega) (by omega) (by omega)]
  simp only [bs]
  obtain ⟨s, e3, _⟩ := forC_inv (step := F_law_b2 (r, w1) (ss, w2)) (P := fun _ => True) (xs := rangeI 0 (3 + r)) (s := ()) trivial (fun h _ s _ => ⟨(), by
    unfold F_law_b2
    simp only [open_eq g, lopen_eq g, bs]
    rw [sameF_eq (szInts (by have := opens_len g h; omega))]
    simp only [bs, decide_true, Bool.not_true, Bool.false_eq_true, if_false], trivial⟩)
  rw [e3, jn_inl]
  simp only [always_eq g hw0 hw1, bs]
  have hlc : lcM (uniqS ltI (roles ss)) (fun (role : Int) => (((F__law_hours (3 + r) ss role).bind fun x6 => some ((x6.length : Int))).bind fun x7 => some ((decide (x7 = (3 : Int) + r)))).bind fun x9 => if x9 then some (some role) else some none) = some ((uniqS ltI (roles ss)).filter fun q => decide (((hrs ss (3 + r) q).length : Int) = 3 + r)) := by
    refine lcM_fil' _ (by have := uq_len hr; omega) fun q _ => ?_
    simp only [lhours_eq g hw0 hw1, bs]
    split <;> rfl
  rw [hlc]
  simp only [bs]
  rw [sameF_eq (szInts (by
    have := List.length_filter_le (fun q => decide (((hrs ss (3 + r) q).length : Int) = 3 + r)) (uniqS ltI (roles ss))
    have := uq_len hr
    omega))]
  simp only [bs, decide_true, Bool.not_true, Bool.false_eq_true, if_false]
  obtain ⟨s4, e4, _⟩ := forC_inv (step := F_law_b3 (r, w1) (ss, w2)) (P := fun _ => True) (xs := uniqS ltI (roles ss)) (s := ()) trivial (fun q _ s _ => ⟨(), by
    unfold F_law_b3
    simp only [lhours_eq g hw0 hw1, hours_eq g hw0 hw1, bs]
    rw [sameF_eq (szInts (by
      unfold hrs
      have := List.length_filter_le (fun h => mem q (opens ss h)) (rangeI 0 (3 + r))
      rw [rangeI_len] at this; omega))]
    simp only [bs, decide_true, Bool.not_true, Bool.false_eq_true, if_false]
    rw [rngG_eq (by omega) (by omega) (by omega) (by omega)]
    simp only [bs]
    rw [b4_run (show (0 : Int) < 3 + (r, w1).1 by show (0 : Int) < 3 + r; omega) (show (r, w1).1 < 1000 by show r < 1000; omega)]
    simp only [bs, gap_eq g hw0 hw1]
    rw [sameF_eq (show Sz.ok _ = true from rfl)]
    have hg : progGap (3 + r) (hrs ss (3 + r) q) = lawGap (3 + r) (hrs ss (3 + r) q) := by
      have h := gaps (3 + r).toNat (by omega) (by omega) (fun h => mem q (opens ss h))
      have e : ((3 + r).toNat : Int) = 3 + r := by omega
      rw [e] at h
      exact h
    have hg2 : progGap (3 + r) (hrs ss (3 + r) q) = (rangeI 0 (3 + r)).foldl (fun g b => max2 g (farF (3 + r) (hrs ss (3 + r) q) b (3 + r).toNat 0)) 0 := hg
    simp only [hg2, bs, decide_true, Bool.not_true, Bool.false_eq_true, if_false], trivial⟩)
  rw [e4, jn_inl]
  exact ⟨_, rfl⟩
theorem law_true (ns : List Int) (hn : ns.length ≤ 63) : F_law ns = some true := by
  unfold F_law
  obtain ⟨ds, e⟩ := draws_some ns 600 hn (by omega)
  have e : F_L_law_draws ns 600 = some ds := e
  rw [e]
  simp only [bs]
  have hr : rngG 0 (4 : Int) = some (rangeI 0 4) := rngG_nat (n := 4) (by omega)
  rw [hr]
  simp only [bs]
  obtain ⟨w, e2, _⟩ := forC_inv (step := F_law_b1) (P := fun _ => True) (xs := rangeI 0 4) (s := ⟨ds, 0⟩) trivial (fun a _ s _ => by
    obtain ⟨w', h⟩ := b1_ok a s
    exact ⟨w', h, trivial⟩)
  rw [e2]; rfl
end K37
end LW

namespace LW
open LP SH SM
theorem plain : ∀ ns : List Int, ns.length ≤ 63 → ∃ ss, LP.callN fns 60 12 [.scr ns] = some (.bl true, ss) := fun ns hn =>
  cal_at (ok_law 51 ns) rfl (K37.law_true ns hn) rfl
end LW
namespace LW
open PySem PySem.Spec PyProof.Rows L2 LP LPS
theorem all_mk {l : PySem.W.OpenLaw} {w : World} {K : PySem.W.Frag} {h : Heap} {mg : PySem.Str → Option Value} {fa f1 f2 f3 f4 f5 f6 f7 f8 f9 f10 f11 f12 f13 : Addr} (X : K.In h) (G : h.Ns mainGlobals mg) (hfa : mg "law" = some (.ref fa))
    {od1 an1 od2 an2 od3 an3 od4 an4 od5 an5 od6 an6 od7 an7 od8 an8 od9 an9 od10 an10 od11 an11 od12 an12 od13 an13 : Option Addr} {sl1 sl2 sl3 sl4 sl5 sl6 sl7 sl8 sl9 sl10 sl11 sl12 sl13 : Array (Option Value)} {oc1 kV1 dc1 pm1 cd1 ct1 oc2 kV2 dc2 pm2 cd2 ct2 oc3 kV3 dc3 pm3 cd3 ct3 oc4 kV4 dc4 pm4 cd4 ct4 oc5 kV5 dc5 pm5 cd5 ct5 oc6 kV6 dc6 pm6 cd6 ct6 oc7 kV7 dc7 pm7 cd7 ct7 oc8 kV8 dc8 pm8 cd8 ct8 oc9 kV9 dc9 pm9 cd9 ct9 oc10 kV10 dc10 pm10 cd10 ct10 oc11 kV11 dc11 pm11 cd11 ct11 oc12 kV12 dc12 pm12 cd12 ct12 oc13 kV13 dc13 pm13 cd13 ct13 : Value}
    (a1 : PySem.W.nsIn K mainGlobals "set_of" = some (some (.ref f1)))
    (l1 : K.lookup f1 = some ⟨oc1, od1, .func (PySem.W.fnOf "set_of" "set_of" (defArgs s_set_of) (defBody s_set_of) (defScope s_set_of) .none kV1 dc1 pm1 an1 cd1 ct1), sl1⟩) (c1 : PySem.W.codeIn K cd1 "set_of" = true) (k1 : PySem.W.keepIn K (.ref f1) = true)
    (a2 : PySem.W.nsIn K mainGlobals "shifted" = some (some (.ref f2)))
    (l2 : K.lookup f2 = some ⟨oc2, od2, .func (PySem.W.fnOf "shifted" "shifted" (defArgs s_shifted) (defBody s_shifted) (defScope s_shifted) .none kV2 dc2 pm2 an2 cd2 ct2), sl2⟩) (c2 : PySem.W.codeIn K cd2 "shifted" = true) (k2 : PySem.W.keepIn K (.ref f2) = true)
    (a3 : PySem.W.nsIn K mainGlobals "open_roles" = some (some (.ref f3)))
    (l3 : K.lookup f3 = some ⟨oc3, od3, .func (PySem.W.fnOf "open_roles" "open_roles" (defArgs s_open_roles) (defBody s_open_roles) (defScope s_open_roles) .none kV3 dc3 pm3 an3 cd3 ct3), sl3⟩) (c3 : PySem.W.codeIn K cd3 "open_roles" = true) (k3 : PySem.W.keepIn K (.ref f3) = true)
    (a4 : PySem.W.nsIn K mainGlobals "hours_of" = some (some (.ref f4)))
    (l4 : K.lookup f4 = some ⟨oc4, od4, .func (PySem.W.fnOf "hours_of" "hours_of" (defArgs s_hours_of) (defBody s_hours_of) (defScope s_hours_of) .none kV4 dc4 pm4 an4 cd4 ct4), sl4⟩) (c4 : PySem.W.codeIn K cd4 "hours_of" = true) (k4 : PySem.W.keepIn K (.ref f4) = true)
    (a5 : PySem.W.nsIn K mainGlobals "always_open" = some (some (.ref f5)))
    (l5 : K.lookup f5 = some ⟨oc5, od5, .func (PySem.W.fnOf "always_open" "always_open" (defArgs s_always_open) (defBody s_always_open) (defScope s_always_open) .none kV5 dc5 pm5 an5 cd5 ct5), sl5⟩) (c5 : PySem.W.codeIn K cd5 "always_open" = true) (k5 : PySem.W.keepIn K (.ref f5) = true)
    (a6 : PySem.W.nsIn K mainGlobals "longest_gap" = some (some (.ref f6)))
    (l6 : K.lookup f6 = some ⟨oc6, od6, .func (PySem.W.fnOf "longest_gap" "longest_gap" (defArgs s_longest_gap) (defBody s_longest_gap) (defScope s_longest_gap) .none kV6 dc6 pm6 an6 cd6 ct6), sl6⟩) (c6 : PySem.W.codeIn K cd6 "longest_gap" = true) (k6 : PySem.W.keepIn K (.ref f6) = true)
    (a7 : PySem.W.nsIn K mainGlobals "_law_draws" = some (some (.ref f7)))
    (l7 : K.lookup f7 = some ⟨oc7, od7, .func (PySem.W.fnOf "_law_draws" "_law_draws" (defArgs s__law_draws) (defBody s__law_draws) (defScope s__law_draws) .none kV7 dc7 pm7 an7 cd7 ct7), sl7⟩) (c7 : PySem.W.codeIn K cd7 "_law_draws" = true) (k7 : PySem.W.keepIn K (.ref f7) = true)
    (a8 : PySem.W.nsIn K mainGlobals "_law_next" = some (some (.ref f8)))
    (l8 : K.lookup f8 = some ⟨oc8, od8, .func (PySem.W.fnOf "_law_next" "_law_next" (defArgs s__law_next) (defBody s__law_next) (defScope s__law_next) .none kV8 dc8 pm8 an8 cd8 ct8), sl8⟩) (c8 : PySem.W.codeIn K cd8 "_law_next" = true) (k8 : PySem.W.keepIn K (.ref f8) = true)
    (a9 : PySem.W.nsIn K mainGlobals "_law_same" = some (some (.ref f9)))
    (l9 : K.lookup f9 = some ⟨oc9, od9, .func (PySem.W.fnOf "_law_same" "_law_same" (defArgs s__law_same) (defBody s__law_same) (defScope s__law_same) .none kV9 dc9 pm9 an9 cd9 ct9), sl9⟩) (c9 : PySem.W.codeIn K cd9 "_law_same" = true) (k9 : PySem.W.keepIn K (.ref f9) = true)
    (a10 : PySem.W.nsIn K mainGlobals "_law_shifts" = some (some (.ref f10)))
    (l10 : K.lookup f10 = some ⟨oc10, od10, .func (PySem.W.fnOf "_law_shifts" "_law_shifts" (defArgs s__law_shifts) (defBody s__law_shifts) (defScope s__law_shifts) .none kV10 dc10 pm10 an10 cd10 ct10), sl10⟩) (c10 : PySem.W.codeIn K cd10 "_law_shifts" = true) (k10 : PySem.W.keepIn K (.ref f10) = true)
    (a11 : PySem.W.nsIn K mainGlobals "_law_open" = some (some (.ref f11)))
    (l11 : K.lookup f11 = some ⟨oc11, od11, .func (PySem.W.fnOf "_law_open" "_law_open" (defArgs s__law_open) (defBody s__law_open) (defScope s__law_open) .none kV11 dc11 pm11 an11 cd11 ct11), sl11⟩) (c11 : PySem.W.codeIn K cd11 "_law_open" = true) (k11 : PySem.W.keepIn K (.ref f11) = true)
    (a12 : PySem.W.nsIn K mainGlobals "_law_hours" = some (some (.ref f12)))
    (l12 : K.lookup f12 = some ⟨oc12, od12, .func (PySem.W.fnOf "_law_hours" "_law_hours" (defArgs s__law_hours) (defBody s__law_hours) (defScope s__law_hours) .none kV12 dc12 pm12 an12 cd12 ct12), sl12⟩) (c12 : PySem.W.codeIn K cd12 "_law_hours" = true) (k12 : PySem.W.keepIn K (.ref f12) = true)
    (a13 : PySem.W.nsIn K mainGlobals "law" = some (some (.ref f13)))
    (l13 : K.lookup f13 = some ⟨oc13, od13, .func (PySem.W.fnOf "law" "law" (defArgs s_law) (defBody s_law) (defScope s_law) .none kV13 dc13 pm13 an13 cd13 ct13), sl13⟩) (c13 : PySem.W.codeIn K cd13 "law" = true) (k13 : PySem.W.keepIn K (.ref f13) = true)
    (z0 : PySem.W.nsIn K mainGlobals "abs" = some none) (z1 : PySem.W.nsIn K mainGlobals "all" = some none) (z2 : PySem.W.nsIn K mainGlobals "bool" = some none) (z3 : PySem.W.nsIn K mainGlobals "int" = some none) (z4 : PySem.W.nsIn K mainGlobals "isinstance" = some none) (z5 : PySem.W.nsIn K mainGlobals "len" = some none) (z6 : PySem.W.nsIn K mainGlobals "max" = some none) (z7 : PySem.W.nsIn K mainGlobals "range" = some none) (z8 : PySem.W.nsIn K mainGlobals "set" = some none) (z9 : PySem.W.nsIn K mainGlobals "sorted" = some none) (z10 : PySem.W.nsIn K mainGlobals "str" = some none) (z11 : PySem.W.nsIn K mainGlobals "tuple" = some none)
    : ∃ fd : FuncData, (∀ (s : Shared) (v : Value), BindsTo s fd ⟨[v], []⟩ [("script", v)]) ∧ ∀ base : Heap, K.In base → base.Ns mainGlobals mg → FnOk l.prog w K mg base CX0 60 fa fd ["script"] (spTrue K) := by
  have e := hfa.symm.trans (PySem.W.mg_of X G a13)
  cases e
  have F1 := fun_mk (st := s_set_of) l1 c1 k1
  have F2 := fun_mk (st := s_shifted) l2 c2 k2
  have F3 := fun_mk (st := s_open_roles) l3 c3 k3
  have F4 := fun_mk (st := s_hours_of) l4 c4 k4
  have F5 := fun_mk (st := s_always_open) l5 c5 k5
  have F6 := fun_mk (st := s_longest_gap) l6 c6 k6
  have F7 := fun_mk (st := s__law_draws) l7 c7 k7
  have F8 := fun_mk (st := s__law_next) l8 c8 k8
  have F9 := fun_mk (st := s__law_same) l9 c9 k9
  have F10 := fun_mk (st := s__law_shifts) l10 c10 k10
  have F11 := fun_mk (st := s__law_open) l11 c11 k11
  have F12 := fun_mk (st := s__law_hours) l12 c12 k12
  have F13 := fun_mk (st := s_law) l13 c13 k13
  have b1 := F1.binds (ps := ["things"]) fun _ _ _ _ _ _ us hl => match us, hl with | [_], _ => rfl
  have b2 := F2.binds (ps := ["shifts"]) fun _ _ _ _ _ _ us hl => match us, hl with | [_], _ => rfl
  have b3 := F3.binds (ps := ["week", "shifts", "hour"]) fun _ _ _ _ _ _ us hl => match us, hl with | [_, _, _], _ => rfl
  have b4 := F4.binds (ps := ["week", "shifts", "role"]) fun _ _ _ _ _ _ us hl => match us, hl with | [_, _, _], _ => rfl
  have b5 := F5.binds (ps := ["week", "shifts"]) fun _ _ _ _ _ _ us hl => match us, hl with | [_, _], _ => rfl
  have b6 := F6.binds (ps := ["week", "shifts", "role"]) fun _ _ _ _ _ _ us hl => match us, hl with | [_, _, _], _ => rfl
  have b7 := F7.binds (ps := ["script", "many"]) fun _ _ _ _ _ _ us hl => match us, hl with | [_, _], _ => rfl
  have b8 := F8.binds (ps := ["w", "many"]) fun _ _ _ _ _ _ us hl => match us, hl with | [_, _], _ => rfl
  have b9 := F9.binds (ps := ["seen", "due"]) fun _ _ _ _ _ _ us hl => match us, hl with | [_, _], _ => rfl
  have b10 := F10.binds (ps := ["w", "week"]) fun _ _ _ _ _ _ us hl => match us, hl with | [_, _], _ => rfl
  have b11 := F11.binds (ps := ["shifts", "hour"]) fun _ _ _ _ _ _ us hl => match us, hl with | [_, _], _ => rfl
  have b12 := F12.binds (ps := ["week", "shifts", "role"]) fun _ _ _ _ _ _ us hl => match us, hl with | [_, _, _], _ => rfl
  have b13 := F13.binds (ps := ["script"]) fun _ _ _ _ _ _ us hl => match us, hl with | [_], _ => rfl
  refine ⟨PySem.W.fnOf "law" "law" (defArgs s_law) (defBody s_law) (defScope s_law) .none kV13 dc13 pm13 an13 cd13 ct13, fun s v => .of_eq rfl, fun base _ _ => ?_⟩
  have T : Tx K mg _ _ _ _ _ _ _ _ _ _ _ _ _ _ _ _ _ _ _ _ _ _ _ _ _ _ := { F_set_of := F1, m_set_of := PySem.W.mg_of X G a1, b_set_of := b1, F_shifted := F2, m_shifted := PySem.W.mg_of X G a2, b_shifted := b2, F_open_roles := F3, m_open_roles := PySem.W.mg_of X G a3, b_open_roles := b3, F_hours_of := F4, m_hours_of := PySem.W.mg_of X G a4, b_hours_of := b4, F_always_open := F5, m_always_open := PySem.W.mg_of X G a5, b_always_open := b5, F_longest_gap := F6, m_longest_gap := PySem.W.mg_of X G a6, b_longest_gap := b6, F__law_draws := F7, m__law_draws := PySem.W.mg_of X G a7, b__law_draws := b7, F__law_next := F8, m__law_next := PySem.W.mg_of X G a8, b__law_next := b8, F__law_same := F9, m__law_same := PySem.W.mg_of X G a9, b__law_same := b9, F__law_shifts := F10, m__law_shifts := PySem.W.mg_of X G a10, b__law_shifts := b10, F__law_open := F11, m__law_open := PySem.W.mg_of X G a11, b__law_open := b11, F__law_hours := F12, m__law_hours := PySem.W.mg_of X G a12, b__law_hours := b12, F_law := F13, m_law := PySem.W.mg_of X G a13, b_law := b13, z_abs := PySem.W.mg_none_of X G z0, z_all := PySem.W.mg_none_of X G z1, z_bool := PySem.W.mg_none_of X G z2, z_int := PySem.W.mg_none_of X G z3, z_isinstance := PySem.W.mg_none_of X G z4, z_len := PySem.W.mg_none_of X G z5, z_max := PySem.W.mg_none_of X G z6, z_range := PySem.W.mg_none_of X G z7, z_set := PySem.W.mg_none_of X G z8, z_sorted := PySem.W.mg_none_of X G z9, z_str := PySem.W.mg_none_of X G z10, z_tuple := PySem.W.mg_none_of X G z11 }
  exact law_ok (knot (P := l.prog) (w := w) (base := base) (g := gk K) T rfl (gk_inj K) 60).o_law plain
end LW
open PySem PySem.W PyProof.Rows
set_option maxRecDepth 100000 in
set_option maxHeartbeats 0 in
theorem PySem.Challenge.cw_grantwarrant_k37_hours_of_roles_holds : PySem.Challenge.rw_grantwarrant_k37_hours_of_roles.Holds := by
  w_on; o_law; k_head; (case hw => w_witness2)
  k_fill
  refine LPS.walkL (l := PySem.Challenge.rw_grantwarrant_k37_hours_of_roles) (k := 60) rfl rfl ⟨rfl, by decide, by decide⟩ (fun w h Y => PySem.W.kIn_of Y) ?F
  case F =>
    intro w mg fa h KX G hmg
    refine' LW.all_mk KX G hmg ?a1 ?l1 ?c1 ?k1 ?a2 ?l2 ?c2 ?k2 ?a3 ?l3 ?c3 ?k3 ?a4 ?l4 ?c4 ?k4 ?a5 ?l5 ?c5 ?k5 ?a6 ?l6 ?c6 ?k6 ?a7 ?l7 ?c7 ?k7 ?a8 ?l8 ?c8 ?k8 ?a9 ?l9 ?c9 ?k9 ?a10 ?l10 ?c10 ?k10 ?a11 ?l11 ?c11 ?k11 ?a12 ?l12 ?c12 ?k12 ?a13 ?l13 ?c13 ?k13 ?z0 ?z1 ?z2 ?z3 ?z4 ?z5 ?z6 ?z7 ?z8 ?z9 ?z10 ?z11
    (case a1 => k_is)
    (case l1 => k_is)
    (case c1 => k_is)
    (case k1 => k_is)
    (case a2 => k_is)
    (case l2 => k_is)
    (case c2 => k_is)
    (case k2 => k_is)
    (case a3 => k_is)
    (case l3 => k_is)
    (case c3 => k_is)
    (case k3 => k_is)
    (case a4 => k_is)
    (case l4 => k_is)
    (case c4 => k_is)
    (case k4 => k_is)
    (case a5 => k_is)
    (case l5 => k_is)
    (case c5 => k_is)
    (case k5 => k_is)
    (case a6 => k_is)
    (case l6 => k_is)
    (case c6 => k_is)
    (case k6 => k_is)
    (case a7 => k_is)
    (case l7 => k_is)
    (case c7 => k_is)
    (case k7 => k_is)
    (case a8 => k_is)
    (case l8 => k_is)
    (case c8 => k_is)
    (case k8 => k_is)
    (case a9 => k_is)
    (case l9 => k_is)
    (case c9 => k_is)
    (case k9 => k_is)
    (case a10 => k_is)
    (case l10 => k_is)
    (case c10 => k_is)
    (case k10 => k_is)
    (case a11 => k_is)
    (case l11 => k_is)
    (case c11 => k_is)
    (case k11 => k_is)
    (case a12 => k_is)
    (case l12 => k_is)
    (case c12 => k_is)
    (case k12 => k_is)
    (case a13 => k_is)
    (case l13 => k_is)
    (case c13 => k_is)
    (case k13 => k_is)
    (case z0 => k_is)
    (case z1 => k_is)
    (case z2 => k_is)
    (case z3 => k_is)
    (case z4 => k_is)
    (case z5 => k_is)
    (case z6 => k_is)
    (case z7 => k_is)
    (case z8 => k_is)
    (case z9 => k_is)
    (case z10 => k_is)
    (case z11 => k_is)
#print axioms PySem.Challenge.cw_grantwarrant_k37_hours_of_roles_holds

