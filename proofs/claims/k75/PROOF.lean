import PyProof.Rows.All
import HandS.ForMost
import HandS.Wide
import KE.DataEq
import KE.DataMinMax
import KE.DataAny
import KE.DataCmp
import KE.SortData
import PyProof.ReprRoads
import HandS.Lambda
import HandS.TupAny
import HandS.TupMul
import HandS.Style
import HandS.Exc
import HandS.Flow
import HandS.Text
import HandS.Comp
import HandS.Iter
import HandS.Zip
import HandS.Conv
import KE.KTupSum
import PyProof.StrLawsRepr
import PyProof.Rows.RegStrFacts
import HandS.RaiseMore
import HandS.IsInst
import HandS.Small
import HandS.Nested
import HandS.ExcInit
import HandS.TryMany
import HandS.ExcField
import HandS.HeadWalk
import HandS.NestedK
import KE.KNestM
import HandS.EndBits
import HandS.EndTab
import Wide.All
import OpenK.AllK
import Wide.FinOn
import PySem.Challenge.RW_partrules_k75_squares_and_triangles
set_option Elab.async false
set_option linter.all false
set_option maxRecDepth 100000
/-! Y1: values, the IR, its evaluator. -/
namespace Y
open PySem

/-- a value: plain data (never changes), a mutable object of the evaluator's heap, a def of the module, a closure; tuples and lists that hold such -/
inductive D where
  | p (d : PyData)
  | ref (l : Nat)
  | fn (i : Nat)
  | clo (k : Nat) (cs : List Nat)
  | tup (ds : List D)
  | lst (ds : List D)

abbrev Key := Sum Int Str
/-- what stands at a place of the heap -/
inductive Ob where
  | lst (ds : List D)
  | dk (kvs : List (Key × D))
  | dt (kvs : List (List Key × D))
  | lk (o : Ob)
  | ins (c : Nat) (fs : List (Str × D))
  | cell (d : Option D)
  | dead
abbrev Hh := List Ob
/-- a frame: its slots, the places of its cells -/
structure Rho where
  sl : List (Option D)
  cl : List Nat

inductive Res (α : Type) where
  | ok (a : α) (h : Hh)
  | exn (c : Nat) (fs : List D) (h : Hh)
  | bad
/-- how a block ends -/
inductive SR where
  | nx (r : Rho) (h : Hh)
  | rt (d : D) (h : Hh)
  | bk (r : Rho) (h : Hh)
  | ct (r : Rho) (h : Hh)
  | exn (c : Nat) (fs : List D) (r : Rho) (h : Hh)
  | bad

noncomputable def Res.bind {α β : Type} (r : Res α) (f : α → Hh → Res β) : Res β :=
  match r with
  | .ok a h => f a h
  | .exn c fs h => .exn c fs h
  | .bad => .bad
/-- within a comprehension nothing may be raised -/
noncomputable def Res.calm {α : Type} (r : Res α) : Res α :=
  match r with
  | .ok a h => .ok a h
  | _ => .bad
noncomputable def opt {α : Type} (o : Option α) (h : Hh) : Res α :=
  match o with
  | some a => .ok a h
  | none => .bad

/-! ### plain data -/
/-- the item at a place -/
noncomputable def nth {α : Type} (l : List α) : Nat → Option α := l.rec (fun _ => none) (fun x _ ih n => Nat.casesOn n (some x) ih)
theorem nth_nil {α : Type} (n : Nat) : nth ([] : List α) n = none := rfl
theorem nth_zero {α : Type} (x : α) (r : List α) : nth (x :: r) 0 = some x := rfl
theorem nth_succ {α : Type} (x : α) (r : List α) (n : Nat) : nth (x :: r) (n + 1) = nth r n := rfl
theorem nth_eq {α : Type} : ∀ (l : List α) (n : Nat), nth l n = l[n]?
  | [], n => rfl
  | x :: r, 0 => rfl
  | x :: r, n + 1 => nth_eq r n

noncomputable def allP : List D → Option (List PyData)
  | [] => some []
  | .p d :: r => match allP r with
    | some ds => some (d :: ds)
    | none => none
  | _ :: _ => none
noncomputable def mkTup (ds : List D) : D := match allP ds with
  | some ps => .p (.tuple ps)
  | none => .tup ds
noncomputable def mkLst (ds : List D) : D := match allP ds with
  | some ps => .p (.list ps)
  | none => .lst ds
/-- the items of a tuple; of a list that never changes; of any list as it stands -/
noncomputable def seqT : D → Option (List D)
  | .p (.tuple ps) => some (ps.map .p)
  | .tup ds => some ds
  | _ => none
noncomputable def seqF : D → Option (List D)
  | .p (.list ps) => some (ps.map .p)
  | .lst ds => some ds
  | _ => none
noncomputable def seqL (h : Hh) : D → Option (List D)
  | .p (.list ps) => some (ps.map .p)
  | .lst ds => some ds
  | .ref l => match nth h l with
    | some (.lst ds) => some ds
    | _ => none
  | _ => none
/-- plain items of a tuple or list -/
noncomputable def plainS (h : Hh) : D → Option (Bool × List PyData)
  | .p (.tuple ps) => some (true, ps)
  | .p (.list ps) => some (false, ps)
  | .tup ds => match allP ds with
    | some ps => some (true, ps)
    | none => none
  | .ref l => match nth h l with
    | some (.lst ds) => match allP ds with
      | some ps => some (false, ps)
      | none => none
    | _ => none
  | _ => none
noncomputable def D.isP : D → Bool
  | .p _ => true
  | _ => false
noncomputable def intsOf : List PyData → Option (List Int)
  | [] => some []
  | .int i :: r => match intsOf r with
    | some is => some (i :: is)
    | none => none
  | _ :: _ => none

noncomputable def ixN (n : Nat) (i : Int) : Option Nat := if 0 ≤ i then (if i < n then some i.toNat else none) else if -(n : Int) ≤ i then some (i + n).toNat else none
noncomputable def atI {α : Type} (xs : List α) (i : Int) : Option α := match ixN xs.length i with
  | some j => nth xs j
  | none => none
/-- a slice's end in bounds -/
noncomputable def clip (n d : Nat) : Option Int → Nat
  | none => d
  | some i => if i < 0 then (i + n).toNat else min i.toNat n
noncomputable def cut {α : Type} (xs : List α) (lo hi : Option Int) : List α := (xs.drop (clip xs.length 0 lo)).take (clip xs.length xs.length hi - clip xs.length 0 lo)

noncomputable def LINE : Nat := 16000000

mutual
noncomputable def dep : PyData → Nat
  | .list xs => deps xs + 1
  | .tuple xs => deps xs + 1
  | .dict _ => 100
  | .none => 0
  | .bool _ => 0
  | .int _ => 0
  | .str _ => 0
noncomputable def deps : List PyData → Nat
  | [] => 0
  | x :: xs => max (dep x) (deps xs)
end
/-- no deeper than 60, without dicts -/
noncomputable def flat (d : PyData) : Bool := decide (dep d ≤ 60)
noncomputable def flats (d : List PyData) : Bool := decide (deps d ≤ 60)
mutual
/-- at least as many as the signs of its text -/
noncomputable def wgt : PyData → Nat
  | .list xs => wgts xs + 4
  | .tuple xs => wgts xs + 4
  | .dict _ => 0
  | .none => 4
  | .bool _ => 5
  | .int i => i.natAbs.log2 + 3
  | .str x => 10 * x.length + 2
noncomputable def wgts : List PyData → Nat
  | [] => 0
  | x :: xs => wgt x + 2 + wgts xs
end
mutual
noncomputable def showB : PyData → Bool
  | .list xs => showBs xs
  | .tuple xs => showBs xs
  | .dict _ => false
  | .none => true
  | .bool _ => true
  | .int i => decide (i.natAbs.log2 < 1920)
  | .str x => x.cps.all fun c => decide (c < 4294967296)
noncomputable def showBs : List PyData → Bool
  | [] => true
  | x :: xs => showB x && showBs xs
end
noncomputable def reprOk (d : PyData) : Bool := flat d && showB d && decide (wgt d ≤ LINE)

/-! ### operators -/
inductive Bop where
  | add | sub | mul | fdiv | mod | pow | shl | shr | band
inductive Cop where
  | eq | ne | lt | le | gt | ge | is_ | isnt | in_ | notin

noncomputable def small64 (i : Int) : Bool := Nat.blt i.natAbs 18446744073709551616
noncomputable def mulOk (i j : Int) : Bool := small64 i || small64 j || decide (i.natAbs.log2 + j.natAbs.log2 < 1000000)
noncomputable def intBop : Bop → Int → Int → Option Int
  | .add, i, j => some (i + j)
  | .sub, i, j => some (i - j)
  | .mul, i, j => if mulOk i j then some (i * j) else none
  | .fdiv, i, j => if decide (0 < j) && decide (j.natAbs.log2 < 9000) then some (i / j) else none
  | .mod, i, j => if 0 < j then some (i % j) else none
  | .pow, i, j => if decide (0 ≤ j) && decide (j ≤ 1000000) && Nat.blt i.natAbs 18446744073709551616 then some (i ^ j.toNat) else none
  | .shl, i, j => if decide (0 ≤ j) && decide (j ≤ 1000000) && Nat.blt i.natAbs 18446744073709551616 then some (i * 2 ^ j.toNat) else none
  | .shr, i, j => if 0 ≤ j then some (i / 2 ^ j.toNat) else none
  | .band, i, j => some (Builtin.bitAnd i j)
/-- tuples put together, repeated -/
noncomputable def catT (a b : D) : Option D := match seqT a with
  | some xs => match seqT b with
    | some ys => if Nat.ble (xs.length + ys.length) LINE then (match xs with
      | [] => some b
      | _ => match ys with
        | [] => some a
        | _ => some (mkTup (xs ++ ys))) else none
    | none => none
  | none => none
noncomputable def repT (a : D) (k : Int) : Option D := match seqT a with
  | some xs => if Nat.ble xs.length 1000 && decide (k ≤ 1000) && decide (-1000000 ≤ k) then (if xs.isEmpty || decide (k = 1) then some a else some (mkTup (List.replicate k.toNat xs).flatten)) else none
  | none => none
/-- a op b, the values neither lists nor mutable -/
noncomputable def pint : Option Int → Option D
  | some k => some (.p (.int k))
  | none => none
noncomputable def binV (o : Bop) (a b : D) : Option D := match a with
  | .p (.int i) => (match b with
    | .p (.int j) => pint (intBop o i j)
    | _ => none)
  | .p (.str x) => (match b with
    | .p (.str y) => (match o with
      | .add => if Nat.ble (x.length + y.length) LINE then some (.p (.str (x ++ y))) else none
      | _ => none)
    | _ => none)
  | a => (match o with
    | .add => catT a b
    | .mul => (match b with
      | .p (.int k) => repT a k
      | _ => none)
    | _ => none)

noncomputable def keyOf : D → Option Key
  | .p (.int i) => some (.inl i)
  | .p (.str x) => some (.inr x)
  | _ => none
noncomputable def keysOf : List PyData → Option (List Key)
  | [] => some []
  | .int i :: r => match keysOf r with
    | some ks => some (.inl i :: ks)
    | none => none
  | .str x :: r => match keysOf r with
    | some ks => some (.inr x :: ks)
    | none => none
  | _ :: _ => none
noncomputable def tkeyOf : D → Option (List Key)
  | .p (.tuple ps) => keysOf ps
  | _ => none
noncomputable def look {κ : Type} [DecidableEq κ] (kvs : List (κ × D)) (k : κ) : Option D := match kvs with
  | [] => none
  | (j, d) :: r => if j = k then some d else look r k
noncomputable def put {κ : Type} [DecidableEq κ] (kvs : List (κ × D)) (k : κ) (d : D) : List (κ × D) :=
  if kvs.any fun p => decide (p.1 = k) then kvs.map fun p => if p.1 = k then (p.1, d) else p else kvs ++ [(k, d)]
/-- what a dict holds under a key: no dict or no key | nothing | a value -/
noncomputable def dget (h : Hh) (o k : D) : Option (Option D) := match o with
  | .ref l => match nth h l with
    | some (.dk kvs) => match keyOf k with
      | some k => some (look kvs k)
      | none => none
    | some (.dt kvs) => match tkeyOf k with
      | some k => some (look kvs k)
      | none => none
    | some (.lk (.dk kvs)) => match keyOf k with
      | some k => some (look kvs k)
      | none => none
    | some (.lk (.dt kvs)) => match tkeyOf k with
      | some k => some (look kvs k)
      | none => none
    | _ => none
  | _ => none

noncomputable def bl (b : Bool) : D := .p (.bool b)
noncomputable def cmpI : Cop → Int → Int → Option Bool
  | .lt, i, j => some (decide (i < j))
  | .le, i, j => some (decide (i ≤ j))
  | .gt, i, j => some (decide (j < i))
  | .ge, i, j => some (decide (j ≤ i))
  | .eq, i, j => some (decide (i = j))
  | .ne, i, j => some (!decide (i = j))
  | _, _, _ => none
noncomputable def cmpO (o : Cop) (a b : PyData) : Option Bool := if flat a && flat b && W.alike a b && !(PyData.eqv a .none) then (match o with
  | .lt => some (W.dataLt a b)
  | .le => some (!W.dataLt b a)
  | .gt => some (W.dataLt b a)
  | .ge => some (!W.dataLt a b)
  | _ => none) else none
noncomputable def plainOf (h : Hh) (d : D) : Option PyData := match d with
  | .p d => some d
  | .ref l => match nth h l with
    | some (.lst ds) => match allP ds with
      | some ps => some (.list ps)
      | none => none
    | _ => none
  | _ => none
noncomputable def isV (a b : D) : Option Bool := match a, b with
  | .p .none, .p .none => some true
  | _, .p .none => some false
  | .p (.bool a), .p (.bool b) => some (decide (a = b))
  | _, _ => none
noncomputable def eqD (h : Hh) (a b : D) : Option Bool := match plainOf h a, plainOf h b with
  | some a, some b => if flat a && flat b then some (PyData.eqv a b) else none
  | _, _ => none
noncomputable def inD (h : Hh) (a b : D) : Option Bool := match a, plainS h b with
  | .p a, some (_, ps) => if flat a && flats ps then some (ps.any fun y => PyData.eqv y a) else none
  | _, _ => match dget h b a with
    | some r => some r.isSome
    | none => none
noncomputable def cmpV (o : Cop) (h : Hh) (a b : D) : Option Bool := match o with
  | .is_ => isV a b
  | .isnt => match isV a b with
    | some k => some (!k)
    | none => none
  | .in_ => inD h a b
  | .notin => match inD h a b with
    | some k => some (!k)
    | none => none
  | .eq => match a, b with
    | .p (.int i), .p (.int j) => some (decide (i = j))
    | a, b => eqD h a b
  | .ne => match a, b with
    | .p (.int i), .p (.int j) => some (!decide (i = j))
    | a, b => match eqD h a b with
      | some k => some (!k)
      | none => none
  | o => match a, b with
    | .p (.int i), .p (.int j) => cmpI o i j
    | .p a, .p b => cmpO o a b
    | _, _ => none
/-- truth -/
noncomputable def truthV (h : Hh) : D → Option Bool
  | .p .none => some false
  | .p (.bool b) => some b
  | .p (.int i) => some (i != 0)
  | .p (.str x) => if x.length ≤ LINE then some ((x.length : Int) != 0) else none
  | .p (.list ps) => some (!ps.isEmpty)
  | .p (.tuple ps) => some (!ps.isEmpty)
  | .tup ds => some (!ds.isEmpty)
  | .lst ds => some (!ds.isEmpty)
  | .ref l => match nth h l with
    | some (.lst ds) => some (!ds.isEmpty)
    | some (.dk kvs) => some (!kvs.isEmpty)
    | _ => none
  | _ => none

/-! ### built-in functions -/
inductive Pr where
  | len | sum | all | any | min | max | min2 | max2 | abs | int | tup | repr
noncomputable def lenV (h : Hh) (d : D) : Option Nat := match d with
  | .p (.str x) => if x.length ≤ LINE then some x.length else none
  | d => match seqT d with
    | some ds => some ds.length
    | none => match seqL h d with
      | some ds => some ds.length
      | none => none
noncomputable def nonN : PyData → Bool
  | .none => false
  | _ => true
noncomputable def alikes (ps : List PyData) : Bool := ps.all fun x => ps.all (W.alike x) && nonN x
noncomputable def allTru : PyData → Bool
  | .bool _ => true
  | .int _ => true
  | _ => false
noncomputable def tru : PyData → Bool
  | .bool b => b
  | .int i => i != 0
  | _ => false
noncomputable def pLen (h : Hh) (ds : List D) : Option D := match ds with
  | [d] => (match lenV h d with
    | some n => some (.p (.int n))
    | none => none)
  | _ => none
noncomputable def pSum (h : Hh) (ds : List D) : Option D := match ds with
  | [d] => (match plainS h d with
    | some (_, ps) => (match intsOf ps with
      | some is => some (.p (.int is.sum))
      | none => none)
    | none => none)
  | _ => none
noncomputable def pAll (h : Hh) (ds : List D) : Option D := match ds with
  | [d] => (match plainS h d with
    | some (_, ps) => if ps.all allTru then some (bl (ps.all tru)) else none
    | none => none)
  | _ => none
noncomputable def pAny (h : Hh) (ds : List D) : Option D := match ds with
  | [d] => (match plainS h d with
    | some (_, ps) => if ps.all allTru then some (bl (ps.any tru)) else none
    | none => none)
  | _ => none
noncomputable def pMin (h : Hh) (ds : List D) : Option D := match ds with
  | [d] => (match plainS h d with
    | some (_, x :: xs) => if alikes (x :: xs) && flats (x :: xs) then some (.p (W.minD x xs)) else none
    | _ => none)
  | _ => none
noncomputable def pMax (h : Hh) (ds : List D) : Option D := match ds with
  | [d] => (match plainS h d with
    | some (_, x :: xs) => if alikes (x :: xs) && flats (x :: xs) then some (.p (W.maxD x xs)) else none
    | _ => none)
  | _ => none
noncomputable def twoI (ds : List D) : Option (Int × Int) := match ds with
  | [.p (.int i), .p (.int j)] => some (i, j)
  | _ => none
noncomputable def pMin2 (ds : List D) : Option D := match twoI ds with
  | some (i, j) => some (.p (.int (if j < i then j else i)))
  | none => none
noncomputable def pMax2 (ds : List D) : Option D := match twoI ds with
  | some (i, j) => some (.p (.int (if j > i then j else i)))
  | none => none
noncomputable def pAbs (ds : List D) : Option D := match ds with
  | [.p (.int i)] => some (.p (.int (if i < 0 then -i else i)))
  | _ => none
noncomputable def pInt (ds : List D) : Option D := match ds with
  | [.p (.int i)] => some (.p (.int i))
  | [.p (.bool b)] => some (.p (.int (if b then 1 else 0)))
  | _ => none
noncomputable def pTup (h : Hh) (ds : List D) : Option D := match ds with
  | [d] => (match seqT d with
    | some _ => some d
    | none => match seqL h d with
      | some ds => some (mkTup ds)
      | none => none)
  | _ => none
noncomputable def pRepr (h : Hh) (ds : List D) : Option D := match ds with
  | [d] => (match plainOf h d with
    | some d => if reprOk d then some (.p (.str d.shown)) else none
    | none => none)
  | _ => none
noncomputable def prV (p : Pr) (h : Hh) (ds : List D) : Option D := match p with
  | .len => pLen h ds
  | .sum => pSum h ds
  | .all => pAll h ds
  | .any => pAny h ds
  | .min => pMin h ds
  | .max => pMax h ds
  | .min2 => pMin2 ds
  | .max2 => pMax2 ds
  | .abs => pAbs ds
  | .int => pInt ds
  | .tup => pTup h ds
  | .repr => pRepr h ds

/-! ### methods -/
inductive Mt where
  | append | pop | popat | get1 | get2
/-- an object's place set -/
noncomputable def setO (h : Hh) (l : Nat) (o : Ob) : Hh := h.set l o
/-- the object has such a method -/
noncomputable def mkOk (m : Mt) (h : Hh) (o : D) : Bool := match o with
  | .ref l => (match nth h l with
    | some (.lst _) => (match m with
      | .append => true
      | .pop => true
      | .popat => true
      | _ => false)
    | some (.dk _) => (match m with
      | .get1 => true
      | .get2 => true
      | _ => false)
    | some (.dt _) => (match m with
      | .get1 => true
      | .get2 => true
      | _ => false)
    | _ => false)
  | _ => false
noncomputable def mAppend (h : Hh) (o : D) (ds : List D) : Res D := match o with
  | .ref l => (match nth h l with
    | some (.lst xs) => (match ds with
      | [d] => if Nat.ble (xs.length + 1) LINE then .ok (.p .none) (h.set l (.lst (xs ++ [d]))) else .bad
      | _ => .bad)
    | _ => .bad)
  | _ => .bad
noncomputable def mPop (h : Hh) (o : D) (ds : List D) : Res D := match o with
  | .ref l => (match nth h l with
    | some (.lst xs) => (match ds with
      | [] => (match nth xs (xs.length - 1) with
        | some y => .ok y (h.set l (.lst xs.dropLast))
        | none => .bad)
      | _ => .bad)
    | _ => .bad)
  | _ => .bad
noncomputable def mPopat (h : Hh) (o : D) (ds : List D) : Res D := match o with
  | .ref l => (match nth h l with
    | some (.lst xs) => (match ds with
      | [.p (.int i)] => (match ixN xs.length i with
        | some k => (match nth xs k with
          | some y => .ok y (h.set l (.lst (xs.eraseIdx k)))
          | none => .bad)
        | none => .bad)
      | _ => .bad)
    | _ => .bad)
  | _ => .bad
noncomputable def mGet (h : Hh) (o : D) (ds : List D) : Option D := match ds with
  | [k] => (match dget h o k with
    | some (some d) => some d
    | some none => some (.p .none)
    | none => none)
  | [k, e] => (match dget h o k with
    | some (some d) => some d
    | some none => some e
    | none => none)
  | _ => none
noncomputable def mtV (m : Mt) (h : Hh) (o : D) (ds : List D) : Res D := match m with
  | .append => mAppend h o ds
  | .pop => mPop h o ds
  | .popat => mPopat h o ds
  | .get1 => opt (mGet h o ds) h
  | .get2 => opt (mGet h o ds) h

/-- o[i] -/
noncomputable def ixV (h : Hh) (o i : D) : Option D := match o, i with
  | .p (.str x), .p (.int i) => if x.length ≤ LINE then (match atI x.cps.toList i with
    | some c => some (.p (.str ⟨#[c]⟩))
    | none => none) else none
  | o, i => match seqT o, i with
    | some xs, .p (.int i) => atI xs i
    | _, _ => match seqL h o, i with
      | some xs, .p (.int i) => atI xs i
      | _, _ => match dget h o i with
        | some (some d) => some d
        | _ => none
/-- o[i] = d -/
noncomputable def setV (h : Hh) (o i d : D) : Option Hh := match o with
  | .ref l => (match nth h l with
    | some (.lst xs) => (match i with
      | .p (.int i) => (match ixN xs.length i with
        | some j => some (h.set l (.lst (xs.set j d)))
        | none => none)
      | _ => none)
    | some (.dk kvs) => (match keyOf i with
      | some k => if Nat.ble (kvs.length + 1) LINE then some (h.set l (.dk (put kvs k d))) else none
      | none => none)
    | some (.dt kvs) => (match tkeyOf i with
      | some k => if Nat.ble (kvs.length + 1) LINE then some (h.set l (.dt (put kvs k d))) else none
      | none => none)
    | _ => none)
  | _ => none

/-! ### targets -/
inductive Tg where
  | nm (i : Nat)
  | cn (j : Nat)
  | tup (ts : Tg)
  | nil
  | cons (a b : Tg)
/-- the cell j is stored -/
noncomputable def setC (r : Rho) (h : Hh) (j : Nat) (d : D) : Option Hh := match nth r.cl j with
  | some l => match nth h l with
    | some (.cell _) => some (h.set l (.cell (some d)))
    | _ => none
  | none => none
mutual
noncomputable def asgT : Tg → D → Rho → Hh → Option (Rho × Hh)
  | .nm i, d, r, h => some (⟨r.sl.set i (some d), r.cl⟩, h)
  | .cn j, d, r, h => match setC r h j d with
    | some h' => some (r, h')
    | none => none
  | .tup ts, d, r, h => match seqT d with
    | some ds => asgTs ts ds r h
    | none => none
  | .nil, _, _, _ => none
  | .cons _ _, _, _, _ => none
noncomputable def asgTs : Tg → List D → Rho → Hh → Option (Rho × Hh)
  | .nil, [], r, h => some (r, h)
  | .cons a b, d :: ds, r, h => match asgT a d r h with
    | some (r', h') => asgTs b ds r' h'
    | none => none
  | _, _, _, _ => none
end

/-! ### expressions -/
--<ind>
mutual
inductive E where
  | v (i : Nat)
  | cv (j : Nat)
  | c (d : PyData)
  | g (x : Str) (d : PyData)
  | fv (i : Nat)
  | bin (o : Bop) (a : E) (b : E)
  | neg (a : E)
  | cmp (o : Cop) (a : E) (b : E)
  | chn (o1 : Cop) (o2 : Cop) (a : E) (b : E) (c : E)
  | and (a : E) (b : E)
  | or (a : E) (b : E)
  | not (a : E)
  | ife (t : E) (a : E) (b : E)
  | tup (es : A)
  | imm (l : L)
  | mut (l : L)
  | ix (a : E) (b : E)
  | sl (a : E) (lo : O) (hi : O)
  | call (iso : Bool) (f : Nat) (es : A)
  | cval (a : E) (es : A)
  | pr (p : Pr) (es : A)
  | mt (m : Mt) (o : E) (es : A)
  | lam (k : Nat) (js : (List Nat))
  | isi (a : E) (ts : (List String))
  | dk (ks : (List Key)) (es : A)
  | dt0
inductive O where
  | no
  | so (a : E)
inductive A where
  | nil
  | cons (a : E) (es : A)
inductive L where
  | disp (es : A)
  | comp (t : Tg) (it : I) (cond : O) (elt : E)
  | lof (a : E)
  | srt (a : E)
  | rep (a : L) (b : E)
  | cat (a : E) (b : E)
  | sll (a : E) (lo : O) (hi : O)
  | rev (a : E)
inductive I where
  | it (a : E)
  | rng1 (a : E)
  | rng2 (a : E) (b : E)
  | rng3 (a : E) (b : E) (c : E)
  | enu (a : E)
  | zip (a : E) (b : E)
end
--</ind>
inductive Cal where
  | fn (i : Nat)
  | clo (k : Nat) (cs : List Nat)
abbrev CSem := Cal → List D → Hh → Res D
abbrev SE := CSem → Rho → Hh → Res D
abbrev SL := CSem → Rho → Hh → Res (List D)
abbrev SO := CSem → Rho → Hh → Res (Option D)
/-- a value's built-in type -/
noncomputable def tyD (h : Hh) (d : D) : Option String := match d with
  | .p .none => some "NoneType"
  | .p (.bool _) => some "bool"
  | .p (.int _) => some "int"
  | .p (.str _) => some "str"
  | .p (.list _) => some "list"
  | .p (.tuple _) => some "tuple"
  | .tup _ => some "tuple"
  | .lst _ => some "list"
  | .ref l => match nth h l with
    | some (.lst _) => some "list"
    | _ => none
  | _ => none
noncomputable def isT (n m : String) : Bool := n == m || (n == "bool" && m == "int")
/-- what is walked: items that never change; a list as it stands, its length kept -/
inductive Wk where
  | fx (ds : List D)
  | rd (l n : Nat)
noncomputable def rangeI (lo : Int) (n : Nat) (c : Int) : List D := (List.range n).map fun i => .p (.int (lo + (i : Nat) * c))
noncomputable def small62 (i : Int) : Bool := Nat.blt i.natAbs 4611686018427387904
noncomputable def enumI (xs : List D) : List D := (xs.zipIdx 0).map fun p => mkTup [.p (.int p.2), p.1]
noncomputable def zipI (xs ys : List D) : List D := (xs.zip ys).map fun p => mkTup [p.1, p.2]
noncomputable def rngN (i j c : Int) : Nat := (Builtin.Range.rangeSize i j c).toNat
noncomputable def Wk.len : Wk → Nat
  | .fx ds => ds.length
  | .rd _ n => n
noncomputable def Wk.at (w : Wk) (i : Nat) (h : Hh) : Option D := match w with
  | .fx ds => nth ds i
  | .rd l n => match nth h l with
    | some (.lst xs) => if Nat.beq xs.length n then nth xs i else none
    | _ => none
noncomputable def Wk.fin (w : Wk) (h : Hh) : Bool := match w with
  | .fx _ => true
  | .rd l n => match nth h l with
    | some (.lst xs) => Nat.beq xs.length n
    | _ => false
abbrev SI := CSem → Rho → Hh → Res Wk
noncomputable def consO (o : Option D) (ys : List D) : List D := match o with
  | some y => y :: ys
  | none => ys
/-- the loop of a comprehension -/
noncomputable def compL (body : D → Hh → Res (Option D)) : List D → Hh → Res (List D)
  | [], h => .ok [] h
  | x :: xs, h => (body x h).bind fun o h1 => (compL body xs h1).bind fun ys h2 => .ok (consO o ys) h2
noncomputable def compW (w : Wk) (body : D → Hh → Res (Option D)) : Nat → Nat → Hh → Res (List D)
  | 0, _, h => if w.fin h then .ok [] h else .bad
  | k + 1, i, h => match w.at i h with
    | some x => (body x h).bind fun o h1 => (compW w body k (i + 1) h1).bind fun ys h2 => .ok (consO o ys) h2
    | none => .bad
noncomputable def compV (w : Wk) (body : D → Hh → Res (Option D)) (h : Hh) : Res (List D) := match w with
  | .fx ds => compL body ds h
  | .rd l n => compW (.rd l n) body n 0 h
/-- places renamed: plain values, places, defs alone -/
noncomputable def ren (f : Nat → Option Nat) : D → Option D
  | .p d => some (.p d)
  | .fn i => some (.fn i)
  | .ref l => match f l with
    | some n => some (.ref n)
    | none => none
  | _ => none
noncomputable def renL (f : Nat → Option Nat) : List D → Option (List D)
  | [] => some []
  | d :: r => match ren f d with
    | some e => match renL f r with
      | some s => some (e :: s)
      | none => none
    | none => none
noncomputable def renK {κ : Type} (f : Nat → Option Nat) : List (κ × D) → Option (List (κ × D))
  | [] => some []
  | (k, d) :: r => match ren f d with
    | some e => match renK f r with
      | some s => some ((k, e) :: s)
      | none => none
    | none => none
noncomputable def renO (f : Nat → Option Nat) : Ob → Option Ob
  | .lst ds => match renL f ds with
    | some es => some (.lst es)
    | none => none
  | .dk kvs => match renK f kvs with
    | some es => some (.dk es)
    | none => none
  | .dt kvs => match renK f kvs with
    | some es => some (.dt es)
    | none => none
  | _ => none
noncomputable def idx : List Nat → Nat → Option Nat
  | [], _ => none
  | l :: ls, k => if Nat.beq l k then some 0 else match idx ls k with
    | some n => some (n + 1)
    | none => none
noncomputable def refD : D → List Nat
  | .ref l => [l]
  | _ => []
noncomputable def refO : Ob → List Nat
  | .lst ds => ds.flatMap refD
  | .dk kvs => kvs.flatMap fun p => refD p.2
  | .dt kvs => kvs.flatMap fun p => refD p.2
  | _ => []
noncomputable def refP (h : Hh) (l : Nat) : List Nat := match nth h l with
  | some o => refO o
  | none => []
noncomputable def hasN (l : Nat) : List Nat → Bool
  | [] => false
  | k :: ks => if Nat.beq k l then true else hasN l ks
noncomputable def once : List Nat → List Nat → List Nat
  | [], acc => acc.reverse
  | l :: ls, acc => if hasN l acc then once ls acc else once ls (l :: acc)
/-- the places of the objects handed in, and of those in them -/
noncomputable def handed (h : Hh) (ds : List D) : List Nat := once (ds.flatMap refD ++ (ds.flatMap refD).flatMap (refP h)) []
noncomputable def gather (h : Hh) (f : Nat → Option Nat) : List Nat → Option Hh
  | [] => some []
  | l :: ls => match nth h l with
    | some o => match renO f o with
      | some o' => match gather h f ls with
        | some r => some (o' :: r)
        | none => none
      | none => none
    | none => none
noncomputable def scatter (h : Hh) (f : Nat → Option Nat) : List Nat → Hh → Option Hh
  | [], _ => some h
  | l :: ls, o :: r => match renO f o with
    | some o' => scatter (h.set l o') f ls r
    | none => none
  | _ :: _, [] => none
/-- a call that sees the objects alone that are handed in -/
noncomputable def isoAt (cs : CSem) (f : Nat) (ds : List D) (h : Hh) (ls : List Nat) : Res D := match renL (idx ls) ds with
  | some ds' => match gather h (idx ls) ls with
    | some h0 => match cs (.fn f) ds' h0 with
      | .ok d h1 => match ren (nth ls) d with
        | some d' => match scatter h (nth ls) ls h1 with
          | some h2 => .ok d' h2
          | none => .bad
        | none => .bad
      | .exn c fs h1 => match renL (nth ls) fs with
        | some fs' => match scatter h (nth ls) ls h1 with
          | some h2 => .exn c fs' h2
          | none => .bad
        | none => .bad
      | .bad => .bad
    | none => .bad
  | none => .bad
noncomputable def isoCall (cs : CSem) (f : Nat) (ds : List D) (h : Hh) : Res D := isoAt cs f ds h (handed h ds)

noncomputable def sliceI (o : Option D) : Option (Option Int) := match o with
  | none => some none
  | some (.p (.int i)) => some (some i)
  | _ => none
noncomputable def sortD (ps : List PyData) : List PyData := ps.mergeSort fun a b => !W.dataLt b a
noncomputable def isTup1 : PyData → Bool
  | .tuple (_ :: _) => true
  | _ => false
noncomputable def noTup : PyData → Bool
  | .tuple _ => false
  | _ => true
noncomputable def sortOk (ps : List PyData) : Bool := alikes ps && flats ps && (ps.all isTup1 || ps.all noTup) && Nat.ble ps.length LINE

/-! ### each form's meaning by that of its parts -/
noncomputable def kV (i : Nat) : SE := fun cs r h => match nth r.sl i with
  | some (some d) => .ok d h
  | _ => .bad
noncomputable def kCv (j : Nat) : SE := fun cs r h => match nth r.cl j with
  | some l => match nth h l with
    | some (.cell (some d)) => .ok d h
    | _ => .bad
  | none => .bad
noncomputable def kC (d : D) : SE := fun cs _ h => .ok d h
noncomputable def kBin (o : Bop) (a b : SE) : SE := fun cs r h => (a cs r h).bind fun x h1 => (b cs r h1).bind fun y h2 => opt (binV o x y) h2
noncomputable def negV : D → Option D
  | .p (.int i) => some (.p (.int (-i)))
  | _ => none
noncomputable def kNeg (a : SE) : SE := fun cs r h => (a cs r h).bind fun x h1 => opt (negV x) h1
noncomputable def obl (o : Option Bool) (h : Hh) : Res D := match o with
  | some b => .ok (bl b) h
  | none => .bad
noncomputable def kCmp (o : Cop) (a b : SE) : SE := fun cs r h => (a cs r h).bind fun x h1 => (b cs r h1).bind fun y h2 => obl (cmpV o h2 x y) h2
noncomputable def kChn (o1 o2 : Cop) (a b c : SE) : SE := fun cs r h => (a cs r h).bind fun x h1 => (b cs r h1).bind fun y h2 => match cmpV o1 h2 x y with
  | some true => (c cs r h2).bind fun z h3 => obl (cmpV o2 h3 y z) h3
  | some false => .ok (bl false) h2
  | none => .bad
noncomputable def kAnd (a b : SE) : SE := fun cs r h => (a cs r h).bind fun x h1 => match truthV h1 x with
  | some true => b cs r h1
  | some false => .ok x h1
  | none => .bad
noncomputable def kOr (a b : SE) : SE := fun cs r h => (a cs r h).bind fun x h1 => match truthV h1 x with
  | some true => .ok x h1
  | some false => b cs r h1
  | none => .bad
noncomputable def kNot (a : SE) : SE := fun cs r h => (a cs r h).bind fun x h1 => match truthV h1 x with
  | some b => .ok (bl (!b)) h1
  | none => .bad
noncomputable def kIf (t a b : SE) : SE := fun cs r h => (t cs r h).bind fun x h1 => match truthV h1 x with
  | some true => a cs r h1
  | some false => b cs r h1
  | none => .bad
noncomputable def kTup (es : SL) : SE := fun cs r h => (es cs r h).bind fun ds h1 => if Nat.ble ds.length LINE then .ok (mkTup ds) h1 else .bad
noncomputable def kImm (l : SL) : SE := fun cs r h => (l cs r h).bind fun ds h1 => .ok (mkLst ds) h1
noncomputable def kMut (l : SL) : SE := fun cs r h => (l cs r h).bind fun ds h1 => .ok (.ref h1.length) (h1 ++ [.lst ds])
noncomputable def kIx (a b : SE) : SE := fun cs r h => (a cs r h).bind fun x h1 => (b cs r h1).bind fun y h2 => opt (ixV h2 x y) h2
noncomputable def cutW (x : D) (xs : List D) (lo hi : Option Int) : D := if Nat.beq (clip xs.length 0 lo) 0 && Nat.beq (clip xs.length xs.length hi) xs.length then x else mkTup (cut xs lo hi)
noncomputable def slP (m : SO) : CSem → Rho → Hh → Res (Option Int) := fun cs r h => (m cs r h).bind fun o h1 => opt (sliceI o) h1
/-- x[l:u] of a tuple, a text -/
noncomputable def cutI (x : D) (l u : Option Int) : Option D := match x with
  | .p (.str z) => if z.length ≤ LINE then some (.p (.str ⟨(cut z.cps.toList l u).toArray⟩)) else none
  | x => match seqT x with
    | some xs => some (cutW x xs l u)
    | none => none
noncomputable def kSl (a : SE) (lo hi : SO) : SE := fun cs r h => (a cs r h).bind fun x h1 => (slP lo cs r h1).bind fun l h2 => (slP hi cs r h2).bind fun u h3 => opt (cutI x l u) h3
/-- behind a call the frame's own cells stand as ahead of it -/
noncomputable def back : List Nat → Hh → Hh → Hh
  | [], _, h' => h'
  | l :: ls, h, h' => match nth h l with
    | some o => back ls h (h'.set l o)
    | none => back ls h h'
noncomputable def Res.back {α : Type} (cl : List Nat) (h : Hh) (m : Res α) : Res α := match m with
  | .ok d h' => .ok d (Y.back cl h h')
  | .exn c fs h' => .exn c fs (Y.back cl h h')
  | .bad => .bad
noncomputable def kCall (iso : Bool) (f : Nat) (es : SL) : SE := fun cs r h => (es cs r h).bind fun ds h1 => match iso with
  | true => isoCall cs f ds h1
  | false => (cs (.fn f) ds h1).back r.cl h1
noncomputable def calV (cs : CSem) (x : D) (ds : List D) (h : Hh) : Res D := match x with
  | .fn i => cs (.fn i) ds h
  | .clo k ls => cs (.clo k ls) ds h
  | _ => .bad
noncomputable def isCal : D → Bool
  | .fn _ => true
  | .clo _ _ => true
  | _ => false
noncomputable def kCval (a : SE) (es : SL) : SE := fun cs r h => (a cs r h).bind fun x h1 => if isCal x then (es cs r h1).bind fun ds h2 => (calV cs x ds h2).back r.cl h2 else .bad
noncomputable def kPr (p : Pr) (es : SL) : SE := fun cs r h => (es cs r h).bind fun ds h1 => opt (prV p h1 ds) h1
noncomputable def kMt (m : Mt) (o : SE) (es : SL) : SE := fun cs r h => (o cs r h).bind fun x h1 => if mkOk m h1 x then (es cs r h1).bind fun ds h2 => mtV m h2 x ds else .bad
noncomputable def locs (cl : List Nat) : List Nat → Option (List Nat)
  | [] => some []
  | j :: js => match nth cl j, locs cl js with
    | some l, some ls => some (l :: ls)
    | _, _ => none
noncomputable def kLam (k : Nat) (js : List Nat) : SE := fun cs r h => match locs r.cl js with
  | some ls => .ok (.clo k ls) h
  | none => .bad
noncomputable def isiV (h : Hh) (x : D) (ts : List String) : Option Bool := match tyD h x with
  | some t => some (ts.any fun u => isT t u)
  | none => none
noncomputable def kIsi (a : SE) (ts : List String) : SE := fun cs r h => (a cs r h).bind fun x h1 => obl (isiV h1 x ts) h1
noncomputable def kDk (ks : List Key) (es : SL) : SE := fun cs r h => (es cs r h).bind fun ds h1 => if Nat.beq ds.length ks.length then .ok (.ref h1.length) (h1 ++ [.dk (ks.zip ds)]) else .bad
noncomputable def kDt0 : SE := fun cs _ h => .ok (.ref h.length) (h ++ [.dt []])
noncomputable def oNo : SO := fun cs _ h => .ok none h
noncomputable def oSo (a : SE) : SO := fun cs r h => (a cs r h).bind fun x h1 => .ok (some x) h1
noncomputable def aNil : SL := fun cs _ h => .ok [] h
noncomputable def aCons (a : SE) (es : SL) : SL := fun cs r h => (a cs r h).bind fun x h1 => (es cs r h1).bind fun ds h2 => .ok (x :: ds) h2
noncomputable def lDisp (es : SL) : SL := fun cs r h => (es cs r h).bind fun ds h1 => if Nat.ble ds.length LINE then .ok ds h1 else .bad
/-- one turn of a comprehension: the target, the test, the element -/
noncomputable def compB (cs : CSem) (t : Tg) (cond : SO) (elt : SE) (r : Rho) (x : D) (h : Hh) : Res (Option D) := match asgT t x r h with
  | some (r', h3) => (cond cs r' h3).bind fun o h4 => match o with
    | none => (elt cs r' h4).bind fun y h5 => .ok (some y) h5
    | some b => match truthV h4 b with
      | some true => (elt cs r' h4).bind fun y h5 => .ok (some y) h5
      | some false => .ok none h4
      | none => .bad
  | none => .bad
noncomputable def lComp (t : Tg) (it : SI) (cond : SO) (elt : SE) : SL := fun cs r h => (it cs r h).bind fun w h1 => if Nat.ble w.len LINE then (compV w (compB cs t cond elt r) h1).calm else .bad
noncomputable def lofV (h : Hh) (x : D) : Option (List D) := match seqT x with
  | some xs => some xs
  | none => seqL h x
noncomputable def lLof (a : SE) : SL := fun cs r h => (a cs r h).bind fun x h1 => opt (lofV h1 x) h1
noncomputable def srtV (h : Hh) (x : D) : Option (List D) := match plainS h x with
  | some (false, ps) => if sortOk ps then some ((sortD ps).map .p) else none
  | _ => none
noncomputable def lSrt (a : SE) : SL := fun cs r h => (a cs r h).bind fun x h1 => opt (srtV h1 x) h1
noncomputable def repV (xs : List D) (y : D) : Option (List D) := match y with
  | .p (.int k) => if Nat.ble (xs.length * k.toNat) LINE && small62 k then some (List.replicate k.toNat xs).flatten else none
  | _ => none
noncomputable def lRep (a : SL) (b : SE) : SL := fun cs r h => (a cs r h).bind fun xs h1 => (b cs r h1).bind fun y h2 => opt (repV xs y) h2
noncomputable def catV (h : Hh) (x y : D) : Option (List D) := match seqL h x, seqL h y with
  | some xs, some ys => if Nat.ble (xs.length + ys.length) LINE then some (xs ++ ys) else none
  | _, _ => none
noncomputable def lCat (a b : SE) : SL := fun cs r h => (a cs r h).bind fun x h1 => (b cs r h1).bind fun y h2 => opt (catV h2 x y) h2
noncomputable def cutL (h : Hh) (x : D) (l u : Option Int) : Option (List D) := match seqL h x with
  | some xs => some (cut xs l u)
  | none => none
noncomputable def lSll (a : SE) (lo hi : SO) : SL := fun cs r h => (a cs r h).bind fun x h1 => (slP lo cs r h1).bind fun l h2 => (slP hi cs r h2).bind fun u h3 => opt (cutL h3 x l u) h3
noncomputable def lRev (a : SE) : SL := fun cs r h => (a cs r h).bind fun x h1 => match seqL h1 x with
  | some xs => .ok xs.reverse h1
  | none => .bad
/-- what never changes while it is walked -/
noncomputable def walkV (h : Hh) (x : D) : Option Wk := match x with
  | .p (.str s) => some (.fx (s.cps.toList.map fun c => .p (.str ⟨#[c]⟩)))
  | .ref l => (match nth h l with
    | some (.lst xs) => some (.rd l xs.length)
    | _ => none)
  | x => match seqT x with
    | some xs => some (.fx xs)
    | none => match seqF x with
      | some xs => some (.fx xs)
      | none => none
noncomputable def iIt (a : SE) : SI := fun cs r h => (a cs r h).bind fun x h1 => opt (walkV h1 x) h1
noncomputable def rngV (x y z : D) : Option Wk := match x, y, z with
  | .p (.int i), .p (.int j), .p (.int c) => if Builtin.Range.small i j c && !decide (c = 0) && Nat.blt c.natAbs 1000000 then some (.fx (rangeI i (rngN i j c) c)) else none
  | _, _, _ => none
noncomputable def rngV1 (x y : D) : Option Wk := match x, y with
  | .p (.int i), .p (.int j) => if small62 i && small62 j then some (.fx (rangeI i (j - i).toNat 1)) else none
  | _, _ => none
noncomputable def iRng1 (a : SE) : SI := fun cs r h => (a cs r h).bind fun x h1 => opt (rngV1 (.p (.int 0)) x) h1
noncomputable def iRng2 (a b : SE) : SI := fun cs r h => (a cs r h).bind fun x h1 => (b cs r h1).bind fun y h2 => opt (rngV1 x y) h2
noncomputable def iRng3 (a b c : SE) : SI := fun cs r h => (a cs r h).bind fun x h1 => (b cs r h1).bind fun y h2 => (c cs r h2).bind fun z h3 => opt (rngV x y z) h3
noncomputable def seqTF (x : D) : Option (List D) := match seqT x with
  | some xs => some xs
  | none => seqF x
noncomputable def enuV (x : D) : Option Wk := match seqF x with
  | some xs => some (.fx (enumI xs))
  | none => none
noncomputable def iEnu (a : SE) : SI := fun cs r h => (a cs r h).bind fun x h1 => opt (enuV x) h1
noncomputable def zipV (x y : D) : Option Wk := match seqT x, seqT y with
  | some xs, some ys => some (.fx (zipI xs ys))
  | _, _ => match seqF x, seqF y with
    | some xs, some ys => some (.fx (zipI xs ys))
    | _, _ => none
noncomputable def iZip (a b : SE) : SI := fun cs r h => (a cs r h).bind fun x h1 => (b cs r h1).bind fun y h2 => opt (zipV x y) h2
--<evs>
noncomputable def ev (e : E) : SE := E.rec (motive_1 := fun _ => SE) (motive_2 := fun _ => SO) (motive_3 := fun _ => SL) (motive_4 := fun _ => SL) (motive_5 := fun _ => SI)
  (fun i => kV i)
  (fun j => kCv j)
  (fun d => kC (.p d))
  (fun x d => kC (.p d))
  (fun i => kC (.fn i))
  (fun o a b x_a x_b => kBin o x_a x_b)
  (fun a x_a => kNeg x_a)
  (fun o a b x_a x_b => kCmp o x_a x_b)
  (fun o1 o2 a b c x_a x_b x_c => kChn o1 o2 x_a x_b x_c)
  (fun a b x_a x_b => kAnd x_a x_b)
  (fun a b x_a x_b => kOr x_a x_b)
  (fun a x_a => kNot x_a)
  (fun t a b x_t x_a x_b => kIf x_t x_a x_b)
  (fun es x_es => kTup x_es)
  (fun l x_l => kImm x_l)
  (fun l x_l => kMut x_l)
  (fun a b x_a x_b => kIx x_a x_b)
  (fun a lo hi x_a x_lo x_hi => kSl x_a x_lo x_hi)
  (fun iso f es x_es => kCall iso f x_es)
  (fun a es x_a x_es => kCval x_a x_es)
  (fun p es x_es => kPr p x_es)
  (fun m o es x_o x_es => kMt m x_o x_es)
  (fun k js => kLam k js)
  (fun a ts x_a => kIsi x_a ts)
  (fun ks es x_es => kDk ks x_es)
  (kDt0)
  (oNo)
  (fun a x_a => oSo x_a)
  (aNil)
  (fun a es x_a x_es => aCons x_a x_es)
  (fun es x_es => lDisp x_es)
  (fun t it cond elt x_it x_cond x_elt => lComp t x_it x_cond x_elt)
  (fun a x_a => lLof x_a)
  (fun a x_a => lSrt x_a)
  (fun a b x_a x_b => lRep x_a x_b)
  (fun a b x_a x_b => lCat x_a x_b)
  (fun a lo hi x_a x_lo x_hi => lSll x_a x_lo x_hi)
  (fun a x_a => lRev x_a)
  (fun a x_a => iIt x_a)
  (fun a x_a => iRng1 x_a)
  (fun a b x_a x_b => iRng2 x_a x_b)
  (fun a b c x_a x_b x_c => iRng3 x_a x_b x_c)
  (fun a x_a => iEnu x_a)
  (fun a b x_a x_b => iZip x_a x_b) e
noncomputable def evO (e : O) : SO := O.rec (motive_1 := fun _ => SE) (motive_2 := fun _ => SO) (motive_3 := fun _ => SL) (motive_4 := fun _ => SL) (motive_5 := fun _ => SI)
  (fun i => kV i)
  (fun j => kCv j)
  (fun d => kC (.p d))
  (fun x d => kC (.p d))
  (fun i => kC (.fn i))
  (fun o a b x_a x_b => kBin o x_a x_b)
  (fun a x_a => kNeg x_a)
  (fun o a b x_a x_b => kCmp o x_a x_b)
  (fun o1 o2 a b c x_a x_b x_c => kChn o1 o2 x_a x_b x_c)
  (fun a b x_a x_b => kAnd x_a x_b)
  (fun a b x_a x_b => kOr x_a x_b)
  (fun a x_a => kNot x_a)
  (fun t a b x_t x_a x_b => kIf x_t x_a x_b)
  (fun es x_es => kTup x_es)
  (fun l x_l => kImm x_l)
  (fun l x_l => kMut x_l)
  (fun a b x_a x_b => kIx x_a x_b)
  (fun a lo hi x_a x_lo x_hi => kSl x_a x_lo x_hi)
  (fun iso f es x_es => kCall iso f x_es)
  (fun a es x_a x_es => kCval x_a x_es)
  (fun p es x_es => kPr p x_es)
  (fun m o es x_o x_es => kMt m x_o x_es)
  (fun k js => kLam k js)
  (fun a ts x_a => kIsi x_a ts)
  (fun ks es x_es => kDk ks x_es)
  (kDt0)
  (oNo)
  (fun a x_a => oSo x_a)
  (aNil)
  (fun a es x_a x_es => aCons x_a x_es)
  (fun es x_es => lDisp x_es)
  (fun t it cond elt x_it x_cond x_elt => lComp t x_it x_cond x_elt)
  (fun a x_a => lLof x_a)
  (fun a x_a => lSrt x_a)
  (fun a b x_a x_b => lRep x_a x_b)
  (fun a b x_a x_b => lCat x_a x_b)
  (fun a lo hi x_a x_lo x_hi => lSll x_a x_lo x_hi)
  (fun a x_a => lRev x_a)
  (fun a x_a => iIt x_a)
  (fun a x_a => iRng1 x_a)
  (fun a b x_a x_b => iRng2 x_a x_b)
  (fun a b c x_a x_b x_c => iRng3 x_a x_b x_c)
  (fun a x_a => iEnu x_a)
  (fun a b x_a x_b => iZip x_a x_b) e
noncomputable def evs (e : A) : SL := A.rec (motive_1 := fun _ => SE) (motive_2 := fun _ => SO) (motive_3 := fun _ => SL) (motive_4 := fun _ => SL) (motive_5 := fun _ => SI)
  (fun i => kV i)
  (fun j => kCv j)
  (fun d => kC (.p d))
  (fun x d => kC (.p d))
  (fun i => kC (.fn i))
  (fun o a b x_a x_b => kBin o x_a x_b)
  (fun a x_a => kNeg x_a)
  (fun o a b x_a x_b => kCmp o x_a x_b)
  (fun o1 o2 a b c x_a x_b x_c => kChn o1 o2 x_a x_b x_c)
  (fun a b x_a x_b => kAnd x_a x_b)
  (fun a b x_a x_b => kOr x_a x_b)
  (fun a x_a => kNot x_a)
  (fun t a b x_t x_a x_b => kIf x_t x_a x_b)
  (fun es x_es => kTup x_es)
  (fun l x_l => kImm x_l)
  (fun l x_l => kMut x_l)
  (fun a b x_a x_b => kIx x_a x_b)
  (fun a lo hi x_a x_lo x_hi => kSl x_a x_lo x_hi)
  (fun iso f es x_es => kCall iso f x_es)
  (fun a es x_a x_es => kCval x_a x_es)
  (fun p es x_es => kPr p x_es)
  (fun m o es x_o x_es => kMt m x_o x_es)
  (fun k js => kLam k js)
  (fun a ts x_a => kIsi x_a ts)
  (fun ks es x_es => kDk ks x_es)
  (kDt0)
  (oNo)
  (fun a x_a => oSo x_a)
  (aNil)
  (fun a es x_a x_es => aCons x_a x_es)
  (fun es x_es => lDisp x_es)
  (fun t it cond elt x_it x_cond x_elt => lComp t x_it x_cond x_elt)
  (fun a x_a => lLof x_a)
  (fun a x_a => lSrt x_a)
  (fun a b x_a x_b => lRep x_a x_b)
  (fun a b x_a x_b => lCat x_a x_b)
  (fun a lo hi x_a x_lo x_hi => lSll x_a x_lo x_hi)
  (fun a x_a => lRev x_a)
  (fun a x_a => iIt x_a)
  (fun a x_a => iRng1 x_a)
  (fun a b x_a x_b => iRng2 x_a x_b)
  (fun a b c x_a x_b x_c => iRng3 x_a x_b x_c)
  (fun a x_a => iEnu x_a)
  (fun a b x_a x_b => iZip x_a x_b) e
noncomputable def evL (e : L) : SL := L.rec (motive_1 := fun _ => SE) (motive_2 := fun _ => SO) (motive_3 := fun _ => SL) (motive_4 := fun _ => SL) (motive_5 := fun _ => SI)
  (fun i => kV i)
  (fun j => kCv j)
  (fun d => kC (.p d))
  (fun x d => kC (.p d))
  (fun i => kC (.fn i))
  (fun o a b x_a x_b => kBin o x_a x_b)
  (fun a x_a => kNeg x_a)
  (fun o a b x_a x_b => kCmp o x_a x_b)
  (fun o1 o2 a b c x_a x_b x_c => kChn o1 o2 x_a x_b x_c)
  (fun a b x_a x_b => kAnd x_a x_b)
  (fun a b x_a x_b => kOr x_a x_b)
  (fun a x_a => kNot x_a)
  (fun t a b x_t x_a x_b => kIf x_t x_a x_b)
  (fun es x_es => kTup x_es)
  (fun l x_l => kImm x_l)
  (fun l x_l => kMut x_l)
  (fun a b x_a x_b => kIx x_a x_b)
  (fun a lo hi x_a x_lo x_hi => kSl x_a x_lo x_hi)
  (fun iso f es x_es => kCall iso f x_es)
  (fun a es x_a x_es => kCval x_a x_es)
  (fun p es x_es => kPr p x_es)
  (fun m o es x_o x_es => kMt m x_o x_es)
  (fun k js => kLam k js)
  (fun a ts x_a => kIsi x_a ts)
  (fun ks es x_es => kDk ks x_es)
  (kDt0)
  (oNo)
  (fun a x_a => oSo x_a)
  (aNil)
  (fun a es x_a x_es => aCons x_a x_es)
  (fun es x_es => lDisp x_es)
  (fun t it cond elt x_it x_cond x_elt => lComp t x_it x_cond x_elt)
  (fun a x_a => lLof x_a)
  (fun a x_a => lSrt x_a)
  (fun a b x_a x_b => lRep x_a x_b)
  (fun a b x_a x_b => lCat x_a x_b)
  (fun a lo hi x_a x_lo x_hi => lSll x_a x_lo x_hi)
  (fun a x_a => lRev x_a)
  (fun a x_a => iIt x_a)
  (fun a x_a => iRng1 x_a)
  (fun a b x_a x_b => iRng2 x_a x_b)
  (fun a b c x_a x_b x_c => iRng3 x_a x_b x_c)
  (fun a x_a => iEnu x_a)
  (fun a b x_a x_b => iZip x_a x_b) e
noncomputable def evI (e : I) : SI := I.rec (motive_1 := fun _ => SE) (motive_2 := fun _ => SO) (motive_3 := fun _ => SL) (motive_4 := fun _ => SL) (motive_5 := fun _ => SI)
  (fun i => kV i)
  (fun j => kCv j)
  (fun d => kC (.p d))
  (fun x d => kC (.p d))
  (fun i => kC (.fn i))
  (fun o a b x_a x_b => kBin o x_a x_b)
  (fun a x_a => kNeg x_a)
  (fun o a b x_a x_b => kCmp o x_a x_b)
  (fun o1 o2 a b c x_a x_b x_c => kChn o1 o2 x_a x_b x_c)
  (fun a b x_a x_b => kAnd x_a x_b)
  (fun a b x_a x_b => kOr x_a x_b)
  (fun a x_a => kNot x_a)
  (fun t a b x_t x_a x_b => kIf x_t x_a x_b)
  (fun es x_es => kTup x_es)
  (fun l x_l => kImm x_l)
  (fun l x_l => kMut x_l)
  (fun a b x_a x_b => kIx x_a x_b)
  (fun a lo hi x_a x_lo x_hi => kSl x_a x_lo x_hi)
  (fun iso f es x_es => kCall iso f x_es)
  (fun a es x_a x_es => kCval x_a x_es)
  (fun p es x_es => kPr p x_es)
  (fun m o es x_o x_es => kMt m x_o x_es)
  (fun k js => kLam k js)
  (fun a ts x_a => kIsi x_a ts)
  (fun ks es x_es => kDk ks x_es)
  (kDt0)
  (oNo)
  (fun a x_a => oSo x_a)
  (aNil)
  (fun a es x_a x_es => aCons x_a x_es)
  (fun es x_es => lDisp x_es)
  (fun t it cond elt x_it x_cond x_elt => lComp t x_it x_cond x_elt)
  (fun a x_a => lLof x_a)
  (fun a x_a => lSrt x_a)
  (fun a b x_a x_b => lRep x_a x_b)
  (fun a b x_a x_b => lCat x_a x_b)
  (fun a lo hi x_a x_lo x_hi => lSll x_a x_lo x_hi)
  (fun a x_a => lRev x_a)
  (fun a x_a => iIt x_a)
  (fun a x_a => iRng1 x_a)
  (fun a b x_a x_b => iRng2 x_a x_b)
  (fun a b c x_a x_b x_c => iRng3 x_a x_b x_c)
  (fun a x_a => iEnu x_a)
  (fun a b x_a x_b => iZip x_a x_b) e
theorem ev_v {i : Nat} : ev (.v i) = kV i := rfl
theorem ev_cv {j : Nat} : ev (.cv j) = kCv j := rfl
theorem ev_c {d : PyData} : ev (.c d) = kC (.p d) := rfl
theorem ev_g {x : Str} {d : PyData} : ev (.g x d) = kC (.p d) := rfl
theorem ev_fv {i : Nat} : ev (.fv i) = kC (.fn i) := rfl
theorem ev_bin {o : Bop} {a : E} {b : E} : ev (.bin o a b) = kBin o (ev a) (ev b) := rfl
theorem ev_neg {a : E} : ev (.neg a) = kNeg (ev a) := rfl
theorem ev_cmp {o : Cop} {a : E} {b : E} : ev (.cmp o a b) = kCmp o (ev a) (ev b) := rfl
theorem ev_chn {o1 : Cop} {o2 : Cop} {a : E} {b : E} {c : E} : ev (.chn o1 o2 a b c) = kChn o1 o2 (ev a) (ev b) (ev c) := rfl
theorem ev_and {a : E} {b : E} : ev (.and a b) = kAnd (ev a) (ev b) := rfl
theorem ev_or {a : E} {b : E} : ev (.or a b) = kOr (ev a) (ev b) := rfl
theorem ev_not {a : E} : ev (.not a) = kNot (ev a) := rfl
theorem ev_ife {t : E} {a : E} {b : E} : ev (.ife t a b) = kIf (ev t) (ev a) (ev b) := rfl
theorem ev_tup {es : A} : ev (.tup es) = kTup (evs es) := rfl
theorem ev_imm {l : L} : ev (.imm l) = kImm (evL l) := rfl
theorem ev_mut {l : L} : ev (.mut l) = kMut (evL l) := rfl
theorem ev_ix {a : E} {b : E} : ev (.ix a b) = kIx (ev a) (ev b) := rfl
theorem ev_sl {a : E} {lo : O} {hi : O} : ev (.sl a lo hi) = kSl (ev a) (evO lo) (evO hi) := rfl
theorem ev_call {iso : Bool} {f : Nat} {es : A} : ev (.call iso f es) = kCall iso f (evs es) := rfl
theorem ev_cval {a : E} {es : A} : ev (.cval a es) = kCval (ev a) (evs es) := rfl
theorem ev_pr {p : Pr} {es : A} : ev (.pr p es) = kPr p (evs es) := rfl
theorem ev_mt {m : Mt} {o : E} {es : A} : ev (.mt m o es) = kMt m (ev o) (evs es) := rfl
theorem ev_lam {k : Nat} {js : (List Nat)} : ev (.lam k js) = kLam k js := rfl
theorem ev_isi {a : E} {ts : (List String)} : ev (.isi a ts) = kIsi (ev a) ts := rfl
theorem ev_dk {ks : (List Key)} {es : A} : ev (.dk ks es) = kDk ks (evs es) := rfl
theorem ev_dt0 : ev (.dt0) = kDt0 := rfl
theorem evO_no : evO (.no) = oNo := rfl
theorem evO_so {a : E} : evO (.so a) = oSo (ev a) := rfl
theorem evs_nil : evs (.nil) = aNil := rfl
theorem evs_cons {a : E} {es : A} : evs (.cons a es) = aCons (ev a) (evs es) := rfl
theorem evL_disp {es : A} : evL (.disp es) = lDisp (evs es) := rfl
theorem evL_comp {t : Tg} {it : I} {cond : O} {elt : E} : evL (.comp t it cond elt) = lComp t (evI it) (evO cond) (ev elt) := rfl
theorem evL_lof {a : E} : evL (.lof a) = lLof (ev a) := rfl
theorem evL_srt {a : E} : evL (.srt a) = lSrt (ev a) := rfl
theorem evL_rep {a : L} {b : E} : evL (.rep a b) = lRep (evL a) (ev b) := rfl
theorem evL_cat {a : E} {b : E} : evL (.cat a b) = lCat (ev a) (ev b) := rfl
theorem evL_sll {a : E} {lo : O} {hi : O} : evL (.sll a lo hi) = lSll (ev a) (evO lo) (evO hi) := rfl
theorem evL_rev {a : E} : evL (.rev a) = lRev (ev a) := rfl
theorem evI_it {a : E} : evI (.it a) = iIt (ev a) := rfl
theorem evI_rng1 {a : E} : evI (.rng1 a) = iRng1 (ev a) := rfl
theorem evI_rng2 {a : E} {b : E} : evI (.rng2 a b) = iRng2 (ev a) (ev b) := rfl
theorem evI_rng3 {a : E} {b : E} {c : E} : evI (.rng3 a b c) = iRng3 (ev a) (ev b) (ev c) := rfl
theorem evI_enu {a : E} : evI (.enu a) = iEnu (ev a) := rfl
theorem evI_zip {a : E} {b : E} : evI (.zip a b) = iZip (ev a) (ev b) := rfl
--</evs>
/-! ### statements -/
/-- what stands in the tuple that an except suite returns -/
inductive XI where
  | c (d : PyData)
  | f (k : Nat)
--<sind>
inductive S where
  | skip
  | seq (a : S) (b : S)
  | asg (t : Tg) (e : E)
  | aug (t : Tg) (o : Bop) (e : E)
  | set (o : E) (i : E) (e : E)
  | augs (o : E) (i : E) (op : Bop) (e : E)
  | ex (e : E)
  | ret (e : E)
  | retn
  | ite (c : E) (a : S) (b : S)
  | for_ (t : Tg) (it : I) (b : S)
  | fork (t : Tg) (e : E) (b : S)
  | while_ (c : E) (b : S)
  | brk
  | cnt
  | raise (c : Nat) (es : A)
  | tryx (b : S) (hs : (List (Nat × Nat × List XI)))
  | frz (i : Nat)
--</sind>

/-- one turn ahead of the next: the test, the body -/
noncomputable def whileF (test : Rho → Hh → Res Bool) (body : Rho → Hh → SR) : Nat → Rho → Hh → SR
  | 0, _, _ => .bad
  | n + 1, r, h => match test r h with
    | .ok true h1 => match body r h1 with
      | .nx r2 h2 => whileF test body n r2 h2
      | .ct r2 h2 => whileF test body n r2 h2
      | .bk r2 h2 => .nx r2 h2
      | .rt d h2 => .rt d h2
      | .exn c fs r2 h2 => .exn c fs r2 h2
      | .bad => .bad
    | .ok false h1 => .nx r h1
    | .exn c fs h1 => .exn c fs r h1
    | .bad => .bad
noncomputable def FUEL : Nat := 1000000

noncomputable def keysD : Ob → Option (List D)
  | .dk kvs => some (kvs.map fun p => match p.1 with
    | .inl i => .p (.int i)
    | .inr x => .p (.str x))
  | .dt kvs => some (kvs.map fun p => .p (.tuple (p.1.map fun k => match k with
    | .inl i => .int i
    | .inr x => .str x)))
  | _ => none
/-- behind a locked loop -/
noncomputable def unlock (l : Nat) (o : Ob) : SR → SR
  | .nx r h => match nth h l with
    | some (.lk _) => .nx r (h.set l o)
    | _ => .bad
  | .rt d h => match nth h l with
    | some (.lk _) => .rt d (h.set l o)
    | _ => .bad
  | _ => .bad
noncomputable def xiV (fs : List D) : XI → Option D
  | .c d => some (.p d)
  | .f k => nth fs k
noncomputable def catch_ (hs : List (Nat × Nat × List XI)) (c : Nat) (fs : List D) (r : Rho) (h : Hh) : SR := match hs with
  | [] => .exn c fs r h
  | (c', _, xs) :: rest => if c' = c then (match xs.mapM (xiV fs) with
    | some ds => .rt (mkTup ds) h
    | none => .bad) else catch_ rest c fs r h

abbrev SS := CSem → Rho → Hh → SR
noncomputable def sSkip : SS := fun cs r h => .nx r h
noncomputable def sSeq (a b : SS) : SS := fun cs r h => match a cs r h with
  | .nx r1 h1 => b cs r1 h1
  | .rt d h1 => .rt d h1
  | .bk r1 h1 => .bk r1 h1
  | .ct r1 h1 => .ct r1 h1
  | .exn c fs r1 h1 => .exn c fs r1 h1
  | .bad => .bad
noncomputable def asgS (t : Tg) (x : D) (r : Rho) (h : Hh) : SR := match asgT t x r h with
  | some (r2, h2) => .nx r2 h2
  | none => .bad
/-- a statement that begins with an expression -/
noncomputable def thenS {α : Type} (m : Res α) (r : Rho) (f : α → Hh → SR) : SR := match m with
  | .ok a h => f a h
  | .exn c fs h => .exn c fs r h
  | .bad => .bad
noncomputable def sAsg (t : Tg) (e : SE) : SS := fun cs r h => thenS (e cs r h) r fun x h1 => asgS t x r h1
noncomputable def readT (t : Tg) (r : Rho) (h : Hh) : Option D := match t with
  | .nm i => match nth r.sl i with
    | some (some d) => some d
    | _ => none
  | .cn j => match nth r.cl j with
    | some l => match nth h l with
      | some (.cell (some d)) => some d
      | _ => none
    | none => none
  | _ => none
noncomputable def augV (o : Bop) (a b : D) : Option D := match a with
  | .p (.int i) => (match b with
    | .p (.int j) => (match o with
      | .add => some (.p (.int (i + j)))
      | .sub => some (.p (.int (i - j)))
      | _ => none)
    | _ => none)
  | _ => none
noncomputable def sAug (t : Tg) (o : Bop) (e : SE) : SS := fun cs r h => match readT t r h with
  | some d => thenS (e cs r h) r fun x h1 => match augV o d x with
    | some y => asgS t y r h1
    | none => .bad
  | none => .bad
noncomputable def nxO (r : Rho) (o : Option Hh) : SR := match o with
  | some h => .nx r h
  | none => .bad
noncomputable def sSet (o i : SE) (e : SE) : SS := fun cs r h => thenS (e cs r h) r fun x h1 => thenS (o cs r h1) r fun y h2 => thenS (i cs r h2) r fun z h3 => nxO r (setV h3 y z x)
/-- o[i] of a list or a dict that may be written -/
noncomputable def getV (h : Hh) (o i : D) : Option D := match o with
  | .ref l => (match nth h l with
    | some (.lst xs) => (match i with
      | .p (.int i) => atI xs i
      | _ => none)
    | _ => (match dget h o i with
      | some (some d) => some d
      | _ => none))
  | _ => none
noncomputable def sAugs (o i : SE) (op : Bop) (e : SE) : SS := fun cs r h => thenS (o cs r h) r fun y h1 => thenS (i cs r h1) r fun z h2 => match getV h2 y z with
  | some a => thenS (e cs r h2) r fun x h3 => match augV op a x with
    | some b => nxO r (setV h3 y z b)
    | none => .bad
  | none => .bad
noncomputable def sEx (e : SE) : SS := fun cs r h => thenS (e cs r h) r fun _ h1 => .nx r h1
noncomputable def sRet (e : SE) : SS := fun cs r h => thenS (e cs r h) r fun d h1 => .rt d h1
noncomputable def sRetn : SS := fun cs _ h => .rt (.p .none) h
noncomputable def testE (cs : CSem) (c : SE) (r : Rho) (h : Hh) : Res Bool := (c cs r h).bind fun x h1 => opt (truthV h1 x) h1
noncomputable def sIte (c : SE) (a b : SS) : SS := fun cs r h => thenS (testE cs c r h) r fun k h1 => match k with
  | true => a cs r h1
  | false => b cs r h1
/-- a loop's turn behind the item's storing -/
noncomputable def turnS (s : SR) (f : Rho → Hh → SR) : SR := match s with
  | .nx r2 h2 => f r2 h2
  | .ct r2 h2 => f r2 h2
  | .bk r2 h2 => .nx r2 h2
  | .rt d h2 => .rt d h2
  | .exn c fs r2 h2 => .exn c fs r2 h2
  | .bad => .bad
noncomputable def forL (body : Rho → Hh → SR) (t : Tg) : List D → Rho → Hh → SR
  | [], r, h => .nx r h
  | x :: xs, r, h => match asgT t x r h with
    | none => .bad
    | some (r1, h1) => turnS (body r1 h1) (forL body t xs)
noncomputable def forW (w : Wk) (body : Rho → Hh → SR) (t : Tg) : Nat → Nat → Rho → Hh → SR
  | 0, _, r, h => if w.fin h then .nx r h else .bad
  | k + 1, i, r, h => match w.at i h with
    | some x => (match asgT t x r h with
      | none => .bad
      | some (r1, h1) => turnS (body r1 h1) (forW w body t k (i + 1)))
    | none => .bad
noncomputable def forV (w : Wk) (body : Rho → Hh → SR) (t : Tg) (r : Rho) (h : Hh) : SR := match w with
  | .fx ds => forL body t ds r h
  | .rd l n => forW (.rd l n) body t n 0 r h
noncomputable def sFor (t : Tg) (it : SI) (b : SS) : SS := fun cs r h => thenS (it cs r h) r fun w h1 => forV w (b cs) t r h1
noncomputable def forK (t : Tg) (b : Rho → Hh → SR) (d : D) (r : Rho) (h : Hh) : SR := match d with
  | .ref l => match nth h l with
    | some o => match keysD o with
      | some ks => unlock l o (forL b t ks r (h.set l (.lk o)))
      | none => .bad
    | none => .bad
  | _ => .bad
noncomputable def sFork (t : Tg) (e : SE) (b : SS) : SS := fun cs r h => thenS (e cs r h) r fun d h1 => forK t (b cs) d r h1
noncomputable def sWhile (c : SE) (b : SS) : SS := fun cs r h => whileF (testE cs c) (b cs) FUEL r h
noncomputable def sBrk : SS := fun cs r h => .bk r h
noncomputable def sCnt : SS := fun cs r h => .ct r h
noncomputable def sRaise (c : Nat) (es : SL) : SS := fun cs r h => thenS (es cs r h) r fun ds h1 => .exn c ds r h1
noncomputable def sTry (b : SS) (hs : List (Nat × Nat × List XI)) : SS := fun cs r h => match b cs r h with
  | .exn c fs r1 h1 => catch_ hs c fs r1 h1
  | .nx r1 h1 => .nx r1 h1
  | .rt d h1 => .rt d h1
  | .bk r1 h1 => .bk r1 h1
  | .ct r1 h1 => .ct r1 h1
  | .bad => .bad
noncomputable def frzV (i : Nat) (r : Rho) (h : Hh) : Option (Rho × Hh) := match nth r.sl i with
  | some (some (.ref l)) => (match nth h l with
    | some (.lst ds) => some (⟨r.sl.set i (some (mkLst ds)), r.cl⟩, h.set l .dead)
    | _ => none)
  | some (some _) => some (r, h)
  | _ => none
noncomputable def sFrz (i : Nat) : SS := fun cs r h => match frzV i r h with
  | some (r', h') => .nx r' h'
  | none => .bad
--<sevs>
noncomputable def ex (e : S) : SS := S.rec (motive := fun _ => SS)
  (sSkip)
  (fun a b x_a x_b => sSeq x_a x_b)
  (fun t e => sAsg t (ev e))
  (fun t o e => sAug t o (ev e))
  (fun o i e => sSet (ev o) (ev i) (ev e))
  (fun o i op e => sAugs (ev o) (ev i) op (ev e))
  (fun e => sEx (ev e))
  (fun e => sRet (ev e))
  (sRetn)
  (fun c a b x_a x_b => sIte (ev c) x_a x_b)
  (fun t it b x_b => sFor t (evI it) x_b)
  (fun t e b x_b => sFork t (ev e) x_b)
  (fun c b x_b => sWhile (ev c) x_b)
  (sBrk)
  (sCnt)
  (fun c es => sRaise c (evs es))
  (fun b hs x_b => sTry x_b hs)
  (fun i => sFrz i) e
theorem ex_skip : ex (.skip) = sSkip := rfl
theorem ex_seq {a : S} {b : S} : ex (.seq a b) = sSeq (ex a) (ex b) := rfl
theorem ex_asg {t : Tg} {e : E} : ex (.asg t e) = sAsg t (ev e) := rfl
theorem ex_aug {t : Tg} {o : Bop} {e : E} : ex (.aug t o e) = sAug t o (ev e) := rfl
theorem ex_set {o : E} {i : E} {e : E} : ex (.set o i e) = sSet (ev o) (ev i) (ev e) := rfl
theorem ex_augs {o : E} {i : E} {op : Bop} {e : E} : ex (.augs o i op e) = sAugs (ev o) (ev i) op (ev e) := rfl
theorem ex_ex {e : E} : ex (.ex e) = sEx (ev e) := rfl
theorem ex_ret {e : E} : ex (.ret e) = sRet (ev e) := rfl
theorem ex_retn : ex (.retn) = sRetn := rfl
theorem ex_ite {c : E} {a : S} {b : S} : ex (.ite c a b) = sIte (ev c) (ex a) (ex b) := rfl
theorem ex_for_ {t : Tg} {it : I} {b : S} : ex (.for_ t it b) = sFor t (evI it) (ex b) := rfl
theorem ex_fork {t : Tg} {e : E} {b : S} : ex (.fork t e b) = sFork t (ev e) (ex b) := rfl
theorem ex_while_ {c : E} {b : S} : ex (.while_ c b) = sWhile (ev c) (ex b) := rfl
theorem ex_brk : ex (.brk) = sBrk := rfl
theorem ex_cnt : ex (.cnt) = sCnt := rfl
theorem ex_raise {c : Nat} {es : A} : ex (.raise c es) = sRaise c (evs es) := rfl
theorem ex_tryx {b : S} {hs : (List (Nat × Nat × List XI))} : ex (.tryx b hs) = sTry (ex b) hs := rfl
theorem ex_frz {i : Nat} : ex (.frz i) = sFrz i := rfl
--</sevs>
structure Fn where
  np : Nat
  ns : Nat
  caps : List Nat
  cut : Bool
  body : S
structure Lm where
  np : Nat
  ncap : Nat
  body : E
structure Prog where
  fn : Nat → Option Fn
  lm : Nat → Option Lm
noncomputable def SR.toR : SR → Res D
  | .rt d h => .ok d h
  | .nx _ h => .ok (.p .none) h
  | .exn c fs _ h => .exn c fs h
  | _ => .bad
mutual
/-- nothing in it points beyond the first n places -/
noncomputable def oldOk (n : Nat) : D → Bool
  | .p _ => true
  | .ref l => Nat.blt l n
  | .fn _ => true
  | .clo _ ls => ls.all fun l => Nat.blt l n
  | .tup ds => oldsOk n ds
  | .lst ds => oldsOk n ds
noncomputable def oldsOk (n : Nat) : List D → Bool
  | [] => true
  | d :: ds => oldOk n d && oldsOk n ds
end
noncomputable def obOld (n : Nat) : Ob → Bool
  | .lst ds => oldsOk n ds
  | .dk kvs => kvs.all fun p => oldOk n p.2
  | .dt kvs => kvs.all fun p => oldOk n p.2
  | .lk o => obOld n o
  | .ins _ fs => fs.all fun p => oldOk n p.2
  | .cell d => match d with
    | some d => oldOk n d
    | none => true
  | .dead => true
/-- behind a def with cells of its own: what it made is forgotten -/
noncomputable def cutF (n : Nat) (m : Res D) : Res D := match m with
  | .ok d h => if oldOk n d && (h.take n).all (obOld n) then .ok d (h.take n) else .bad
  | _ => .bad
noncomputable def cellsF (F : Fn) (ds : List D) : Hh := F.caps.map fun i => .cell (nth ds i)
noncomputable def frameF (F : Fn) (ds : List D) (n : Nat) : Rho := ⟨ds.map some ++ List.replicate (F.ns - F.np) none, (List.range F.caps.length).map (n + ·)⟩
noncomputable def runFn (F : Fn) (cs : CSem) (ds : List D) (h : Hh) : Res D :=
  if Nat.beq ds.length F.np then (match F.cut with
    | false => (match F.caps with
      | [] => (ex F.body cs (frameF F ds h.length) h).toR
      | _ => .bad)
    | true => cutF h.length (ex F.body cs (frameF F ds h.length) (h ++ cellsF F ds)).toR) else .bad
noncomputable def isCell (h : Hh) (l : Nat) : Bool := match nth h l with
  | some (.cell _) => true
  | _ => false
noncomputable def apart : List Nat → Bool
  | [] => true
  | l :: ls => ls.all (fun m => !Nat.beq l m) && apart ls
noncomputable def runLm (L : Lm) (cs : CSem) (ls : List Nat) (ds : List D) (h : Hh) : Res D :=
  if Nat.beq ds.length L.np && (Nat.beq ls.length L.ncap && (ls.all (isCell h) && apart ls)) then ev L.body cs ⟨ds.map some, ls⟩ h else .bad
noncomputable def CS (P : Prog) : Nat → CSem
  | 0 => fun _ _ _ => .bad
  | n + 1 => fun c ds h => match c with
    | .fn i => match P.fn i with
      | some F => runFn F (CS P n) ds h
      | none => .bad
    | .clo k ls => match P.lm k with
      | some L => runLm L (CS P n) ls ds h
      | none => .bad
end Y

/-! Y2: how values and heaps of the evaluator stand in the model's heap. -/
namespace Y
open PySem PySem.Spec PyProof.Rows L2

/-- what a lambda's text is -/
structure LamT where
  params : Arguments
  body : PySem.Expr
  scope : Scope
  qual : Str
  caps : List Str
/-- what is fixed for a law -/
structure Gd where
  K : PySem.W.Frag
  fadr : Nat → Addr
  cadr : Nat → Addr
  cfld : Nat → List Str
  cn : Nat
  lam : Nat → LamT → Prop
  T : List (Addr × Str)

mutual
/-- plain data, never changed -/
inductive Pd (K : PySem.W.Frag) (H : Hp) : PyData → V → Prop
  | non : Pd K H .none .non
  | bl (b : Bool) : Pd K H (.bool b) (.bl b)
  | int (i : Int) : Pd K H (.int i) (.int i)
  | str (x : Str) : Pd K H (.str x) (.str x)
  | lst {a : Addr} {o : Obj} {xs : List V} {ds : List PyData} : H a = some (.frz o (.lst xs)) → Pds K H ds xs → Pd K H (.list ds) (.ref a)
  | tup {a : Addr} {xs : List V} {ds : List PyData} : H a = some (.tup xs) → Pds K H ds xs → Pd K H (.tuple ds) (.ref a)
inductive Pds (K : PySem.W.Frag) (H : Hp) : List PyData → List V → Prop
  | nil : Pds K H [] []
  | cons {v : V} {vs : List V} {d : PyData} {ds : List PyData} : Pd K H d v → Pds K H ds vs → Pds K H (d :: ds) (v :: vs)
end
/-- a lambda's object at a, its cells and its code object -/
def CloO (a : Addr) (o : Obj) : HO := .ext fun h => h.get? a = some o
def CloT (μ : List Addr) (H : Hp) (t : LamT) (cs : List Nat) (a : Addr) : Prop :=
  ∃ (cl : List (Str × Addr)) (pm ctv : Value) (c' : Addr),
    H a = some (CloO a (PySem.W.kla_obj "<lambda>" t.qual t.params t.body t.scope cl pm c' ctv)) ∧ H c' = some (LamX.CodeO c' t.qual) ∧
    cs.length = t.caps.length ∧ (∀ (j : Nat) (l : Nat) (y : Str), cs[j]? = some l → t.caps[j]? = some y → ∃ c, μ[l]? = some c ∧ cl.lookup y = some c) ∧ ∀ (y : Str) (c : Addr), cl.lookup y = some c → y ∈ t.caps
def CloR (G : Gd) (μ : List Addr) (H : Hp) (k : Nat) (cs : List Nat) (a : Addr) : Prop := ∃ t, G.lam k t ∧ CloT μ H t cs a
mutual
inductive RD (G : Gd) (μ : List Addr) (H : Hp) : D → V → Prop
  | p {d : PyData} {v : V} : Pd G.K H d v → RD G μ H (.p d) v
  | ref {l : Nat} {a : Addr} : μ[l]? = some a → RD G μ H (.ref l) (.ref a)
  | fn (i : Nat) : RD G μ H (.fn i) (.ref (G.fadr i))
  | clo {k : Nat} {cs : List Nat} {a : Addr} : CloR G μ H k cs a → RD G μ H (.clo k cs) (.ref a)
  | tup {ds : List D} {a : Addr} {vs : List V} : SqT G.K H a vs → RDs G μ H ds vs → RD G μ H (.tup ds) (.ref a)
  | lst {ds : List D} {a : Addr} {o : Obj} {vs : List V} : H a = some (.frz o (.lst vs)) → RDs G μ H ds vs → RD G μ H (.lst ds) (.ref a)
inductive RDs (G : Gd) (μ : List Addr) (H : Hp) : List D → List V → Prop
  | nil : RDs G μ H [] []
  | cons {v : V} {vs : List V} {d : D} {ds : List D} : RD G μ H d v → RDs G μ H ds vs → RDs G μ H (d :: ds) (v :: vs)
end

/-- what never changes -/
def Imm : HO → Prop
  | .tup _ => True
  | .frz _ (.own _) => False
  | .frz _ _ => True
  | .ext _ => True
  | _ => False
/-- .. and what grows alone -/
def Stay : HO → Prop
  | .tup _ => True
  | .frz _ _ => True
  | .ext _ => True
  | .tbl _ => True
  | _ => False
theorem Imm.stay {o : HO} (h : Imm o) : Stay o := by cases o <;> first | trivial | exact (show False from h).elim
theorem Imm.notbl {o : HO} (h : Imm o) : ∀ ps, o ≠ .tbl ps := fun ps e => by subst e; exact h
/-- the heap behind some steps of ours -/
def At (cl : List Nat) (μ : List Addr) (b : Addr) : Prop := ∃ l, l ∉ cl ∧ μ[l]? = some b
structure Gr (cl : List Nat) (μ : List Addr) (H : Hp) (μ' : List Addr) (H' : Hp) : Prop where
  pre : ∃ t, μ' = μ ++ t
  fresh : ∀ b, At cl μ' b → At cl μ b ∨ H b = none
  keep : ∀ b o, H b = some o → (¬ At cl μ b ∨ Imm o) → (∀ ps, o ≠ .tbl ps) → H' b = some o
  tbl : ∀ b ps, H b = some (.tbl ps) → ∃ ps', H' b = some (.tbl ps')
theorem Gr.refl {cl : List Nat} (μ : List Addr) (H : Hp) : Gr cl μ H μ H := ⟨⟨[], by simp⟩, fun _ h => .inl h, fun _ _ h _ _ => h, fun _ ps h => ⟨ps, h⟩⟩
theorem Gr.trans {cl : List Nat} {μ μ1 μ2 : List Addr} {H H1 H2 : Hp} (a : Gr cl μ H μ1 H1) (b : Gr cl μ1 H1 μ2 H2) : Gr cl μ H μ2 H2 := by
  obtain ⟨t, e1⟩ := a.pre
  obtain ⟨u, e2⟩ := b.pre
  have back : ∀ b, H1 b = none → ¬ At cl μ b → H b = none := fun c e n => by
    cases q : H c with
    | none => rfl
    | some o =>
      by_cases ht : ∃ ps, o = .tbl ps
      · obtain ⟨ps, rfl⟩ := ht
        obtain ⟨ps', z⟩ := a.tbl c ps q
        rw [e] at z; cases z
      · have z := a.keep c o q (.inl n) fun ps w => ht ⟨ps, w⟩
        rw [e] at z; cases z
  refine ⟨⟨t ++ u, by rw [e2, e1, List.append_assoc]⟩, fun c hc => ?_, fun c o e h nt => ?_, fun c ps e => ?_⟩
  · by_cases hm : At cl μ c
    · exact .inl hm
    · rcases b.fresh c hc with z | z
      · rcases a.fresh c z with z | z
        · exact absurd z hm
        · exact .inr z
      · exact .inr (back c z hm)
  · have e1 := a.keep c o e h nt
    refine b.keep c o e1 ?_ nt
    rcases h with h | h
    · by_cases hm : At cl μ1 c
      · rcases a.fresh c hm with z | z
        · exact absurd z h
        · rw [z] at e; cases e
      · exact .inl hm
    · exact .inr h
  · obtain ⟨ps', z⟩ := a.tbl c ps e
    exact b.tbl c ps' z
/-- a tracked object at no place of ours stays, and stays so -/
theorem Gr.stays {cl : List Nat} {μ μ' : List Addr} {H H' : Hp} (g : Gr cl μ H μ' H') {b : Addr} {o : HO} (e : H b = some o) (n : ¬ At cl μ b) (nt : ∀ ps, o ≠ .tbl ps := by intro _ z; cases z) : H' b = some o ∧ ¬ At cl μ' b :=
  ⟨g.keep b o e (.inl n) nt, fun z => (g.fresh b z).elim n fun q => by rw [e] at q; cases q⟩
/-- what values lean on -/
structure Kp (μ : List Addr) (H : Hp) (μ' : List Addr) (H' : Hp) : Prop where
  pre : ∃ t, μ' = μ ++ t
  imm : ∀ b o, H b = some o → Imm o → H' b = some o
theorem Gr.kp {cl : List Nat} {μ μ' : List Addr} {H H' : Hp} (g : Gr cl μ H μ' H') : Kp μ H μ' H' := ⟨g.pre, fun b o e i => g.keep b o e (.inr i) i.notbl⟩
theorem Kp.trans {μ μ1 μ2 : List Addr} {H H1 H2 : Hp} (a : Kp μ H μ1 H1) (b : Kp μ1 H1 μ2 H2) : Kp μ H μ2 H2 := by
  obtain ⟨t, rfl⟩ := a.pre
  obtain ⟨u, rfl⟩ := b.pre
  exact ⟨⟨t ++ u, by simp⟩, fun c o e i => b.imm c o (a.imm c o e i) i⟩
theorem Kp.get {μ μ' : List Addr} {H H' : Hp} (g : Kp μ H μ' H') {l : Nat} {a : Addr} (h : μ[l]? = some a) : μ'[l]? = some a := by
  obtain ⟨t, rfl⟩ := g.pre
  rw [List.getElem?_append_left (List.getElem?_eq_some_iff.mp h).1]
  exact h
theorem Kp.sqT {μ μ' : List Addr} {H H' : Hp} {K : PySem.W.Frag} (g : Kp μ H μ' H') {a : Addr} {xs : List V} (h : SqT K H a xs) : SqT K H' a xs := by
  rcases h with (h | ⟨o, h⟩) | h
  · exact .inl (.inl (g.imm _ _ h trivial))
  · exact .inl (.inr ⟨o, g.imm _ _ h trivial⟩)
  · exact .inr h

section
variable {G : Gd} {K : PySem.W.Frag} {μ μ' : List Addr} {H H' : Hp}
mutual
theorem Pd.mono (g : Kp μ H μ' H') : ∀ {d : PyData} {v : V}, Pd K H d v → Pd K H' d v
  | _, _, .non => .non
  | _, _, .bl b => .bl b
  | _, _, .int i => .int i
  | _, _, .str x => .str x
  | _, _, .lst h hs => .lst (g.imm _ _ h trivial) (Pds.mono g hs)
  | _, _, .tup h hs => .tup (g.imm _ _ h trivial) (Pds.mono g hs)
theorem Pds.mono (g : Kp μ H μ' H') : ∀ {d : List PyData} {v : List V}, Pds K H d v → Pds K H' d v
  | _, _, .nil => .nil
  | _, _, .cons h hs => .cons (Pd.mono g h) (Pds.mono g hs)
end
theorem CloR.mono (g : Kp μ H μ' H') {k : Nat} {cs : List Nat} {a : Addr} (h : CloR G μ H k cs a) : CloR G μ' H' k cs a := by
  obtain ⟨t, ht, cl, pm, ctv, c', h1, h3, h6, h7, h8⟩ := h
  refine ⟨t, ht, cl, pm, ctv, c', g.imm _ _ h1 trivial, g.imm _ _ h3 trivial, h6, fun j l y e1 e2 => ?_, h8⟩
  obtain ⟨c, q1, q2⟩ := h7 j l y e1 e2
  exact ⟨c, g.get q1, q2⟩
mutual
theorem RD.mono (g : Kp μ H μ' H') : ∀ {d : D} {v : V}, RD G μ H d v → RD G μ' H' d v
  | _, _, .p h => .p (h.mono g)
  | _, _, .ref h => .ref (g.get h)
  | _, _, .fn i => .fn i
  | _, _, .clo h => .clo (h.mono g)
  | _, _, .tup h hs => .tup (g.sqT h) (RDs.mono g hs)
  | _, _, .lst h hs => .lst (g.imm _ _ h trivial) (RDs.mono g hs)
theorem RDs.mono (g : Kp μ H μ' H') : ∀ {d : List D} {v : List V}, RDs G μ H d v → RDs G μ' H' d v
  | _, _, .nil => .nil
  | _, _, .cons h hs => .cons (RD.mono g h) (RDs.mono g hs)
end
mutual
theorem Pd.dp : ∀ {d : PyData} {v : V}, Pd K H d v → Dp K H v d
  | _, _, .non => .non
  | _, _, .bl b => .bl b
  | _, _, .int i => .int i
  | _, _, .str x => .str x
  | _, _, .lst h hs => .lst (.inl (.inr ⟨_, h⟩)) (Pds.dp hs)
  | _, _, .tup h hs => .tup (.inl (.inl h)) (Pds.dp hs)
theorem Pds.dp : ∀ {d : List PyData} {v : List V}, Pds K H d v → DpAll K H v d
  | _, _, .nil => .nil
  | _, _, .cons h hs => .cons (Pd.dp h) (Pds.dp hs)
end

/-! ### lists of values -/
theorem RDs.length : ∀ {ds : List D} {vs : List V}, RDs G μ H ds vs → ds.length = vs.length
  | _, _, .nil => rfl
  | _, _, .cons _ h => by rw [List.length_cons, List.length_cons, RDs.length h]
theorem RDs.get : ∀ {ds : List D} {vs : List V} {i : Nat} {d : D}, RDs G μ H ds vs → ds[i]? = some d → ∃ v, vs[i]? = some v ∧ RD G μ H d v
  | _, _, i, _, .nil, e => by simp at e
  | _, _, 0, _, .cons h _, e => by simp at e; subst e; exact ⟨_, rfl, h⟩
  | _, _, i + 1, _, .cons _ h, e => by
    obtain ⟨v, e1, e2⟩ := RDs.get (i := i) h (by simpa using e)
    exact ⟨v, by simpa using e1, e2⟩
theorem RDs.get' : ∀ {ds : List D} {vs : List V} {i : Nat} {v : V}, RDs G μ H ds vs → vs[i]? = some v → ∃ d, ds[i]? = some d ∧ RD G μ H d v
  | _, _, i, _, .nil, e => by simp at e
  | _, _, 0, _, .cons h _, e => by simp at e; subst e; exact ⟨_, rfl, h⟩
  | _, _, i + 1, _, .cons _ h, e => by
    obtain ⟨v, e1, e2⟩ := RDs.get' (i := i) h (by simpa using e)
    exact ⟨v, by simpa using e1, e2⟩
theorem RDs.append : ∀ {ds es : List D} {vs ws : List V}, RDs G μ H ds vs → RDs G μ H es ws → RDs G μ H (ds ++ es) (vs ++ ws)
  | _, _, _, _, .nil, h => h
  | _, _, _, _, .cons a b, h => .cons a (RDs.append b h)
theorem RDs.take : ∀ {ds : List D} {vs : List V} (n : Nat), RDs G μ H ds vs → RDs G μ H (ds.take n) (vs.take n)
  | _, _, 0, _ => .nil
  | _, _, n + 1, .nil => .nil
  | _, _, n + 1, .cons a b => .cons a (RDs.take n b)
theorem RDs.drop : ∀ {ds : List D} {vs : List V} (n : Nat), RDs G μ H ds vs → RDs G μ H (ds.drop n) (vs.drop n)
  | _, _, 0, h => h
  | _, _, n + 1, .nil => .nil
  | _, _, n + 1, .cons a b => RDs.drop n b
theorem RDs.set {d : D} {v : V} (r : RD G μ H d v) : ∀ {ds : List D} {vs : List V} (n : Nat), RDs G μ H ds vs → RDs G μ H (ds.set n d) (vs.set n v)
  | _, _, _, .nil => .nil
  | _, _, 0, .cons a b => .cons r b
  | _, _, n + 1, .cons a b => .cons a (RDs.set r n b)
theorem RDs.eraseIdx : ∀ {ds : List D} {vs : List V} (n : Nat), RDs G μ H ds vs → RDs G μ H (ds.eraseIdx n) (vs.eraseIdx n)
  | _, _, _, .nil => .nil
  | _, _, 0, .cons a b => b
  | _, _, n + 1, .cons a b => .cons a (RDs.eraseIdx n b)
theorem RDs.dropLast : ∀ {ds : List D} {vs : List V}, RDs G μ H ds vs → RDs G μ H ds.dropLast vs.dropLast := fun {ds vs} h => by
  rw [List.dropLast_eq_take, List.dropLast_eq_take, h.length]
  exact h.take _
theorem RDs.reverse : ∀ {ds : List D} {vs : List V}, RDs G μ H ds vs → RDs G μ H ds.reverse vs.reverse
  | _, _, .nil => .nil
  | _, _, .cons a b => by
    rw [List.reverse_cons, List.reverse_cons]
    exact (RDs.reverse b).append (.cons a .nil)
theorem RDs.rep {ds : List D} {vs : List V} (h : RDs G μ H ds vs) : ∀ k : Nat, RDs G μ H (List.replicate k ds).flatten (List.replicate k vs).flatten
  | 0 => .nil
  | k + 1 => by
    rw [List.replicate_succ, List.replicate_succ, List.flatten_cons, List.flatten_cons]
    exact h.append (RDs.rep h k)

theorem allP_some : ∀ {ds : List D} {ps : List PyData}, allP ds = some ps → ds = ps.map D.p
  | [], ps, h => by
    simp only [allP, Option.some.injEq] at h
    subst h; rfl
  | .p d :: r, ps, h => by
    simp only [allP] at h
    cases q : allP r with
    | none => rw [q] at h; cases h
    | some es =>
      rw [q] at h
      simp only [Option.some.injEq] at h
      subst h
      rw [allP_some q]; rfl
  | .ref _ :: _, _, h => by simp [allP] at h
  | .fn _ :: _, _, h => by simp [allP] at h
  | .clo _ _ :: _, _, h => by simp [allP] at h
  | .tup _ :: _, _, h => by simp [allP] at h
  | .lst _ :: _, _, h => by simp [allP] at h
theorem allP_map : ∀ (ps : List PyData), allP (ps.map D.p) = some ps
  | [] => rfl
  | d :: r => by simp only [List.map_cons, allP, allP_map r]
theorem Pds.of : ∀ {ps : List PyData} {vs : List V}, RDs G μ H (ps.map D.p) vs → Pds G.K H ps vs
  | [], _, h => by cases h; exact .nil
  | d :: r, _, h => by
    cases h with
    | cons a b =>
      cases a with
      | p a => exact .cons a (Pds.of b)
theorem Pds.to : ∀ {ps : List PyData} {vs : List V}, Pds G.K H ps vs → RDs G μ H (ps.map D.p) vs
  | _, _, .nil => .nil
  | _, _, .cons a b => .cons (.p a) (Pds.to b)
theorem RD.mkTup {ds : List D} {vs : List V} {a : Addr} (h : H a = some (.tup vs)) (r : RDs G μ H ds vs) : RD G μ H (mkTup ds) (.ref a) := by
  unfold Y.mkTup
  cases q : allP ds with
  | none => exact .tup (.inl (.inl h)) r
  | some ps =>
    rw [allP_some q] at r
    exact .p (.tup h (Pds.of r))
theorem RD.mkLst {ds : List D} {vs : List V} {a : Addr} {o : Obj} (h : H a = some (.frz o (.lst vs))) (r : RDs G μ H ds vs) : RD G μ H (mkLst ds) (.ref a) := by
  unfold Y.mkLst
  cases q : allP ds with
  | none => exact .lst h r
  | some ps =>
    rw [allP_some q] at r
    exact .p (.lst h (Pds.of r))
theorem RD.seqT {d : D} {v : V} {ds : List D} (r : RD G μ H d v) (e : seqT d = some ds) : ∃ a vs, v = .ref a ∧ SqT G.K H a vs ∧ RDs G μ H ds vs := by
  unfold Y.seqT at e
  split at e
  · cases e
    cases r with
    | p r =>
      cases r with
      | tup h hs => exact ⟨_, _, rfl, .inl (.inl h), Pds.to hs⟩
  · cases e
    cases r with
    | tup h hs => exact ⟨_, _, rfl, h, hs⟩
  · cases e
theorem RD.seqF {d : D} {v : V} {ds : List D} (r : RD G μ H d v) (e : seqF d = some ds) : ∃ a o vs, v = .ref a ∧ H a = some (.frz o (.lst vs)) ∧ RDs G μ H ds vs := by
  unfold Y.seqF at e
  split at e
  · cases e
    cases r with
    | p r =>
      cases r with
      | lst h hs => exact ⟨_, _, _, rfl, h, Pds.to hs⟩
  · cases e
    cases r with
    | lst h hs => exact ⟨_, _, _, rfl, h, hs⟩
  · cases e
end

/-! ### the heap -/
section
variable (G : Gd) (μ : List Addr) (H : Hp)
def CellR (d : Option D) (u : Option Value) : Prop := ∀ x, d = some x → ∃ v w, u = some w ∧ RelV v w ∧ RD G μ H x v
def KR {κ : Type} : List (κ × D) → List (κ × V) → Prop := Paired fun p q => p.1 = q.1 ∧ RD G μ H p.2 q.2
def HR : Ob → HO → Prop
  | .lst ds, .lst vs => RDs G μ H ds vs
  | .dk kvs, .dK ws => KR G μ H kvs ws
  | .dt kvs, .dT ws => KR G μ H kvs ws
  | .ins c fs, .ins C _ ws => C = G.cadr c ∧ KR G μ H fs ws
  | .cell d, .frz o z => z = .own 0 ∧ ∃ u, o.data = .cell u ∧ CellR G μ H d u
  | .lk o, .frz _ u => HR o u
  | .dead, .frz _ (.lst _) => True
  | _, _ => False
end
structure Sr (G : Gd) (oc : List (Nat × Addr)) (μ : List Addr) (r : Rho) (h : Hh) (σ : L2.St) (H : Hp) : Prop where
  len : μ.length = h.length
  inj : ∀ (l l' : Nat) (a : Addr), l ∉ r.cl → l' ∉ r.cl → μ[l]? = some a → μ[l']? = some a → l = l'
  ob : ∀ (l : Nat) (o : Ob) (a : Addr), h[l]? = some o → μ[l]? = some a → l ∉ r.cl → ∃ u, H a = some u ∧ HR G μ H o u
  ocl : r.cl.length = oc.length
  own : ∀ (j l i : Nat) (a : Addr), r.cl[j]? = some l → oc[j]? = some (i, a) → μ[l]? = some a ∧ ∃ d : Option D, h[l]? = some (Ob.cell d) ∧ ∀ x, d = some x → ∃ v, σ[i]? = some (some v) ∧ RD G μ H x v
  sll : r.sl.length ≤ σ.length
  sl : ∀ (i : Nat) (d : D), r.sl[i]? = some (some d) → i ∉ oc.map (·.1) → ∃ v, σ[i]? = some (some v) ∧ RD G μ H d v
  cln : r.cl.Nodup
  tab : LamX.Tabs G.T H

section
variable {G : Gd} {μ μ' : List Addr} {H H' : Hp}
theorem Paired.mono2 {α β : Type} {F G : α → β → Prop} (f : ∀ a b, F a b → G a b) : ∀ {l : List α} {m : List β}, Paired F l m → Paired G l m
  | _, _, .nil => .nil
  | _, _, .cons a b => .cons (f _ _ a) (Paired.mono2 f b)
theorem KR.mono {κ : Type} (g : Kp μ H μ' H') {l : List (κ × D)} {m : List (κ × V)} (h : KR G μ H l m) : KR G μ' H' l m := Paired.mono2 (fun _ _ z => ⟨z.1, z.2.mono g⟩) h
theorem CellR.mono (g : Kp μ H μ' H') {d : Option D} {u : Option Value} (h : CellR G μ H d u) : CellR G μ' H' d u := fun x e => by
  obtain ⟨v, w, a, b, c⟩ := h x e
  exact ⟨v, w, a, b, c.mono g⟩
theorem HR.mono (g : Kp μ H μ' H') : ∀ {o : Ob} {u : HO}, HR G μ H o u → HR G μ' H' o u := by
  intro o
  induction o with
  | lst ds => intro u h; cases u <;> first | exact h.elim | exact RDs.mono g h
  | dk kvs => intro u h; cases u <;> first | exact h.elim | exact KR.mono g h
  | dt kvs => intro u h; cases u <;> first | exact h.elim | exact KR.mono g h
  | lk o ih => intro u h; cases u <;> first | exact h.elim | exact ih h
  | ins c fs => intro u h; cases u <;> first | exact h.elim | exact ⟨h.1, KR.mono g h.2⟩
  | cell d => intro u h; cases u <;> first | exact h.elim | (obtain ⟨z, x, a, b⟩ := h; exact ⟨z, x, a, b.mono g⟩)
  | dead =>
    intro u h
    cases u <;> first | exact h.elim | skip
    rename_i o u
    cases u <;> first | exact (show False from h).elim | exact h

variable {oc : List (Nat × Addr)} {r : Rho} {h : Hh} {σ : L2.St}
theorem Tb.keep {T : List (Addr × Str)} (t : LamX.Tabs T H) (k : ∀ b o, Stay o → H b = some o → H' b = some o) : LamX.Tabs T H' := fun p hp => by
  obtain ⟨ps, h1, h2, h3⟩ := t p hp
  refine ⟨ps, k _ _ trivial h1, h2, fun pos cv hc => ?_⟩
  obtain ⟨c, e1, e2⟩ := h3 pos cv hc
  exact ⟨c, e1, k _ _ trivial e2⟩
/-- all that is tracked stays -/
theorem Gr.of_keep {cl : List Nat} (k : ∀ b o, H b = some o → H' b = some o) : Gr cl μ H μ H' := ⟨⟨[], by simp⟩, fun _ z => .inl z, fun b o e _ _ => k b o e, fun b ps e => ⟨ps, k b _ e⟩⟩
theorem Sr.grow (s : Sr G oc μ r h σ H) (k : ∀ b o, H b = some o → H' b = some o) : Sr G oc μ r h σ H' := by
  have g : Kp μ H μ H' := (Gr.of_keep (cl := []) k).kp
  exact ⟨s.len, s.inj, fun l o a e1 e2 e3 => let ⟨u, a1, a2⟩ := s.ob l o a e1 e2 e3; ⟨u, k _ _ a1, a2.mono g⟩, s.ocl,
    fun j l i a e1 e2 => let ⟨a1, d, a2, a3⟩ := s.own j l i a e1 e2; ⟨a1, d, a2, fun x e => let ⟨v, b1, b2⟩ := a3 x e; ⟨v, b1, b2.mono g⟩⟩,
    s.sll, fun i d e ni => let ⟨v, a1, a2⟩ := s.sl i d e ni; ⟨v, a1, a2.mono g⟩, s.cln, s.tab.ext k⟩
theorem keep_laid {p : Addr} {u : HO} (n : H p = none) : ∀ b o, H b = some o → upd H p u b = some o := fun b o e => by
  rw [upd_ne (ne_of_none e n)]; exact e
theorem Sr.laid (s : Sr G oc μ r h σ H) {p : Addr} {u : HO} (n : H p = none) : Sr G oc μ r h σ (upd H p u) := s.grow (keep_laid n)
theorem Gr.laid {cl : List Nat} {p : Addr} {u : HO} (n : H p = none) : Gr cl μ H μ (upd H p u) := Gr.of_keep (keep_laid n)
theorem Sr.mem_own (s : Sr G oc μ r h σ H) {l : Nat} (m : l ∈ r.cl) : ∃ d : Option D, h[l]? = some (Ob.cell d) := by
  obtain ⟨j, hj, e⟩ := List.mem_iff_getElem.mp m
  have hj' : j < oc.length := by rw [← s.ocl]; exact hj
  obtain ⟨_, d, q, _⟩ := s.own j l (oc[j]).1 (oc[j]).2 (by rw [List.getElem?_eq_getElem hj, e]) (by rw [List.getElem?_eq_getElem hj'])
  exact ⟨d, q⟩
theorem At.push {cl : List Nat} {b p : Addr} (h : At cl (μ ++ [p]) b) : At cl μ b ∨ b = p := by
  obtain ⟨l, nl, e⟩ := h
  by_cases hl : l < μ.length
  · rw [List.getElem?_append_left hl] at e
    exact .inl ⟨l, nl, e⟩
  · rw [List.getElem?_append_right (by omega)] at e
    exact .inr (List.mem_singleton.mp (List.mem_of_getElem? e))
theorem Gr.push {cl : List Nat} {p : Addr} {u : HO} (n : H p = none) : Gr cl μ H (μ ++ [p]) (upd H p u) :=
  ⟨⟨[p], rfl⟩, fun b hb => by
    rcases hb.push with z | z
    · exact .inl z
    · subst z; exact .inr n, fun b o e _ _ => keep_laid n b o e, fun b ps e => ⟨ps, keep_laid n b _ e⟩⟩
/-- a new object of the evaluator's heap -/
theorem Sr.push (s : Sr G oc μ r h σ H) {p : Addr} {u : HO} {o : Ob} (n : H p = none) (q : HR G (μ ++ [p]) (upd H p u) o u) : Sr G oc (μ ++ [p]) r (h ++ [o]) σ (upd H p u) := by
  have g : Kp μ H (μ ++ [p]) (upd H p u) := (Gr.push (cl := []) n).kp
  have lt : ∀ l, l ∈ r.cl → l < h.length := fun l m => by
    obtain ⟨d, e⟩ := s.mem_own m
    exact (List.getElem?_eq_some_iff.mp e).1
  have old : ∀ {l : Nat} {o' : Ob} {a : Addr}, (h ++ [o])[l]? = some o' → (μ ++ [p])[l]? = some a → (h[l]? = some o' ∧ μ[l]? = some a) ∨ (l = h.length ∧ o' = o ∧ a = p) := fun {l o' a} e1 e2 => by
    by_cases hl : l < h.length
    · rw [List.getElem?_append_left hl] at e1
      rw [List.getElem?_append_left (by rw [s.len]; exact hl)] at e2
      exact .inl ⟨e1, e2⟩
    · have hl2 : l < (h ++ [o]).length := (List.getElem?_eq_some_iff.mp e1).1
      rw [List.length_append, List.length_singleton] at hl2
      have e : l = h.length := by omega
      subst e
      rw [List.getElem?_append_right (Nat.le_refl _), Nat.sub_self] at e1
      rw [List.getElem?_append_right (by rw [s.len]; exact Nat.le_refl _), s.len, Nat.sub_self] at e2
      simp at e1 e2
      exact .inr ⟨rfl, e1.symm, e2.symm⟩
  have adr : ∀ {l : Nat} {a : Addr}, (μ ++ [p])[l]? = some a → μ[l]? = some a ∨ (l = h.length ∧ a = p) := fun {l a} e2 => by
    by_cases hl : l < h.length
    · rw [List.getElem?_append_left (by rw [s.len]; exact hl)] at e2
      exact .inl e2
    · have hl2 : l < (μ ++ [p]).length := (List.getElem?_eq_some_iff.mp e2).1
      rw [List.length_append, List.length_singleton, s.len] at hl2
      have e : l = h.length := by omega
      subst e
      rw [List.getElem?_append_right (by rw [s.len]; exact Nat.le_refl _), s.len, Nat.sub_self] at e2
      simp at e2
      exact .inr ⟨rfl, e2.symm⟩
  have tr : ∀ {l : Nat} {a : Addr}, l ∉ r.cl → μ[l]? = some a → a ≠ p := fun {l a} nl e z => by
    subst z
    have hl : l < h.length := by rw [← s.len]; exact (List.getElem?_eq_some_iff.mp e).1
    obtain ⟨u', e1, _⟩ := s.ob l _ a (List.getElem?_eq_getElem hl) e nl
    rw [n] at e1; cases e1
  refine ⟨by rw [List.length_append, List.length_append, s.len]; rfl, fun l l' a n1 n2 e1 e2 => ?_, fun l o' a e1 e2 e3 => ?_, s.ocl, fun j l i a e1 e2 => ?_, s.sll, fun i d e ni => ?_, s.cln, s.tab.ext (keep_laid n)⟩
  · rcases adr e1 with z1 | ⟨z1, w1⟩
    · rcases adr e2 with z2 | ⟨z2, w2⟩
      · exact s.inj l l' a n1 n2 z1 z2
      · exact absurd w2 (tr n1 z1)
    · rcases adr e2 with z2 | ⟨z2, w2⟩
      · exact absurd w1 (tr n2 z2)
      · rw [z1, z2]
  · rcases old e1 e2 with ⟨z1, z2⟩ | ⟨z1, z2, z3⟩
    · obtain ⟨u', a1, a2⟩ := s.ob l o' a z1 z2 e3
      exact ⟨u', keep_laid n _ _ a1, a2.mono g⟩
    · subst z2 z3
      exact ⟨u, upd_same, q⟩
  · obtain ⟨a1, d, a2, a3⟩ := s.own j l i a e1 e2
    refine ⟨g.get a1, d, by rw [List.getElem?_append_left (List.getElem?_eq_some_iff.mp a2).1]; exact a2, fun x e => ?_⟩
    obtain ⟨v, b1, b2⟩ := a3 x e
    exact ⟨v, b1, b2.mono g⟩
  · obtain ⟨v, a1, a2⟩ := s.sl i d e ni
    exact ⟨v, a1, a2.mono g⟩
theorem Kp.write {a : Addr} {u : HO} (i : ∀ o, H a = some o → ¬ Stay o) : Kp μ H μ (upd H a u) :=
  ⟨⟨[], by simp⟩, fun b o e z => by
    by_cases hb : b = a
    · subst hb
      exact absurd z.stay (i o e)
    · rw [upd_ne hb]; exact e⟩
theorem Gr.write {cl : List Nat} {a : Addr} {u : HO} (m : At cl μ a) (i : ∀ o, H a = some o → ¬ Stay o) : Gr cl μ H μ (upd H a u) :=
  ⟨⟨[], by simp⟩, fun _ z => .inl z, fun b o e z _ => by
    by_cases hb : b = a
    · subst hb
      rcases z with z | z
      · exact absurd m z
      · exact absurd z.stay (i o e)
    · rw [upd_ne hb]; exact e, fun b ps e => by
    by_cases hb : b = a
    · subst hb
      exact absurd trivial (i _ e)
    · rw [upd_ne hb]; exact ⟨ps, e⟩⟩
/-- an object of the evaluator's heap is written -/
theorem Sr.write (s : Sr G oc μ r h σ H) {l : Nat} {a : Addr} {u : HO} {o : Ob} (e : μ[l]? = some a) (nl : l ∉ r.cl) (i : ∀ o, H a = some o → ¬ Stay o) (q : HR G μ (upd H a u) o u) : Sr G oc μ r (h.set l o) σ (upd H a u) := by
  have g : Kp μ H μ (upd H a u) := Kp.write i
  refine ⟨by rw [List.length_set]; exact s.len, s.inj, fun l' o' a' e1 e2 e3 => ?_, s.ocl, fun j l' i' a' e1 e2 => ?_, s.sll, fun i' d e' ni => ?_, s.cln, Tb.keep s.tab fun b o st e => by rw [upd_ne fun z => i o (by rw [← z]; exact e) st]; exact e⟩
  · by_cases hl : l' = l
    · subst hl
      rw [e] at e2
      cases e2
      have hlt : l' < h.length := by rw [← s.len]; exact (List.getElem?_eq_some_iff.mp e).1
      rw [List.getElem?_set_self hlt] at e1
      cases e1
      exact ⟨u, upd_same, q⟩
    · rw [List.getElem?_set_ne (Ne.symm hl)] at e1
      obtain ⟨u', a1, a2⟩ := s.ob l' o' a' e1 e2 e3
      have ne : a' ≠ a := fun z => hl (s.inj l' l a e3 nl (by rw [← z]; exact e2) e)
      exact ⟨u', by rw [upd_ne ne]; exact a1, a2.mono g⟩
  · obtain ⟨a1, d, a2, a3⟩ := s.own j l' i' a' e1 e2
    have ne : l ≠ l' := fun z => nl (by rw [z]; exact List.mem_of_getElem? e1)
    refine ⟨a1, d, by rw [List.getElem?_set_ne ne]; exact a2, fun x ex => ?_⟩
    obtain ⟨v, b1, b2⟩ := a3 x ex
    exact ⟨v, b1, b2.mono g⟩
  · obtain ⟨v, a1, a2⟩ := s.sl i' d e' ni
    exact ⟨v, a1, a2.mono g⟩
/-- a slot is stored -/
theorem Sr.store (s : Sr G oc μ r h σ H) {i : Nat} {d : D} {v : V} (rd : RD G μ H d v) (hi : i < σ.length) (no : ∀ (j : Nat) (a : Addr), oc[j]? ≠ some (i, a)) : Sr G oc μ ⟨r.sl.set i (some d), r.cl⟩ h (σ.set i (some v)) H := by
  refine ⟨s.len, s.inj, s.ob, s.ocl, fun j l i' a e1 e2 => ?_, by rw [List.length_set, List.length_set]; exact s.sll, fun i' d' e ni => ?_, s.cln, s.tab⟩
  · obtain ⟨a1, d', a2, a3⟩ := s.own j l i' a e1 e2
    refine ⟨a1, d', a2, fun x ex => ?_⟩
    obtain ⟨w, b1, b2⟩ := a3 x ex
    refine ⟨w, ?_, b2⟩
    have ne : i ≠ i' := fun z => no j a (by rw [z]; exact e2)
    rw [List.getElem?_set_ne ne]
    exact b1
  · by_cases hj : i' = i
    · subst hj
      have hlt : i' < r.sl.length := by
        have z := (List.getElem?_eq_some_iff.mp e).1
        rw [List.length_set] at z
        exact z
      rw [List.getElem?_set_self hlt] at e
      cases e
      exact ⟨v, by rw [List.getElem?_set_self hi], rd⟩
    · rw [List.getElem?_set_ne (Ne.symm hj)] at e
      obtain ⟨w, a1, a2⟩ := s.sl i' d' e ni
      exact ⟨w, by rw [List.getElem?_set_ne (Ne.symm hj)]; exact a1, a2⟩
/-- a cell of the frame's own is stored -/
theorem Sr.storeC (s : Sr G oc μ r h σ H) {j l i : Nat} {a : Addr} {d : D} {v : V} (e1 : r.cl[j]? = some l) (e2 : oc[j]? = some (i, a)) (rd : RD G μ H d v) (hi : i < σ.length) (ndo : ∀ (j' : Nat) (a' : Addr), oc[j']? = some (i, a') → j' = j) :
    Sr G oc μ r (h.set l (.cell (some d))) (σ.set i (some v)) H := by
  obtain ⟨a1, d0, a2, _⟩ := s.own j l i a e1 e2
  have hl : l < h.length := (List.getElem?_eq_some_iff.mp a2).1
  refine ⟨by rw [List.length_set]; exact s.len, s.inj, fun l' o' a' q1 q2 q3 => ?_, s.ocl, fun j' l' i' a' q1 q2 => ?_, by rw [List.length_set]; exact s.sll, fun i' d' q ni => ?_, s.cln, s.tab⟩
  · have ne : l ≠ l' := fun z => q3 (by rw [← z]; exact List.mem_of_getElem? e1)
    rw [List.getElem?_set_ne ne] at q1
    exact s.ob l' o' a' q1 q2 q3
  · obtain ⟨b1, d', b2, b3⟩ := s.own j' l' i' a' q1 q2
    by_cases hj : j' = j
    · subst hj
      rw [e1] at q1; cases q1
      rw [e2] at q2; cases q2
      refine ⟨b1, some d, by rw [List.getElem?_set_self hl], fun x ex => ?_⟩
      cases ex
      exact ⟨v, by rw [List.getElem?_set_self hi], rd⟩
    · have ne : l ≠ l' := fun z => hj (by
        subst z
        obtain ⟨h1, w1⟩ := List.getElem?_eq_some_iff.mp q1
        obtain ⟨h2, w2⟩ := List.getElem?_eq_some_iff.mp e1
        exact (List.getElem_inj s.cln).mp (w1.trans w2.symm))
      refine ⟨b1, d', by rw [List.getElem?_set_ne ne]; exact b2, fun x ex => ?_⟩
      obtain ⟨w, c1, c2⟩ := b3 x ex
      refine ⟨w, ?_, c2⟩
      have ni : i ≠ i' := fun z => hj (ndo j' a' (by rw [z]; exact q2))
      rw [List.getElem?_set_ne ni]
      exact c1
  · by_cases hj : i' = i
    · subst hj
      exact absurd (List.mem_map.mpr ⟨_, List.mem_of_getElem? e2, rfl⟩) ni
    · obtain ⟨w, c1, c2⟩ := s.sl i' d' q ni
      exact ⟨w, by rw [List.getElem?_set_ne (Ne.symm hj)]; exact c1, c2⟩
/-- a list of the evaluator's heap -/
theorem Sr.lst (s : Sr G oc μ r h σ H) {l : Nat} {ds : List D} {v : V} (e : h[l]? = some (Ob.lst ds)) (rd : RD G μ H (.ref l) v) : ∃ a vs, v = .ref a ∧ μ[l]? = some a ∧ l ∉ r.cl ∧ H a = some (.lst vs) ∧ RDs G μ H ds vs := by
  cases rd with
  | ref q =>
    have nl : l ∉ r.cl := fun m => by
      obtain ⟨d, e'⟩ := s.mem_own m
      rw [e] at e'; cases e'
    obtain ⟨u, a1, a2⟩ := s.ob l _ _ e q nl
    cases u <;> first | exact a2.elim | exact ⟨_, _, rfl, q, nl, a1, a2⟩
theorem Sr.seqL (s : Sr G oc μ r h σ H) {d : D} {ds : List D} {v : V} (rd : RD G μ H d v) (e : seqL h d = some ds) : ∃ a vs, v = .ref a ∧ Rd H a (.lst vs) ∧ RDs G μ H ds vs := by
  unfold Y.seqL at e
  split at e
  · cases e
    cases rd with
    | p q =>
      cases q with
      | lst w hs => exact ⟨_, _, rfl, .inr ⟨_, w⟩, Pds.to hs⟩
  · cases e
    cases rd with
    | lst w hs => exact ⟨_, _, rfl, .inr ⟨_, w⟩, hs⟩
  · rw [nth_eq] at e
    split at e
    · rename_i q
      cases e
      obtain ⟨a, vs, e1, _, _, e2, e3⟩ := s.lst q rd
      exact ⟨a, vs, e1, .inl e2, e3⟩
    · cases e
  · cases e

/-- a new list of nobody's is locked for good (or else changed) -/
theorem Sr.but (s : Sr G oc μ r h σ H) {p : Addr} (k : ∀ b o, b ≠ p → H b = some o → H' b = some o) (i : ∀ o, H p = some o → ¬ Stay o) (np : ∀ l, l ∉ r.cl → μ[l]? ≠ some p) : Sr G oc μ r h σ H' := by
  have g : Kp μ H μ H' := ⟨⟨[], by simp⟩, fun b o e z => k b o (fun q => i o (by rw [← q]; exact e) z.stay) e⟩
  exact ⟨s.len, s.inj, fun l o a e1 e2 e3 => let ⟨u, a1, a2⟩ := s.ob l o a e1 e2 e3; ⟨u, k _ _ (fun q => np l e3 (by rw [← q]; exact e2)) a1, a2.mono g⟩, s.ocl,
    fun j l i a e1 e2 => let ⟨a1, d, a2, a3⟩ := s.own j l i a e1 e2; ⟨a1, d, a2, fun x e => let ⟨v, b1, b2⟩ := a3 x e; ⟨v, b1, b2.mono g⟩⟩,
    s.sll, fun i d e ni => let ⟨v, a1, a2⟩ := s.sl i d e ni; ⟨v, a1, a2.mono g⟩, s.cln, Tb.keep s.tab fun b o st e => k b o (fun z => i o (by rw [← z]; exact e) st) e⟩
/-- an object that is tracked already comes into the evaluator's heap -/
theorem Sr.adopt (s : Sr G oc μ r h σ H) {p : Addr} {u : HO} {o : Ob} (e : H p = some u) (np : ∀ l, l ∉ r.cl → μ[l]? ≠ some p) (q : HR G (μ ++ [p]) H o u) : Sr G oc (μ ++ [p]) r (h ++ [o]) σ H := by
  have g : Kp μ H (μ ++ [p]) H := ⟨⟨[p], rfl⟩, fun _ _ z _ => z⟩
  have lt : ∀ l, l ∈ r.cl → l < h.length := fun l m => by
    obtain ⟨d, e⟩ := s.mem_own m
    exact (List.getElem?_eq_some_iff.mp e).1
  have adr : ∀ {l : Nat} {a : Addr}, (μ ++ [p])[l]? = some a → μ[l]? = some a ∨ (l = h.length ∧ a = p) := fun {l a} e2 => by
    by_cases hl : l < h.length
    · rw [List.getElem?_append_left (by rw [s.len]; exact hl)] at e2
      exact .inl e2
    · have hl2 : l < (μ ++ [p]).length := (List.getElem?_eq_some_iff.mp e2).1
      rw [List.length_append, List.length_singleton, s.len] at hl2
      have e : l = h.length := by omega
      subst e
      rw [List.getElem?_append_right (by rw [s.len]; exact Nat.le_refl _), s.len, Nat.sub_self] at e2
      simp at e2
      exact .inr ⟨rfl, e2.symm⟩
  refine ⟨by rw [List.length_append, List.length_append, s.len]; rfl, fun l l' a n1 n2 e1 e2 => ?_, fun l o' a e1 e2 e3 => ?_, s.ocl, fun j l i a e1 e2 => ?_, s.sll, fun i d e ni => ?_, s.cln, s.tab⟩
  · rcases adr e1 with z1 | ⟨z1, w1⟩
    · rcases adr e2 with z2 | ⟨z2, w2⟩
      · exact s.inj l l' a n1 n2 z1 z2
      · exact absurd (by rw [← w2]; exact z1) (np l n1)
    · rcases adr e2 with z2 | ⟨z2, w2⟩
      · exact absurd (by rw [← w1]; exact z2) (np l' n2)
      · rw [z1, z2]
  · by_cases hl : l < h.length
    · rw [List.getElem?_append_left hl] at e1
      rw [List.getElem?_append_left (by rw [s.len]; exact hl)] at e2
      obtain ⟨u', a1, a2⟩ := s.ob l o' a e1 e2 e3
      exact ⟨u', a1, a2.mono g⟩
    · have hl2 : l < (h ++ [o]).length := (List.getElem?_eq_some_iff.mp e1).1
      rw [List.length_append, List.length_singleton] at hl2
      have el : l = h.length := by omega
      subst el
      rw [List.getElem?_append_right (Nat.le_refl _), Nat.sub_self] at e1
      rw [List.getElem?_append_right (by rw [s.len]; exact Nat.le_refl _), s.len, Nat.sub_self] at e2
      simp at e1 e2
      subst e1 e2
      exact ⟨u, e, q⟩
  · obtain ⟨a1, d, a2, a3⟩ := s.own j l i a e1 e2
    refine ⟨g.get a1, d, by rw [List.getElem?_append_left (List.getElem?_eq_some_iff.mp a2).1]; exact a2, fun x e => ?_⟩
    obtain ⟨v, b1, b2⟩ := a3 x e
    exact ⟨v, b1, b2.mono g⟩
  · obtain ⟨v, a1, a2⟩ := s.sl i d e ni
    exact ⟨v, a1, a2.mono g⟩
end
end Y

/-! Y3: expressions. -/
namespace Y
open PySem PySem.Spec PyProof.Rows L2

structure Cfg where
  G : Gd
  oc : List (Nat × Addr)
  W : WX
  cs : CSem
/-- an exception: its class, its fields -/
def RX (G : Gd) (μ : List Addr) (H : Hp) (c : Nat) (fs : List D) (cls : Value) (dd : Option Addr) : Prop :=
  c < G.cn ∧ cls = .ref (G.cadr c) ∧ ∃ (d : Addr) (ws : List (Str × V)), dd = some d ∧ H d = some (.xd ws) ∧ fs.length = (G.cfld c).length ∧
    ∀ (k : Nat) (x : D) (f : Str), fs[k]? = some x → (G.cfld c)[k]? = some f → ∃ v, ws.lookup f = some v ∧ RD G μ H x v

section
variable {α β γ δ : Type} (C : Cfg)
/-- what is wanted behind m: R relates its value to the model's -/
def Aft (R : List Addr → Hp → α → β → Prop) (μ : List Addr) (r : Rho) (σ : L2.St) (H : Hp) (m : Res α) (Q : β → Hp → Prop) : Prop :=
  match m with
  | .ok a h' => ∀ μ' b H', Gr r.cl μ H μ' H' → Sr C.G C.oc μ' r h' σ H' → R μ' H' a b → Q b H'
  | .exn c fs h' => ∀ μ' cls dd H', Gr r.cl μ H μ' H' → Sr C.G C.oc μ' r h' σ H' → RX C.G μ' H' c fs cls dd → C.W cls dd σ H'
  | .bad => False
def tR (R : List Addr → Hp → α → β → Prop) (m : CSem → Rho → Hh → Res α) : L2.St → Hp → (β → Hp → Prop) → Prop := fun σ H Q =>
  ∃ μ r h, Sr C.G C.oc μ r h σ H ∧ Aft C R μ r σ H (m C.cs r h) Q
variable {C} {R : List Addr → Hp → α → β → Prop} {R' : List Addr → Hp → γ → δ → Prop} {μ μ1 : List Addr} {r : Rho} {σ : L2.St} {H H1 : Hp}
theorem Aft.mono (g : Gr r.cl μ H μ1 H1) {m : Res α} {Q : β → Hp → Prop} (h : Aft C R μ r σ H m Q) : Aft C R μ1 r σ H1 m Q := by
  cases m with
  | ok a h' => exact fun μ' b H' g' s q => h μ' b H' (g.trans g') s q
  | exn c fs h' => exact fun μ' cls dd H' g' s q => h μ' cls dd H' (g.trans g') s q
  | bad => exact h
theorem Aft.imp {m : Res α} {Q Q' : β → Hp → Prop} (h : Aft C R μ r σ H m Q) (w : ∀ b H', Q b H' → Q' b H') : Aft C R μ r σ H m Q' := by
  cases m with
  | ok a h' => exact fun μ' b H' g' s q => w _ _ (h μ' b H' g' s q)
  | exn c fs h' => exact h
  | bad => exact h
/-- the first part of two -/
theorem Aft.bind {m : Res α} {f : α → Hh → Res γ} {Q : δ → Hp → Prop} (h : Aft C R' μ r σ H (m.bind f) Q) :
    Aft C R μ r σ H m (fun b H1 => ∃ μ1 a h1, Gr r.cl μ H μ1 H1 ∧ Sr C.G C.oc μ1 r h1 σ H1 ∧ R μ1 H1 a b ∧ Aft C R' μ1 r σ H1 (f a h1) Q) := by
  cases m with
  | ok a h' => exact fun μ' b H' g s q => ⟨μ', a, h', g, s, q, Aft.mono g h⟩
  | exn c fs h' => exact h
  | bad => exact h
theorem Aft.opt {o : Option α} {h : Hh} {Q : β → Hp → Prop} (x : Aft C R μ r σ H (opt o h) Q) : ∃ a, o = some a ∧ ∀ μ' b H', Gr r.cl μ H μ' H' → Sr C.G C.oc μ' r h σ H' → R μ' H' a b → Q b H' := by
  cases o with
  | none => exact x.elim
  | some a => exact ⟨a, rfl, x⟩
theorem Aft.ok {a : α} {h : Hh} {b : β} {Q : β → Hp → Prop} (x : Aft C R μ r σ H (.ok a h) Q) (s : Sr C.G C.oc μ r h σ H) (q : R μ H a b) : Q b H := x μ b H (Gr.refl _ _) s q
end
abbrev RV (C : Cfg) : List Addr → Hp → D → V → Prop := fun μ H d v => RD C.G μ H d v
abbrev RVs (C : Cfg) : List Addr → Hp → List D → List V → Prop := fun μ H d v => RDs C.G μ H d v
abbrev RB : List Addr → Hp → Bool → Bool → Prop := fun _ _ a b => a = b
abbrev tE (C : Cfg) (m : SE) : TE := tR C (RV C) m
abbrev tA (C : Cfg) (m : SL) : TA := tR C (RVs C) m
abbrev tT (C : Cfg) (m : CSem → Rho → Hh → Res Bool) : TT := tR C RB m
section
variable {X : Cx} {C : Cfg}
theorem PE.w {e : Expr} {t t' : TE} (h : PE X e t) (w : ∀ σ H Q, t' σ H Q → t σ H Q) : PE X e t' := ⟨fun pins s σ H Q I q => h.run pins s σ H Q I (w σ H Q q)⟩
theorem PT.w {e : Expr} {t t' : TT} (h : PT X e t) (w : ∀ σ H Q, t' σ H Q → t σ H Q) : PT X e t' := ⟨fun pins s σ H Q I q => h.run pins s σ H Q I (w σ H Q q)⟩
theorem PA.w {e : List Expr} {t t' : TA} (h : PA X e t) (w : ∀ σ H Q, t' σ H Q → t σ H Q) : PA X e t' := ⟨fun pos pins s σ H Q I q => h.run pos pins s σ H Q I (w σ H Q q)⟩
theorem opt_ok {α : Type} {o : Option α} {h : Hh} {a : α} (e : o = some a) : opt o h = .ok a h := by rw [e]; rfl

/-! ### names, constants -/
theorem y_v {i : Nat} {x : Str} {pos : Pos} (no : i ∉ C.oc.map (·.1)) (hN : X.N[i]? = some x) (hv : Vis X.env.scope x) (hd : (x == ("__debug__" : Str)) = false) (hcd : (x == ("__classdict__" : Str)) = false) : PE X (.Name x pos) (tE C (kV i)) := by
  refine PE.w (pe_var (i := i) hN hv hd hcd) fun σ H Q h => ?_
  obtain ⟨μ, r, h, s, a⟩ := h
  unfold kV at a
  rw [nth_eq] at a
  split at a
  · rename_i d e
    obtain ⟨v, e1, rd⟩ := s.sl i d e no
    exact ⟨v, e1, a.ok s rd⟩
  · exact a.elim
theorem y_cv {i j : Nat} {c : Addr} {x : Str} {pos : Pos} (hj : C.oc[j]? = some (i, c)) (hN : X.N[i]? = some x) (hv : Vis X.env.scope x) (hd : (x == ("__debug__" : Str)) = false) (hcd : (x == ("__classdict__" : Str)) = false) : PE X (.Name x pos) (tE C (kCv j)) := by
  refine PE.w (pe_var (i := i) hN hv hd hcd) fun σ H Q h => ?_
  obtain ⟨μ, r, h, s, a⟩ := h
  unfold kCv at a
  rw [nth_eq] at a
  split at a
  · rename_i l e
    rw [nth_eq] at a
    split at a
    · rename_i d e2
      obtain ⟨_, d', e3, q⟩ := s.own j l i c e hj
      rw [e2] at e3
      cases e3
      obtain ⟨v, e4, rd⟩ := q d rfl
      exact ⟨v, e4, a.ok s rd⟩
    · exact a.elim
  · exact a.elim
theorem y_c {e : Expr} {d : PyData} {v : V} (h : PE X e (tC v)) (r : ∀ H, Pd C.G.K H d v) : PE X e (tE C (kC (.p d))) := by
  refine PE.w h fun σ H Q h => ?_
  obtain ⟨μ, ρ, h, s, a⟩ := h
  exact Aft.ok (R := RV C) a s (.p (r H))
theorem y_fv {i : Nat} {x : Str} {pos : Pos} (hg : Gl X x) (hm : X.mg x = some (.ref (C.G.fadr i))) (hd : (x == ("__debug__" : Str)) = false) : PE X (.Name x pos) (tE C (kC (.fn i))) := by
  refine PE.w (pe_glob (v := .ref (C.G.fadr i)) hg hm rfl hd) fun σ H Q h => ?_
  obtain ⟨μ, ρ, h, s, a⟩ := h
  exact Aft.ok (R := RV C) a s (.fn i)

/-! ### two parts in a row -/
/-- an operation's reading: by the evaluator's values -/
def r2 (C : Cfg) (f : D → D → Hh → Res D) : R2 := fun x y H Q => ∃ μ ρ h σ a b, Sr C.G C.oc μ ρ h σ H ∧ RD C.G μ H a x ∧ RD C.G μ H b y ∧ Aft C (RV C) μ ρ σ H (f a b h) Q
theorem two {ma mb : SE} {f : D → D → Hh → Res D} {σ : L2.St} {H : Hp} {Q : VK} (h : tE C (fun cs r h => (ma cs r h).bind fun x h1 => (mb cs r h1).bind fun y h2 => f x y h2) σ H Q) :
    tE C ma σ H fun x H1 => tE C mb σ H1 fun y H2 => r2 C f x y H2 Q := by
  obtain ⟨μ, r, h, s, a⟩ := h
  refine ⟨μ, r, h, s, (Aft.bind (R := RV C) a).imp fun x H1 z => ?_⟩
  obtain ⟨μ1, d, h1, g1, s1, rd1, a1⟩ := z
  refine ⟨μ1, r, h1, s1, (Aft.bind (R := RV C) a1).imp fun y H2 z => ?_⟩
  obtain ⟨μ2, e, h2, g2, s2, rd2, a2⟩ := z
  exact ⟨μ2, r, h2, σ, d, e, s2, rd1.mono g2.kp, rd2, a2⟩
def r1 (C : Cfg) (f : D → Hh → Res D) : V → Hp → VK → Prop := fun x H Q => ∃ μ ρ h σ a, Sr C.G C.oc μ ρ h σ H ∧ RD C.G μ H a x ∧ Aft C (RV C) μ ρ σ H (f a h) Q
theorem one {ma : SE} {f : D → Hh → Res D} {σ : L2.St} {H : Hp} {Q : VK} (h : tE C (fun cs r h => (ma cs r h).bind fun x h1 => f x h1) σ H Q) :
    tE C ma σ H fun x H1 => r1 C f x H1 Q := by
  obtain ⟨μ, r, h, s, a⟩ := h
  refine ⟨μ, r, h, s, (Aft.bind (R := RV C) a).imp fun x H1 z => ?_⟩
  obtain ⟨μ1, d, h1, g1, s1, rd1, a1⟩ := z
  exact ⟨μ1, r, h1, σ, d, s1, rd1, a1⟩

/-! ### operators -/
def bopOf : Bop → Operator
  | .add => .Add | .sub => .Sub | .mul => .Mult | .fdiv => .FloorDiv | .mod => .Mod | .pow => .Pow | .shl => .LShift | .shr => .RShift | .band => .BitAnd
theorem RD.int' {μ : List Addr} {H : Hp} {i : Int} {x : V} {G : Gd} (h : RD G μ H (.p (.int i)) x) : x = .int i := by
  cases h with
  | p h => cases h; rfl
theorem RD.str' {μ : List Addr} {H : Hp} {i : Str} {x : V} {G : Gd} (h : RD G μ H (.p (.str i)) x) : x = .str i := by
  cases h with
  | p h => cases h; rfl
theorem RD.bool' {μ : List Addr} {H : Hp} {i : Bool} {x : V} {G : Gd} (h : RD G μ H (.p (.bool i)) x) : x = .bl i := by
  cases h with
  | p h => cases h; rfl
theorem LINE_le : LINE ≤ sizeLine := by rw [sizeLine_eq]; decide
theorem small64_iff {i : Int} (h : small64 i = true) : -(2 ^ 64) < i ∧ i < 2 ^ 64 := by
  unfold small64 at h
  have h := Nat.ble_eq.mp h
  omega
theorem op_int {o : Bop} {i j k : Int} (e : intBop o i j = some k) : ∀ (pins : List (Addr × Obj)) (s : Shared) (σ : L2.St) (H : Hp) (v u : Value) (Q : VK), Inv X pins σ H s → RelV (.int i) v → RelV (.int j) u → Q (.int k) H →
    wpAny (model X.prog X.w) X.A (binaryOp (bopOf o) v u) (EP X pins σ Q) X.xe s := by
  intro pins s σ H v u Q I r1 r2 q
  cases o with
  | add => cases e; exact op_add pins s σ H _ _ v u Q I r1 r2 ⟨i, j, rfl, rfl, q⟩
  | sub => cases e; exact op_sub pins s σ H _ _ v u Q I r1 r2 ⟨i, j, rfl, rfl, q⟩
  | mul =>
    simp only [intBop] at e
    split at e
    · rename_i h
      cases e
      unfold mulOk at h
      rw [Bool.or_eq_true, Bool.or_eq_true] at h
      rcases h with (h | h) | h
      · exact op_mul pins s σ H _ _ v u Q I r1 r2 ⟨i, j, rfl, rfl, .inl (small64_iff h), q⟩
      · exact op_mul pins s σ H _ _ v u Q I r1 r2 ⟨i, j, rfl, rfl, .inr (small64_iff h), q⟩
      · exact op_mulW pins s σ H _ _ v u Q I r1 r2 ⟨i, j, rfl, rfl, show i.natAbs.log2 + j.natAbs.log2 < 1000000 from of_decide_eq_true h, q⟩
    · cases e
  | fdiv =>
    simp only [intBop] at e
    split at e
    · rename_i h
      cases e
      rw [Bool.and_eq_true] at h
      exact op_fdivW pins s σ H _ _ v u Q I r1 r2 ⟨i, j, rfl, rfl, ⟨of_decide_eq_true h.1, of_decide_eq_true h.2⟩, q⟩
    · cases e
  | mod =>
    simp only [intBop] at e
    split at e
    · rename_i h
      cases e
      exact op_mod pins s σ H _ _ v u Q I r1 r2 ⟨i, j, rfl, rfl, h, q⟩
    · cases e
  | pow =>
    simp only [intBop] at e
    split at e
    · rename_i h
      cases e
      rw [Bool.and_eq_true, Bool.and_eq_true] at h
      exact op_pow pins s σ H _ _ v u Q I r1 r2 ⟨i, j, rfl, rfl, ⟨of_decide_eq_true h.1.1, of_decide_eq_true h.1.2, Nat.ble_eq.mp h.2⟩, q⟩
    · cases e
  | shl =>
    simp only [intBop] at e
    split at e
    · rename_i h
      cases e
      rw [Bool.and_eq_true, Bool.and_eq_true] at h
      exact op_shl pins s σ H _ _ v u Q I r1 r2 ⟨i, j, rfl, rfl, ⟨of_decide_eq_true h.1.1, of_decide_eq_true h.1.2, Nat.ble_eq.mp h.2⟩, q⟩
    · cases e
  | shr =>
    simp only [intBop] at e
    split at e
    · rename_i h
      cases e
      exact op_shr pins s σ H _ _ v u Q I r1 r2 ⟨i, j, rfl, rfl, h, q⟩
    · cases e
  | band => cases e; exact op_and pins s σ H _ _ v u Q I r1 r2 ⟨i, j, rfl, rfl, q⟩
end
theorem tmul_same (l : Addr) (items : Array Value) (n : Nat) (dd : Option Addr) (sl : Array (Option Value)) (x : Int) (u : Tok) (c0 : (decide (x < -(2 ^ 63)) || decide (x ≥ 2 ^ 63)) = false) (c1 : (items.isEmpty || x == 1) = true) :
    Meets (Builtin.«tuple.__mul__» ⟨[.ref l, .int x u], []⟩) (fun _ R s => s.heap.get? l = some { cls := .type "tuple", dict := dd, data := .seq items n, slots := sl } ∧ R (.ok (.ret (Value.ref l))) s) :=
  .of_wp fun prog w A R s hh => by
    obtain ⟨hp, g, d, tk, os⟩ := s
    obtain ⟨hl, hr⟩ := hh
    have f1 := AutoSeq1.idx_int
    wp_walk using wpAny_loadPart' hl
    repeat (first
      | (refine wpAny_ite_false (decide_eq_false (by rw [c0]; decide)) ?_; wp_walk using wpAny_loadPart' hl)
      | (refine wpAny_ite_true (decide_eq_true c1) ?_; wp_walk using wpAny_loadPart' hl))
    exact ⟨_, rfl, hr⟩
theorem tmul_none (l : Addr) (items : Array Value) (n : Nat) (dd : Option Addr) (sl : Array (Option Value)) (x : Int) (u : Tok) (c0 : (decide (x < -(2 ^ 63)) || decide (x ≥ 2 ^ 63)) = false) (c1 : (items.isEmpty || x == 1) = false) (c2 : (decide (x ≤ 0) || items.isEmpty) = true) :
    Meets (Builtin.«tuple.__mul__» ⟨[.ref l, .int x u], []⟩) (fun _ R s => s.heap.get? l = some { cls := .type "tuple", dict := dd, data := .seq items n, slots := sl } ∧
      R (.ok (.ret (Value.ref s.heap.objs.size))) { s with heap := s.heap.push { cls := Value.type "tuple", data := Data.seq #[] }, toks := s.toks }) :=
  .of_wp fun prog w A R s hh => by
    obtain ⟨hp, g, d, tk, os⟩ := s
    obtain ⟨hl, hr⟩ := hh
    have f1 := AutoSeq1.idx_int
    wp_walk using wpAny_loadPart' hl
    repeat (first
      | (refine wpAny_ite_false (decide_eq_false (by rw [c0]; decide)) ?_; wp_walk using wpAny_loadPart' hl)
      | (refine wpAny_ite_false (decide_eq_false (by rw [c1]; decide)) ?_; wp_walk using wpAny_loadPart' hl)
      | (refine wpAny_ite_true (decide_eq_true c2) ?_; wp_walk using wpAny_loadPart' hl))
    exact ⟨_, rfl, hr⟩
section
variable {X : Cx}
theorem op_tmul {xs : List V} {a : Addr} {k : Int} (hk : k ≤ 1000) (hk0 : -(2 ^ 62) ≤ k) (hz : xs.length ≤ 1000) (pins : List (Addr × Obj)) (s : Shared) (σ : L2.St) (H : Hp) (v u : Value) (Q : VK) (I : Inv X pins σ H s) (rx : RelV (.ref a) v) (ry : RelV (.int k) u) (hT : SqT X.K H a xs)
    (h0 : xs = [] ∨ k = 1 → Q (.ref a) H) (h : ¬ (xs = [] ∨ k = 1) → ∀ p, H p = none → Q (.ref p) (upd H p (.tup (List.replicate k.toNat xs).flatten))) :
    wpAny (model X.prog X.w) X.A (binaryOp .Mult v u) (EP X pins σ Q) X.xe s := by
  by_cases hbig : xs ≠ [] ∧ 2 ≤ k
  · exact op_repT pins s σ H _ _ v u Q I rx ry ⟨a, k, xs, rfl, rfl, hT, hbig.1, hbig.2, hk, hz, h (fun z => z.elim hbig.1 fun z => by have := hbig.2; omega)⟩
  · cases rx
    obtain ⟨t, rfl⟩ := ry
    obtain ⟨its, r, ⟨⟨cls, dd, data, sl⟩, ho, hc, n, hd⟩, hs⟩ := I.tuple hT
    simp only at hc hd
    subst hc hd
    have c0 : (decide (k < -(2 ^ 63)) || decide (k ≥ 2 ^ 63)) = false := by
      rw [decide_eq_false (by omega), decide_eq_false (by omega)] <;> rfl
    by_cases hsame : xs = [] ∨ k = 1
    · have c1 : (its.toArray.isEmpty || k == 1) = true := by
        rcases hsame with e | e
        · subst e; cases r; rfl
        · rw [e]; simp
      refine wpAny_binaryOp_repeat_ref (T := "tuple") (U := "int") (by decide) ⟨_, ho, rfl⟩ (fun s' => typeIs_int s' k t) noFill_tuple_mul F.fills_int_mul F.slot_int_rmul repeat_tuple F.slot_int_index.lookup
        (call_meets F.slot_int_rmul (typeIs_int s k t) F.entry_int_rmul (F.args_int_rmul_2 _ _) (int_rmul_tuple k t a its.toArray n dd sl)
          ⟨ho, rfl, ⟨_, ho, rfl⟩, call_meets F.slot_tuple_mul ⟨_, ho, rfl⟩ F.entry_tuple_mul (F.args_tuple_mul_2 _ _) (tmul_same a its.toArray n dd sl k t c0 c1) ⟨ho, ?_⟩⟩)
      exact ⟨.ref a, H, I, rfl, h0 hsame⟩
    · have hne : its ≠ [] := fun e => hsame (.inl (by subst e; cases r; rfl))
      have hi : its.toArray.isEmpty = false := by
        cases its with
        | nil => exact absurd rfl hne
        | cons a b => rfl
      have hxs : xs ≠ [] := fun e => hsame (.inl e)
      have hk2 : k ≤ 0 := by
        by_cases h2 : 2 ≤ k
        · exact absurd ⟨hxs, h2⟩ hbig
        · have : k ≠ 1 := fun e => hsame (.inr e)
          omega
      have c1 : (its.toArray.isEmpty || k == 1) = false := by
        rw [hi, Bool.false_or]
        exact beq_eq_false_iff_ne.mpr (by omega)
      have c2 : (decide (k ≤ 0) || its.toArray.isEmpty) = true := by
        rw [decide_eq_true hk2]; rfl
      refine wpAny_binaryOp_repeat_ref (T := "tuple") (U := "int") (by decide) ⟨_, ho, rfl⟩ (fun s' => typeIs_int s' k t) noFill_tuple_mul F.fills_int_mul F.slot_int_rmul repeat_tuple F.slot_int_index.lookup
        (call_meets F.slot_int_rmul (typeIs_int s k t) F.entry_int_rmul (F.args_int_rmul_2 _ _) (int_rmul_tuple k t a its.toArray n dd sl)
          ⟨ho, rfl, ⟨_, ho, rfl⟩, call_meets F.slot_tuple_mul ⟨_, ho, rfl⟩ F.entry_tuple_mul (F.args_tuple_mul_2 _ _) (tmul_none a its.toArray n dd sl k t c0 c1 c2) ⟨ho, ?_⟩⟩)
      have e : (List.replicate k.toNat xs).flatten = [] := by
        have : k.toNat = 0 := by omega
        rw [this]; rfl
      have np := I.hok.fresh (Nat.le_refl _)
      refine ⟨.ref s.heap.objs.size, upd H s.heap.objs.size (.tup []), I.laid (t' := s.toks) (fun b ob q => Heap.get?_push_of_some _ q) (Nat.le_refl _) ⟨Nat.zero_le _, [], .nil, IsTup.new _ _⟩, rfl, ?_⟩
      have q := h hsame _ np
      rw [e] at q
      exact q
end

section
variable {X : Cx} {C : Cfg}
theorem op_bin (hK : C.G.K = X.K) (o : Bop) : OpR X (binaryOp (bopOf o)) (r2 C (fun x y h => opt (binV o x y) h)) := by
  intro pins s σ H x y v u Q I rx ry hh
  obtain ⟨μ, ρ, h, σ', a, b, sr, ra, rb, af⟩ := hh
  obtain ⟨d, hb, af⟩ := Aft.opt af
  · unfold binV at hb
    split at hb
    · -- an int
      split at hb
      · rename_i i _ j
        obtain rfl := ra.int'
        obtain rfl := rb.int'
        unfold pint at hb
        split at hb
        · rename_i k e
          cases hb
          exact op_int e pins s σ H v u Q I rx ry (af μ _ H (Gr.refl _ _) sr (.p (.int k)))
        · cases hb
      · cases hb
    · split at hb
      · rename_i xs _ ys
        obtain rfl := ra.str'
        obtain rfl := rb.str'
        split at hb
        · split at hb
          · rename_i hl
            cases hb
            exact op_add_str pins s σ H _ _ v u Q I rx ry ⟨xs, ys, rfl, rfl, Nat.le_trans (Nat.ble_eq.mp hl) LINE_le, af μ _ H (Gr.refl _ _) sr (.p (.str _))⟩
          · cases hb
        · cases hb
      · cases hb
    · split at hb
      · -- tuples
        unfold catT at hb
        split at hb
        · rename_i xs e1
          split at hb
          · rename_i ys e2
            split at hb
            · rename_i hl
              obtain ⟨p, vs, rfl, hp, hvs⟩ := ra.seqT e1
              obtain ⟨q, ws, rfl, hq, hws⟩ := rb.seqT e2
              have l1 := hvs.length
              have l2 := hws.length
              have hl := Nat.ble_eq.mp hl
              refine op_catA pins s σ H _ _ v u Q I rx ry ⟨p, q, vs, ws, rfl, rfl, hK ▸ hp, hK ▸ hq, ?_, fun z => ?_, fun z1 z2 => ?_, fun z1 z2 a na => ?_⟩
              · have := LINE_le
                omega
              · subst z
                cases hvs
                cases hb
                exact af μ _ H (Gr.refl _ _) sr rb
              · subst z2
                cases hws
                cases hvs with
                | nil => exact absurd rfl z1
                | cons a b =>
                  cases hb
                  exact af μ _ H (Gr.refl _ _) sr ra
              · have g : Gr ρ.cl μ H μ (upd H a (.tup (vs ++ ws))) := Gr.laid na
                cases hvs with
                | nil => exact absurd rfl z1
                | cons a1 b1 =>
                  cases hws with
                  | nil => exact absurd rfl z2
                  | cons a2 b2 =>
                    cases hb
                    exact af μ _ _ g (sr.laid na) (.mkTup upd_same (((RDs.cons a1 b1).append (RDs.cons a2 b2)).mono g.kp))
            · cases hb
          · cases hb
        · cases hb
      · split at hb
        · rename_i k
          unfold repT at hb
          split at hb
          · rename_i xs e1
            split at hb
            · rename_i hl
              rw [Bool.and_eq_true, Bool.and_eq_true] at hl
              have h1 := Nat.ble_eq.mp hl.1.1
              have h2 := of_decide_eq_true hl.1.2
              have h3 := of_decide_eq_true hl.2
              obtain ⟨p, vs, rfl, hp, hvs⟩ := ra.seqT e1
              have l1 := hvs.length
              obtain rfl := rb.int'
              refine op_tmul h2 (by omega) (by rw [← l1]; exact h1) pins s σ H v u Q I rx ry (hK ▸ hp) (fun z => ?_) fun z q nq => ?_
              · have hc : (xs.isEmpty || decide (k = 1)) = true := by
                  rcases z with z | z
                  · subst z
                    cases hvs
                    rfl
                  · rw [decide_eq_true z, Bool.or_true]
                rw [if_pos hc] at hb
                cases hb
                exact af μ _ H (Gr.refl _ _) sr ra
              · have hc : ¬ (xs.isEmpty || decide (k = 1)) = true := fun w => by
                  rw [Bool.or_eq_true] at w
                  rcases w with w | w
                  · have : xs = [] := List.isEmpty_iff.mp w
                    subst this
                    cases hvs
                    exact z (.inl rfl)
                  · exact z (.inr (of_decide_eq_true w))
                rw [if_neg hc] at hb
                cases hb
                have g : Gr ρ.cl μ H μ (upd H q (.tup (List.replicate k.toNat vs).flatten)) := Gr.laid nq
                exact af μ _ _ g (sr.laid nq) (.mkTup upd_same ((hvs.rep _).mono g.kp))
            · cases hb
          · cases hb
        · cases hb
      · cases hb
theorem y_bin (hK : C.G.K = X.K) {o : Bop} {a b : Expr} {ma mb : SE} {pos : Pos} (ha : PE X a (tE C ma)) (hb : PE X b (tE C mb)) : PE X (.BinOp a (bopOf o) b pos) (tE C (kBin o ma mb)) :=
  PE.w (pe_op (op_bin hK o) ha hb) fun σ H Q h => two h
theorem y_neg {a : Expr} {ma : SE} {pos : Pos} (ha : PE X a (tE C ma)) : PE X (.UnaryOp .USub a pos) (tE C (kNeg ma)) := by
  refine PE.w (pe_un un_neg ha) fun σ H Q h => ?_
  obtain ⟨μ, r, h, s, a⟩ := h
  refine ⟨μ, r, h, s, (Aft.bind (R := RV C) a).imp fun x H1 z => ?_⟩
  obtain ⟨μ1, d, h1, g1, s1, rd1, a1⟩ := z
  unfold negV at a1
  split at a1
  · rename_i i
    obtain rfl := rd1.int'
    exact ⟨i, rfl, Aft.ok (R := RV C) a1 s1 (.p (.int (-i)))⟩
  · exact a1.elim
end
end Y

/-! Y4: comparisons, tests. -/
namespace Y
open PySem PySem.Spec PyProof.Rows L2

mutual
theorem dep_plain : ∀ d : PyData, dep d < 100 → d.plain = true ∧ d.depth ≤ dep d
  | .none, _ => ⟨rfl, by simp [PyData.depth, dep]⟩
  | .bool _, _ => ⟨rfl, by simp [PyData.depth, dep]⟩
  | .int _, _ => ⟨rfl, by simp [PyData.depth, dep]⟩
  | .str _, _ => ⟨rfl, by simp [PyData.depth, dep]⟩
  | .list xs, h => by
    simp only [dep] at h
    obtain ⟨a, b⟩ := deps_plain xs (by omega)
    refine ⟨by simp only [PyData.plain]; exact a, ?_⟩
    simp only [PyData.depth, dep]
    omega
  | .tuple xs, h => by
    simp only [dep] at h
    obtain ⟨a, b⟩ := deps_plain xs (by omega)
    refine ⟨by simp only [PyData.plain]; exact a, ?_⟩
    simp only [PyData.depth, dep]
    omega
  | .dict _, h => by simp only [dep] at h; omega
theorem deps_plain : ∀ d : List PyData, deps d < 100 → PyData.plainAll d = true ∧ PyData.depthAll d ≤ deps d
  | [], _ => ⟨rfl, by simp [PyData.depthAll, deps]⟩
  | x :: xs, h => by
    simp only [deps] at h
    obtain ⟨a, b⟩ := dep_plain x (by omega)
    obtain ⟨a', b'⟩ := deps_plain xs (by omega)
    refine ⟨by simp only [PyData.plainAll, a, a', Bool.and_self], ?_⟩
    simp only [PyData.depthAll, deps]
    omega
end
theorem flat_ok {d : PyData} (h : flat d = true) : d.plain = true ∧ d.depth ≤ 60 := by
  have := of_decide_eq_true h
  obtain ⟨a, b⟩ := dep_plain d (by omega)
  exact ⟨a, by omega⟩
theorem flats_ok {d : List PyData} (h : flats d = true) : PyData.plainAll d = true ∧ PyData.depthAll d ≤ 60 := by
  have := of_decide_eq_true h
  obtain ⟨a, b⟩ := deps_plain d (by omega)
  exact ⟨a, by omega⟩

section
variable {G : Gd} {oc : List (Nat × Addr)} {μ : List Addr} {r : Rho} {h : Hh} {σ : L2.St} {H : Hp}
theorem Sr.plainOf (s : Sr G oc μ r h σ H) {d : D} {v : V} {p : PyData} (rd : RD G μ H d v) (e : plainOf h d = some p) : Dp G.K H v p := by
  unfold Y.plainOf at e
  split at e
  · cases e
    cases rd with
    | p q => exact q.dp
  · rw [nth_eq] at e
    split at e
    · rename_i q
      split at e
      · rename_i ps q2
        cases e
        obtain ⟨a, vs, rfl, _, _, e2, e3⟩ := s.lst q rd
        rw [allP_some q2] at e3
        exact .lst (SqL.of e2) (Pds.of e3).dp
      · cases e
    · cases e
  · cases e
theorem Sr.plainS (s : Sr G oc μ r h σ H) {d : D} {v : V} {b : Bool} {ps : List PyData} (rd : RD G μ H d v) (e : plainS h d = some (b, ps)) :
    ∃ a vs, v = .ref a ∧ DpAll G.K H vs ps ∧ ((b = true ∧ SqT G.K H a vs) ∨ (b = false ∧ Rd H a (.lst vs))) := by
  unfold Y.plainS at e
  split at e
  · cases e
    cases rd with
    | p q =>
      cases q with
      | tup w hs => exact ⟨_, _, rfl, hs.dp, .inl ⟨rfl, .inl (.inl w)⟩⟩
  · cases e
    cases rd with
    | p q =>
      cases q with
      | lst w hs => exact ⟨_, _, rfl, hs.dp, .inr ⟨rfl, .inr ⟨_, w⟩⟩⟩
  · split at e
    · rename_i q2
      cases e
      cases rd with
      | tup w hs =>
        rw [allP_some q2] at hs
        exact ⟨_, _, rfl, (Pds.of hs).dp, .inl ⟨rfl, w⟩⟩
    · cases e
  · rw [nth_eq] at e
    split at e
    · rename_i q
      split at e
      · rename_i ps' q2
        cases e
        obtain ⟨a, vs, rfl, _, _, e2, e3⟩ := s.lst q rd
        rw [allP_some q2] at e3
        exact ⟨_, _, rfl, (Pds.of e3).dp, .inr ⟨rfl, .inl e2⟩⟩
      · cases e
    · cases e
  · cases e
theorem Sr.plainSP (s : Sr G oc μ r h σ H) {d : D} {v : V} {ps : List PyData} (rd : RD G μ H d v) (e : Y.plainS h d = some (false, ps)) :
    ∃ a vs, v = .ref a ∧ Rd H a (.lst vs) ∧ Pds G.K H ps vs := by
  unfold Y.plainS at e
  split at e
  · cases e
  · cases e
    cases rd with
    | p q =>
      cases q with
      | lst w hs => exact ⟨_, _, rfl, .inr ⟨_, w⟩, hs⟩
  · split at e <;> cases e
  · rw [nth_eq] at e
    split at e
    · rename_i q
      split at e
      · rename_i ps' q2
        cases e
        obtain ⟨a, vs, rfl, _, _, e2, e3⟩ := s.lst q rd
        rw [allP_some q2] at e3
        exact ⟨_, _, rfl, .inl e2, Pds.of e3⟩
      · cases e
    · cases e
  · cases e
theorem look_val {κ : Type} [DecidableEq κ] {kvs : List (κ × D)} {ws : List (κ × V)} (rel : KR G μ H kvs ws) (k : κ) : (look kvs k = none ∧ valV ws k = none) ∨ ∃ d v, look kvs k = some d ∧ valV ws k = some v ∧ RD G μ H d v := by
  induction rel with
  | nil => exact .inl ⟨rfl, rfl⟩
  | @cons p q l m a b ih =>
    obtain ⟨j, d⟩ := p
    obtain ⟨j', v⟩ := q
    obtain ⟨e, rd⟩ := a
    simp only at e rd
    subst e
    by_cases hk : j = k
    · refine .inr ⟨d, v, by simp only [look, if_pos hk], valV_pos hk, rd⟩
    · simp only [look, if_neg hk]
      rw [valV_neg (show ¬ (j, v).1 = k from hk)]
      exact ih
theorem keysOf_map : ∀ {ps : List PyData} {ks : List Key}, keysOf ps = some ks → ∀ {vs : List V}, Pds G.K H ps vs → vs = ks.map L2.kV
  | [], ks, e, vs, h => by cases h; cases e; rfl
  | .int i :: r, ks, e, vs, h => by
    simp only [keysOf] at e
    split at e
    · rename_i ks' e'
      cases e
      cases h with
      | cons a b =>
        cases a
        rw [keysOf_map e' b]; rfl
    · cases e
  | .str i :: r, ks, e, vs, h => by
    simp only [keysOf] at e
    split at e
    · rename_i ks' e'
      cases e
      cases h with
      | cons a b =>
        cases a
        rw [keysOf_map e' b]; rfl
    · cases e
  | .none :: _, _, e, _, _ => by simp [keysOf] at e
  | .bool _ :: _, _, e, _, _ => by simp [keysOf] at e
  | .list _ :: _, _, e, _, _ => by simp [keysOf] at e
  | .tuple _ :: _, _, e, _, _ => by simp [keysOf] at e
  | .dict _ :: _, _, e, _, _ => by simp [keysOf] at e
theorem keyOf_v {d : D} {k : Key} {v : V} (e : keyOf d = some k) (rd : RD G μ H d v) : v = L2.kV k := by
  unfold keyOf at e
  split at e
  · cases e; rw [rd.int']; rfl
  · cases e; rw [rd.str']; rfl
  · cases e
theorem tkeyOf_v {d : D} {k : List Key} {v : V} (e : tkeyOf d = some k) (rd : RD G μ H d v) : ∃ b, v = .ref b ∧ H b = some (.tup (k.map L2.kV)) := by
  unfold tkeyOf at e
  split at e
  · cases rd with
    | p q =>
      cases q with
      | tup w hs =>
        rw [keysOf_map e hs] at w
        exact ⟨_, rfl, w⟩
  · cases e
/-- what a dict holds -/
theorem Sr.dget (s : Sr G oc μ r h σ H) {o k : D} {x y : V} {res : Option D} (ro : RD G μ H o x) (rk : RD G μ H k y) (e : dget h o k = some res) :
    ∃ a, x = .ref a ∧ IsD H a ∧ ∃ w, DGet H a y w ∧ ((res = none ∧ w = none) ∨ ∃ d v, res = some d ∧ w = some v ∧ RD G μ H d v) := by
  have key : ∀ {l : Nat} {ob : Ob}, h[l]? = some ob → RD G μ H (.ref l) x → (∀ c, ob ≠ .cell c) → ∃ a u, x = .ref a ∧ H a = some u ∧ HR G μ H ob u := fun {l ob} e rd nc => by
    cases rd with
    | ref q =>
      have nl : l ∉ r.cl := fun m => by
        obtain ⟨d, e'⟩ := s.mem_own m
        rw [e] at e'; cases e'; exact nc _ rfl
      obtain ⟨u, a1, a2⟩ := s.ob l _ _ e q nl
      exact ⟨_, u, rfl, a1, a2⟩
  unfold Y.dget at e
  split at e
  · rename_i l
    rw [nth_eq] at e
    have fin1 : ∀ {kvs : List (Key × D)} {ws : List (Key × V)} {k' : Key} {a : Addr}, KR G μ H kvs ws → y = L2.kV k' → Rd H a (.dK ws) → some (look kvs k') = some res → ∃ w, DGet H a y w ∧ ((res = none ∧ w = none) ∨ ∃ d v, res = some d ∧ w = some v ∧ RD G μ H d v) := fun {kvs ws k' a} rel ey hr e => by
      subst ey
      cases e
      refine ⟨valV ws k', .inl ⟨ws, k', hr, rfl, rfl⟩, ?_⟩
      rcases look_val rel k' with ⟨a1, a2⟩ | ⟨d, v, a1, a2, a3⟩
      · exact .inl ⟨a1, a2⟩
      · exact .inr ⟨d, v, a1, a2, a3⟩
    have fin2 : ∀ {kvs : List (List Key × D)} {ws : List (List Key × V)} {k' : List Key} {a b : Addr}, KR G μ H kvs ws → y = .ref b → H b = some (.tup (k'.map L2.kV)) → Rd H a (.dT ws) → some (look kvs k') = some res → ∃ w, DGet H a y w ∧ ((res = none ∧ w = none) ∨ ∃ d v, res = some d ∧ w = some v ∧ RD G μ H d v) := fun {kvs ws k' a b} rel ey hb hr e => by
      subst ey
      cases e
      refine ⟨valV ws k', .inr ⟨ws, k', b, hr, rfl, hb, rfl⟩, ?_⟩
      rcases look_val rel k' with ⟨a1, a2⟩ | ⟨d, v, a1, a2, a3⟩
      · exact .inl ⟨a1, a2⟩
      · exact .inr ⟨d, v, a1, a2, a3⟩
    split at e
    · rename_i kvs q
      split at e
      · rename_i k' ek
        obtain ⟨a, u, rfl, hu, rel⟩ := key q ro (fun c z => by cases z)
        cases u <;> first | exact rel.elim | skip
        obtain ⟨w, g1, g2⟩ := fin1 rel (keyOf_v ek rk) (.inl hu) e
        exact ⟨a, rfl, .inl ⟨_, .inl hu⟩, w, g1, g2⟩
      · cases e
    · rename_i kvs q
      split at e
      · rename_i k' ek
        obtain ⟨a, u, rfl, hu, rel⟩ := key q ro (fun c z => by cases z)
        cases u <;> first | exact rel.elim | skip
        obtain ⟨b, e1, e2⟩ := tkeyOf_v ek rk
        obtain ⟨w, g1, g2⟩ := fin2 rel e1 e2 (.inl hu) e
        exact ⟨a, rfl, .inr ⟨_, .inl hu⟩, w, g1, g2⟩
      · cases e
    · rename_i kvs q
      split at e
      · rename_i k' ek
        obtain ⟨a, u, rfl, hu, rel⟩ := key q ro (fun c z => by cases z)
        cases u <;> first | exact rel.elim | skip
        rename_i o u
        cases u <;> first | exact (show False from rel).elim | skip
        obtain ⟨w, g1, g2⟩ := fin1 (show KR G μ H kvs _ from rel) (keyOf_v ek rk) (.inr ⟨_, hu⟩) e
        exact ⟨a, rfl, .inl ⟨_, .inr ⟨_, hu⟩⟩, w, g1, g2⟩
      · cases e
    · rename_i kvs q
      split at e
      · rename_i k' ek
        obtain ⟨a, u, rfl, hu, rel⟩ := key q ro (fun c z => by cases z)
        cases u <;> first | exact rel.elim | skip
        rename_i o u
        cases u <;> first | exact (show False from rel).elim | skip
        obtain ⟨b, e1, e2⟩ := tkeyOf_v ek rk
        obtain ⟨w, g1, g2⟩ := fin2 (show KR G μ H kvs _ from rel) e1 e2 (.inr ⟨_, hu⟩) e
        exact ⟨a, rfl, .inr ⟨_, .inr ⟨_, hu⟩⟩, w, g1, g2⟩
      · cases e
    · cases e
  · cases e
end
end Y

namespace Y
open PySem PySem.Spec PyProof.Rows L2
section
variable {X : Cx} {C : Cfg}
def copOf : Cop → CmpOp
  | .eq => .Eq | .ne => .NotEq | .lt => .Lt | .le => .LtE | .gt => .Gt | .ge => .GtE | .is_ => .Is | .isnt => .IsNot | .in_ => .In | .notin => .NotIn
/-- Gr-free ending: nothing changed -/
theorem fin_same {pins : List (Addr × Obj)} {σ : L2.St} {H : Hp} {s : Shared} {Q : VK} {k : Bool} (I : Inv X pins σ H s) (q : Q (.bl k) H) : EP X pins σ Q (.bool k) s := ⟨.bl k, H, I, rfl, q⟩
theorem RD.none' {G : Gd} {μ : List Addr} {H : Hp} {x : V} (h : RD G μ H (.p .none) x) : x = .non := by
  cases h with
  | p h => cases h; rfl
theorem RD.not_none {G : Gd} {μ : List Addr} {H : Hp} {d : D} {x : V} (h : RD G μ H d x) (n : d ≠ .p .none) : x ≠ .non := by
  intro e
  subst e
  cases h with
  | p h => cases h; exact n rfl
theorem isV_ok {μ : List Addr} {H : Hp} {G : Gd} {a b : D} {k : Bool} {x y : V} (e : isV a b = some k) (ra : RD G μ H a x) (rb : RD G μ H b y) :
    (y = .non ∧ k = decide (x = .non)) ∨ ∃ c d : Bool, x = .bl c ∧ y = .bl d ∧ k = decide (c = d) := by
  unfold isV at e
  split at e
  · cases e
    obtain rfl := ra.none'
    obtain rfl := rb.none'
    exact .inl ⟨rfl, rfl⟩
  · rename_i n
    cases e
    obtain rfl := rb.none'
    refine .inl ⟨rfl, ?_⟩
    rw [decide_eq_false (ra.not_none fun z => n (by rw [z]))]
  · cases e
    obtain rfl := ra.bool'
    obtain rfl := rb.bool'
    exact .inr ⟨_, _, rfl, rfl, rfl⟩
  · cases e
theorem inD_ok {oc : List (Nat × Addr)} {μ : List Addr} {r : Rho} {h : Hh} {σ : L2.St} {H : Hp} {G : Gd} (s : Sr G oc μ r h σ H) {a b : D} {k : Bool} {x y : V} (e : inD h a b = some k) (ra : RD G μ H a x) (rb : RD G μ H b y) :
    (∃ p ps c, a = .p p ∧ plainS h b = some (c, ps) ∧ flat p = true ∧ flats ps = true ∧ k = ps.any fun y => PyData.eqv y p) ∨
    ∃ o, dget h b a = some o ∧ k = o.isSome := by
  unfold inD at e
  split at e
  · rename_i p _ ps q
    split at e
    · rename_i hf
      rw [Bool.and_eq_true] at hf
      cases e
      exact .inl ⟨_, _, _, rfl, q, hf.1, hf.2, rfl⟩
    · cases e
  · split at e
    · rename_i o q
      cases e
      exact .inr ⟨o, q, rfl⟩
    · cases e
theorem cmpI_int {o : Cop} {i j : Int} {k : Bool} (e : cmpI o i j = some k) (pins : List (Addr × Obj)) (s : Shared) (σ : L2.St) (H : Hp) (v u : Value) (Q : VK) (I : Inv X pins σ H s) (rx : RelV (.int i) v) (ry : RelV (.int j) u) (q : Q (.bl k) H) :
    wpAny (model X.prog X.w) X.A (compareOp (copOf o) v u) (EP X pins σ Q) X.xe s := by
  obtain ⟨t, rfl⟩ := rx
  obtain ⟨t', rfl⟩ := ry
  cases o <;> first | (cases e; done) | cases e
  · exact eq_int (by rw [Bool.beq_eq_decide_eq]; exact fin_same I q)
  · exact ne_int (by rw [bne, Bool.beq_eq_decide_eq]; exact fin_same I q)
  · exact lt_int (fin_same I q)
  · exact le_int (fin_same I q)
  · exact gt_int (fin_same I q)
  · exact ge_int (fin_same I q)
theorem ne_none_eqv {a : PyData} (h : (!PyData.eqv a .none) = true) : a ≠ .none := fun e => by subst e; simp [PyData.eqv] at h
theorem op_eqP (hu : X.A.units + 200 < cLine) {b : Bool} {a c : PyData} (fa : flat a = true) (fc : flat c = true) (pins : List (Addr × Obj)) (s : Shared) (σ : L2.St) (H : Hp) (x y : V) (v u : Value) (Q : VK) (I : Inv X pins σ H s) (rx : RelV x v) (ry : RelV y u)
    (ra : Dp X.K H x a) (rb : Dp X.K H y c) : (Q (.bl (PyData.eqv a c)) H → wpAny (model X.prog X.w) X.A (compareOp .Eq v u) (EP X pins σ Q) X.xe s) ∧ (Q (.bl (!PyData.eqv a c)) H → wpAny (model X.prog X.w) X.A (compareOp .NotEq v u) (EP X pins σ Q) X.xe s) := by
  obtain ⟨as, r1⟩ := Dp.reads I a x v ra rx
  obtain ⟨bs, r2⟩ := Dp.reads I c y u rb ry
  obtain ⟨p1, d1⟩ := flat_ok fa
  obtain ⟨p2, d2⟩ := flat_ok fc
  have hm := Nat.min_le_left a.depth c.depth
  exact ⟨fun q => SeqAt.eq_plain r1 r2 p1 p2 (by omega) (fin_same I q), fun q => SeqAt.ne_plain r1 r2 p1 p2 (by omega) (fin_same I q)⟩
theorem op_cmp (hK : C.G.K = X.K) (hu : X.A.units + 200 < cLine) (o : Cop) : OpR X (compareOp (copOf o)) (r2 C (fun x y h => obl (cmpV o h x y) h)) := by
  intro pins s σ H x y v u Q I rx ry hh
  obtain ⟨μ, ρ, h, σ', a, b, sr, ra, rb, af⟩ := hh
  obtain ⟨k, hb, q⟩ : ∃ k, cmpV o h a b = some k ∧ Q (.bl k) H := by
    replace af : Aft C (RV C) μ ρ σ' H (obl (cmpV o h a b) h) Q := af
    unfold obl at af
    split at af
    · rename_i k e
      exact ⟨k, e, Aft.ok (R := RV C) af sr (.p (.bl k))⟩
    · exact af.elim
  have eqc : ∀ k', eqD h a b = some k' → ∃ p c, flat p = true ∧ flat c = true ∧ Dp X.K H x p ∧ Dp X.K H y c ∧ k' = PyData.eqv p c := fun k' e => by
    unfold eqD at e
    split at e
    · rename_i p c e1 e2
      split at e
      · rename_i hf
        rw [Bool.and_eq_true] at hf
        cases e
        exact ⟨p, c, hf.1, hf.2, hK ▸ sr.plainOf ra e1, hK ▸ sr.plainOf rb e2, rfl⟩
      · cases e
    · cases e
  have inc : ∀ k', inD h a b = some k' → (Q (.bl k') H → wpAny (model X.prog X.w) X.A (compareOp .In v u) (EP X pins σ Q) X.xe s) ∧ (Q (.bl (!k')) H → wpAny (model X.prog X.w) X.A (compareOp .NotIn v u) (EP X pins σ Q) X.xe s) := fun k' e => by
    rcases inD_ok sr e ra rb with ⟨p, ps, c, rfl, e2, f1, f2, rfl⟩ | ⟨o', e2, rfl⟩
    · obtain ⟨p1, d1⟩ := flat_ok f1
      obtain ⟨p2, d2⟩ := flats_ok f2
      obtain ⟨b', vs, rfl, hd, hs⟩ := sr.plainS rb e2
      cases ra with
      | p ra =>
      have da : Dp X.K H x p := hK ▸ ra.dp
      obtain ⟨as, r1⟩ := Dp.reads I p x v da rx
      have hm := Nat.min_le_right (PyData.depthAll ps) p.depth
      rcases hs with ⟨rfl, hs⟩ | ⟨rfl, hs⟩
      · obtain ⟨bs, r2⟩ := Dp.reads I (.tuple ps) (.ref b') u (hK ▸ Dp.tup hs hd) ry
        exact ⟨fun q => SeqAt.in_tuple_data r2 r1 p2 p1 (by omega) (fin_same I q), fun q => SeqAt.notIn_tuple_data r2 r1 p2 p1 (by omega) (fin_same I q)⟩
      · obtain ⟨bs, r2⟩ := Dp.reads I (.list ps) (.ref b') u (hK ▸ Dp.lst (.inl hs) hd) ry
        exact ⟨fun q => SeqAt.in_list_data r2 r1 p2 p1 (by omega) (fin_same I q), fun q => SeqAt.notIn_list_data r2 r1 p2 p1 (by omega) (fin_same I q)⟩
    · obtain ⟨a', rfl, _, w, g, g2⟩ := sr.dget rb ra e2
      have ew : o'.isSome = w.isSome := by
        rcases g2 with ⟨rfl, rfl⟩ | ⟨d, v, rfl, rfl, _⟩ <;> rfl
      cases ry
      rw [ew]
      exact ⟨fun q => d_in (by omega) I g rx fun s' I' => fin_same I' q, fun q => d_notIn (by omega) I g rx fun s' I' => fin_same I' q⟩
  cases o with
  | is_ =>
    rcases isV_ok hb ra rb with ⟨rfl, rfl⟩ | ⟨c, d, rfl, rfl, rfl⟩
    · exact op_isN pins s σ H _ _ v u Q I rx ry ⟨rfl, q⟩
    · exact op_isBl pins s σ H _ _ v u Q I rx ry ⟨c, d, rfl, rfl, q⟩
  | isnt =>
    simp only [cmpV] at hb
    split at hb
    · rename_i k' e
      cases hb
      rcases isV_ok e ra rb with ⟨rfl, rfl⟩ | ⟨c, d, rfl, rfl, rfl⟩
      · exact op_notN pins s σ H _ _ v u Q I rx ry ⟨rfl, q⟩
      · exact op_notBl pins s σ H _ _ v u Q I rx ry ⟨c, d, rfl, rfl, q⟩
    · cases hb
  | in_ => exact (inc k hb).1 q
  | notin =>
    simp only [cmpV] at hb
    split at hb
    · rename_i k' e
      cases hb
      exact (inc k' e).2 q
    · cases hb
  | eq =>
    simp only [cmpV] at hb
    split at hb
    · cases hb
      obtain rfl := ra.int'
      obtain rfl := rb.int'
      exact cmpI_int (o := .eq) rfl pins s σ H v u Q I rx ry q
    · obtain ⟨p, c, f1, f2, d1, d2, rfl⟩ := eqc k hb
      exact (op_eqP hu (b := true) f1 f2 pins s σ H x y v u Q I rx ry d1 d2).1 q
  | ne =>
    simp only [cmpV] at hb
    split at hb
    · cases hb
      obtain rfl := ra.int'
      obtain rfl := rb.int'
      exact cmpI_int (o := .ne) rfl pins s σ H v u Q I rx ry q
    · split at hb
      · rename_i k' e
        cases hb
        obtain ⟨p, c, f1, f2, d1, d2, rfl⟩ := eqc k' e
        exact (op_eqP hu (b := true) f1 f2 pins s σ H x y v u Q I rx ry d1 d2).2 q
      · cases hb
  | _ =>
    simp only [cmpV] at hb
    split at hb
    · obtain rfl := ra.int'
      obtain rfl := rb.int'
      exact cmpI_int hb pins s σ H v u Q I rx ry q
    · rename_i p c _
      unfold cmpO at hb
      split at hb
      · rename_i hf
        rw [Bool.and_eq_true, Bool.and_eq_true, Bool.and_eq_true] at hf
        obtain ⟨⟨⟨f1, f2⟩, al⟩, nn⟩ := hf
        obtain ⟨_, d1⟩ := flat_ok f1
        obtain ⟨_, d2⟩ := flat_ok f2
        have hm := Nat.min_le_right p.depth c.depth
        cases ra with
        | p ra =>
        cases rb with
        | p rb =>
        obtain ⟨as, r1⟩ := Dp.reads I p x v (hK ▸ ra.dp) rx
        obtain ⟨bs, r2⟩ := Dp.reads I c y u (hK ▸ rb.dp) ry
        cases hb
        first
          | exact W.lt_data r1 r2 al (ne_none_eqv nn) (by omega) (fin_same I q)
          | exact W.gt_data r1 r2 al (ne_none_eqv nn) (by omega) (fin_same I q)
          | exact W.le_data r1 r2 al (ne_none_eqv nn) (by omega) (fin_same I q)
          | exact W.ge_data r1 r2 al (ne_none_eqv nn) (by omega) (fin_same I q)
      · cases hb
    · cases hb
end
end Y

/-! Y5: tests, and/or/not, chains, tuples, argument lists, subscripts. -/
namespace Y
open PySem PySem.Spec PyProof.Rows L2
section
variable {X : Cx} {C : Cfg} {a b c : Expr} {ma mb mc : SE} {pos : Pos}
/-- a test by an expression's meaning -/
noncomputable def tst (m : SE) : CSem → Rho → Hh → Res Bool := fun cs r h => testE cs m r h
theorem Sr.truth {G : Gd} {oc : List (Nat × Addr)} {μ : List Addr} {r : Rho} {h : Hh} {σ : L2.St} {H : Hp} (s : Sr G oc μ r h σ H) {d : D} {v : V} {k : Bool} (rd : RD G μ H d v) (e : truthV h d = some k) : TruV G.K v H k := by
  unfold truthV at e
  split at e
  · cases e; obtain rfl := rd.none'; rfl
  · cases e; obtain rfl := rd.bool'; rfl
  · cases e; obtain rfl := rd.int'; rfl
  · obtain rfl := rd.str'
    split at e
    · rename_i hl
      cases e
      exact ⟨Nat.le_trans hl LINE_le, rfl⟩
    · cases e
  · cases e
    cases rd with
    | p q =>
      cases q with
      | lst w hs => exact .inl ⟨_, .inl (.inr ⟨_, w⟩), by cases hs <;> rfl⟩
  · cases e
    cases rd with
    | p q =>
      cases q with
      | tup w hs => exact .inr (.inl ⟨_, .inl (.inl w), by cases hs <;> rfl⟩)
  · cases e
    cases rd with
    | tup w hs => exact .inr (.inl ⟨_, w, by cases hs <;> rfl⟩)
  · cases e
    cases rd with
    | lst w hs => exact .inl ⟨_, .inl (.inr ⟨_, w⟩), by cases hs <;> rfl⟩
  · rw [nth_eq] at e
    split at e
    · rename_i q
      cases e
      obtain ⟨a, vs, rfl, _, _, e2, e3⟩ := s.lst q rd
      exact .inl ⟨_, .inl (.inl e2), by cases e3 <;> rfl⟩
    · rename_i q
      cases e
      cases rd with
      | ref w =>
        obtain ⟨u, a1, a2⟩ := s.ob _ _ _ q w fun m => by
          obtain ⟨d, e'⟩ := s.mem_own m
          rw [q] at e'; cases e'
        cases u <;> first | exact a2.elim | skip
        exact .inr (.inr ⟨_, a1, by cases (show KR _ _ _ _ _ from a2) <;> rfl⟩)
    · cases e
  · cases e
theorem Aft.tst {m : SE} {μ : List Addr} {r : Rho} {h : Hh} {σ : L2.St} {H : Hp} {Q : Bool → Hp → Prop} (x : Aft C RB μ r σ H (Y.tst m C.cs r h) Q) :
    Aft C (RV C) μ r σ H (m C.cs r h) fun v H1 => ∃ μ1 a h1, Gr r.cl μ H μ1 H1 ∧ Sr C.G C.oc μ1 r h1 σ H1 ∧ RD C.G μ1 H1 a v ∧ ∃ k, truthV h1 a = some k ∧ Q k H1 := by
  refine (Aft.bind (R := RV C) x).imp fun v H1 z => ?_
  obtain ⟨μ1, d, h1, g, s, rd, af⟩ := z
  obtain ⟨k, e, q⟩ := Aft.opt af
  exact ⟨μ1, d, h1, g, s, rd, k, e, q μ1 k H1 (Gr.refl _ _) s rfl⟩
theorem tst_tru (hK : C.G.K = X.K) {σ : L2.St} {H : Hp} {Q : Bool → Hp → Prop} (x : tT C (tst ma) σ H Q) : tE C ma σ H fun x H' => ∃ k, TruV X.K x H' k ∧ Q k H' := by
  obtain ⟨μ, r, h, s, a⟩ := x
  refine ⟨μ, r, h, s, a.tst.imp fun v H1 z => ?_⟩
  obtain ⟨μ1, d, h1, g, s1, rd, k, e, q⟩ := z
  exact ⟨k, hK ▸ s1.truth rd e, q⟩
/-- a test of any other form -/
theorem y_tru (hK : C.G.K = X.K) (ha : PE X a (tE C ma)) (he : ∀ whole, isTrue a X.env whole = (do let v ← whole; standAt a.pos; holding [v] (truthy v))) : PT X a (tT C (tst ma)) :=
  PT.w (pt_truth ha he) fun σ H Q h => tst_tru hK h
/-! ### comparisons -/
theorem y_cmp (hK : C.G.K = X.K) (hu : X.A.units + 200 < cLine) {o : Cop} (ha : PE X a (tE C ma)) (hb : PE X b (tE C mb)) (hm : behindInMarks (copOf o) b = false) : PE X (.Compare a [copOf o] [b] pos) (tE C (kCmp o ma mb)) :=
  PE.w (pe_cmpR (op_cmp hK hu o) ha hb hm) fun σ H Q h => two h
/-- a meaning whose values are bools -/
def Bls (m : SE) : Prop := ∀ cs r h d h', m cs r h = .ok d h' → ∃ k, d = bl k
theorem obl_bl {o : Option Bool} {h h' : Hh} {d : D} (e : obl o h = .ok d h') : ∃ k, d = bl k := by
  unfold obl at e
  split at e
  · cases e; exact ⟨_, rfl⟩
  · cases e
theorem bind_ok {α β : Type} {m : Res α} {f : α → Hh → Res β} {b : β} {h' : Hh} (e : m.bind f = .ok b h') : ∃ a h, m = .ok a h ∧ f a h = .ok b h' := by
  cases m with
  | ok a h => exact ⟨a, h, rfl, e⟩
  | exn _ _ _ => cases e
  | bad => cases e
theorem bls_cmp {o : Cop} : Bls (kCmp o ma mb) := fun cs r h d h' e => by
  obtain ⟨x, h1, _, e⟩ := bind_ok e
  obtain ⟨y, h2, _, e⟩ := bind_ok e
  exact obl_bl e
theorem bls_chn {o o' : Cop} : Bls (kChn o o' ma mb mc) := fun cs r h d h' e => by
  obtain ⟨x, h1, _, e⟩ := bind_ok e
  obtain ⟨y, h2, _, e⟩ := bind_ok e
  try dsimp only at e
  split at e
  · obtain ⟨z, h3, _, e⟩ := bind_ok e
    exact obl_bl e
  · cases e; exact ⟨_, rfl⟩
  · cases e
theorem bls_test {m : SE} (hb : Bls m) {σ : L2.St} {H : Hp} {Q : Bool → Hp → Prop} (x : tT C (tst m) σ H Q) : tE C m σ H fun v H1 => ∃ k, v = .bl k ∧ Q k H1 := by
  obtain ⟨μ, r, h, s, a⟩ := x
  refine ⟨μ, r, h, s, ?_⟩
  have a2 := a.tst
  cases q : m C.cs r h with
  | bad => rw [q] at a2; exact a2
  | exn c fs h' => rw [q] at a2; exact a2
  | ok d h' =>
    rw [q] at a2
    obtain ⟨k, rfl⟩ := hb _ _ _ _ _ q
    intro μ' v H' g s' rd
    obtain ⟨μ1, d', h1, g1, s1, rd1, k', e, q'⟩ := a2 μ' v H' g s' rd
    have rd0 : RD C.G μ' H' (.p (.bool k)) v := rd
    obtain rfl := rd0.bool'
    have tv := s1.truth rd1 e
    exact ⟨k, rfl, (show k' = k from tv) ▸ q'⟩
theorem y_tcmp (hK : C.G.K = X.K) (hu : X.A.units + 200 < cLine) {o : Cop} (ha : PE X a (tE C ma)) (hb : PE X b (tE C mb)) (hm : behindInMarks (copOf o) b = false) : PT X (.Compare a [copOf o] [b] pos) (tT C (tst (kCmp o ma mb))) :=
  PT.w (pt_cmpR (op_cmp hK hu o) ha hb hm) fun σ H Q h => two (bls_test bls_cmp h)
theorem chn {o o' : Cop} {σ : L2.St} {H : Hp} {Q : VK} (h : tE C (kChn o o' ma mb mc) σ H Q) :
    tChain (r2 C fun x y h => obl (cmpV o h x y) h) (r2 C fun x y h => obl (cmpV o' h x y) h) (tE C ma) (tE C mb) (tE C mc) σ H Q := by
  obtain ⟨μ, r, h, s, a⟩ := h
  refine ⟨μ, r, h, s, (Aft.bind (R := RV C) a).imp fun x H1 z => ?_⟩
  obtain ⟨μ1, d, h1, g1, s1, rd1, a1⟩ := z
  refine ⟨μ1, r, h1, s1, (Aft.bind (R := RV C) a1).imp fun y H2 z => ?_⟩
  obtain ⟨μ2, e, h2, g2, s2, rd2, a2⟩ := z
  refine ⟨μ2, r, h2, σ, d, e, s2, rd1.mono g2.kp, rd2, ?_⟩
  show Aft C (RV C) μ2 r σ H2 (obl (cmpV o h2 d e) h2) _
  cases q : cmpV o h2 d e with
  | none => rw [q] at a2; exact a2
  | some k =>
    rw [q] at a2
    show Aft C (RV C) μ2 r σ H2 (.ok (bl k) h2) _
    intro μ3 v H3 g3 s3 rd3
    have rd3' : RD C.G μ3 H3 (.p (.bool k)) v := rd3
    obtain rfl := rd3'.bool'
    refine ⟨k, rfl, ?_⟩
    cases k with
    | false => exact a2 μ3 _ H3 g3 s3 (.p (.bl false))
    | true =>
      rw [if_pos rfl]
      refine ⟨μ3, r, h2, s3, (Aft.bind (R := RV C) (Aft.mono g3 a2)).imp fun w H4 z => ?_⟩
      obtain ⟨μ4, f, h4, g4, s4, rd4, a4⟩ := z
      exact ⟨μ4, r, h4, σ, e, f, s4, rd2.mono (g3.trans g4).kp, rd4, a4⟩
theorem y_chn (hK : C.G.K = X.K) (hu : X.A.units + 200 < cLine) {o o' : Cop} (ha : PE X a (tE C ma)) (hb : PE X b (tE C mb)) (hc : PE X c (tE C mc)) (hm : lastMarks [copOf o, copOf o'] [b, c] = false) :
    PE X (.Compare a [copOf o, copOf o'] [b, c] pos) (tE C (kChn o o' ma mb mc)) :=
  PE.w (pe_chain (op_cmp hK hu o) (op_cmp hK hu o') ha hb hc hm) fun σ H Q h => chn h
theorem y_tchn (hK : C.G.K = X.K) (hu : X.A.units + 200 < cLine) {o o' : Cop} (ha : PE X a (tE C ma)) (hb : PE X b (tE C mb)) (hc : PE X c (tE C mc)) (hm : lastMarks [copOf o, copOf o'] [b, c] = false) :
    PT X (.Compare a [copOf o, copOf o'] [b, c] pos) (tT C (tst (kChn o o' ma mb mc))) :=
  PT.w (pt_chain (op_cmp hK hu o) (op_cmp hK hu o') ha hb hc hm) fun σ H Q h => chn (bls_test bls_chn h)

/-! ### and, or, not -/
variable {rest : List Expr}
theorem y_and (hK : C.G.K = X.K) (ha : PE X a (tE C ma)) (hb : PE X (.BoolOp .And (b :: rest) pos) (tE C mb)) : PE X (.BoolOp .And (a :: b :: rest) pos) (tE C (kAnd ma mb)) := by
  refine PE.w (pe_andT ha hb) fun σ H Q h => ?_
  obtain ⟨μ, r, h, s, a⟩ := h
  refine ⟨μ, r, h, s, (Aft.bind (R := RV C) a).imp fun x H1 z => ?_⟩
  obtain ⟨μ1, d, h1, g1, s1, rd1, a1⟩ := z
  try dsimp only at a1
  split at a1
  · rename_i e
    refine ⟨true, hK ▸ s1.truth rd1 e, ?_⟩
    rw [if_pos rfl]
    exact ⟨μ1, r, h1, s1, a1⟩
  · rename_i e
    refine ⟨false, hK ▸ s1.truth rd1 e, ?_⟩
    rw [if_neg (by decide)]
    exact a1.ok s1 rd1
  · exact a1.elim
theorem y_or (hK : C.G.K = X.K) (ha : PE X a (tE C ma)) (hb : PE X (.BoolOp .Or (b :: rest) pos) (tE C mb)) : PE X (.BoolOp .Or (a :: b :: rest) pos) (tE C (kOr ma mb)) := by
  refine PE.w (pe_orT ha hb) fun σ H Q h => ?_
  obtain ⟨μ, r, h, s, a⟩ := h
  refine ⟨μ, r, h, s, (Aft.bind (R := RV C) a).imp fun x H1 z => ?_⟩
  obtain ⟨μ1, d, h1, g1, s1, rd1, a1⟩ := z
  try dsimp only at a1
  split at a1
  · rename_i e
    refine ⟨true, hK ▸ s1.truth rd1 e, ?_⟩
    rw [if_pos rfl]
    exact a1.ok s1 rd1
  · rename_i e
    refine ⟨false, hK ▸ s1.truth rd1 e, ?_⟩
    rw [if_neg (by decide)]
    exact ⟨μ1, r, h1, s1, a1⟩
  · exact a1.elim
theorem y_one {op : BoolOp} (ha : PE X a (tE C ma)) : PE X (.BoolOp op [a] pos) (tE C ma) := pe_one ha
theorem y_not (hK : C.G.K = X.K) (ha : PE X a (tE C ma)) : PE X (.UnaryOp .Not a pos) (tE C (kNot ma)) := by
  refine PE.w (pe_notT ha) fun σ H Q h => ?_
  obtain ⟨μ, r, h, s, a⟩ := h
  refine ⟨μ, r, h, s, (Aft.bind (R := RV C) a).imp fun x H1 z => ?_⟩
  obtain ⟨μ1, d, h1, g1, s1, rd1, a1⟩ := z
  try dsimp only at a1
  split at a1
  · rename_i k e
    exact ⟨k, hK ▸ s1.truth rd1 e, Aft.ok (R := RV C) a1 s1 (.p (.bl (!k)))⟩
  · exact a1.elim
theorem tst_and {cs : CSem} {r : Rho} {h : Hh} : tst (kAnd ma mb) cs r h = (tst ma cs r h).bind fun k h1 => match k with
    | true => tst mb cs r h1
    | false => .ok false h1 := by
  simp only [tst, testE, kAnd]
  cases q : ma cs r h with
  | bad => rfl
  | exn c fs h1 => rfl
  | ok x h1 =>
    simp only [Res.bind]
    cases q2 : truthV h1 x with
    | none => rfl
    | some k => cases k <;> simp only [q2, opt, Res.bind]
theorem tst_or {cs : CSem} {r : Rho} {h : Hh} : tst (kOr ma mb) cs r h = (tst ma cs r h).bind fun k h1 => match k with
    | true => .ok true h1
    | false => tst mb cs r h1 := by
  simp only [tst, testE, kOr]
  cases q : ma cs r h with
  | bad => rfl
  | exn c fs h1 => rfl
  | ok x h1 =>
    simp only [Res.bind]
    cases q2 : truthV h1 x with
    | none => rfl
    | some k => cases k <;> simp only [q2, opt, Res.bind]
theorem tst_not {cs : CSem} {r : Rho} {h : Hh} : tst (kNot ma) cs r h = (tst ma cs r h).bind fun k h1 => .ok (!k) h1 := by
  simp only [tst, testE, kNot]
  cases q : ma cs r h with
  | bad => rfl
  | exn c fs h1 => rfl
  | ok x h1 =>
    simp only [Res.bind]
    cases q2 : truthV h1 x with
    | none => rfl
    | some k => cases k <;> rfl
theorem y_tand (ha : PT X a (tT C (tst ma))) (hb : PW X (.BoolOp .And (b :: rest) pos) (tT C (tst mb))) : PW X (.BoolOp .And (a :: b :: rest) pos) (tT C (tst (kAnd ma mb))) := by
  refine ⟨fun wh pins s σ H Q I h => (pw_and ha hb).run wh pins s σ H Q I ?_⟩
  obtain ⟨μ, r, h, s, a⟩ := h
  rw [tst_and] at a
  refine ⟨μ, r, h, s, (Aft.bind (R := RB) a).imp fun x H1 z => ?_⟩
  obtain ⟨μ1, d, h1, g1, s1, rfl, a1⟩ := z
  cases d with
  | true => rw [if_pos rfl]; exact ⟨μ1, r, h1, s1, a1⟩
  | false => rw [if_neg (by decide)]; exact a1.ok s1 rfl
theorem y_tor (ha : PT X a (tT C (tst ma))) (hb : PW X (.BoolOp .Or (b :: rest) pos) (tT C (tst mb))) : PW X (.BoolOp .Or (a :: b :: rest) pos) (tT C (tst (kOr ma mb))) := by
  refine ⟨fun wh pins s σ H Q I h => (pw_or ha hb).run wh pins s σ H Q I ?_⟩
  obtain ⟨μ, r, h, s, a⟩ := h
  rw [tst_or] at a
  refine ⟨μ, r, h, s, (Aft.bind (R := RB) a).imp fun x H1 z => ?_⟩
  obtain ⟨μ1, d, h1, g1, s1, rfl, a1⟩ := z
  cases d with
  | true => rw [if_pos rfl]; exact a1.ok s1 rfl
  | false => rw [if_neg (by decide)]; exact ⟨μ1, r, h1, s1, a1⟩
theorem y_tand1 (ha : PT X a (tT C (tst ma))) : PW X (.BoolOp .And [a] pos) (tT C (tst ma)) := pw_and1 ha
theorem y_tor1 (ha : PT X a (tT C (tst ma))) : PW X (.BoolOp .Or [a] pos) (tT C (tst ma)) := pw_or1 ha
theorem y_tnot (ha : PT X a (tT C (tst ma))) : PT X (.UnaryOp .Not a pos) (tT C (tst (kNot ma))) := by
  refine PT.w (pt_not ha) fun σ H Q h => ?_
  obtain ⟨μ, r, h, s, a⟩ := h
  rw [tst_not] at a
  refine ⟨μ, r, h, s, (Aft.bind (R := RB) a).imp fun x H1 z => ?_⟩
  obtain ⟨μ1, d, h1, g1, s1, rfl, a1⟩ := z
  exact a1.ok s1 rfl
theorem y_ife (hc : PT X c (tT C (tst mc))) (ha : PE X a (tE C ma)) (hb : PE X b (tE C mb)) : PE X (.IfExp c a b pos) (tE C (kIf mc ma mb)) := by
  refine PE.w (pe_ifExp hc ha hb) fun σ H Q h => ?_
  obtain ⟨μ, r, h, s, a⟩ := h
  have e : kIf mc ma mb C.cs r h = (tst mc C.cs r h).bind fun k h1 => match k with
      | true => ma C.cs r h1
      | false => mb C.cs r h1 := by
    simp only [tst, testE, kIf]
    cases q : mc C.cs r h with
    | bad => rfl
    | exn c fs h1 => rfl
    | ok x h1 =>
      simp only [Res.bind]
      cases q2 : truthV h1 x with
      | none => rfl
      | some k => cases k <;> rfl
  rw [e] at a
  refine ⟨μ, r, h, s, (Aft.bind (R := RB) a).imp fun x H1 z => ?_⟩
  obtain ⟨μ1, d, h1, g1, s1, rfl, a1⟩ := z
  cases d with
  | true => rw [if_pos rfl]; exact ⟨μ1, r, h1, s1, a1⟩
  | false => rw [if_neg (by decide)]; exact ⟨μ1, r, h1, s1, a1⟩

/-! ### argument lists, tuples -/
theorem y_anil : PA X [] (tA C aNil) := PA.w pa_nil fun σ H Q h => by
  obtain ⟨μ, r, h, s, a⟩ := h
  exact a.ok s .nil
variable {es : List Expr} {mes : SL}
theorem y_acons (ha : PE X a (tE C ma)) (hr : PA X es (tA C mes)) (hs : starEach (a :: es) X.env = (false, eval a X.env) :: starEach es X.env) : PA X (a :: es) (tA C (aCons ma mes)) := by
  refine PA.w (pa_cons ha hr hs) fun σ H Q h => ?_
  obtain ⟨μ, r, h, s, a⟩ := h
  refine ⟨μ, r, h, s, (Aft.bind (R := RV C) a).imp fun x H1 z => ?_⟩
  obtain ⟨μ1, d, h1, g1, s1, rd1, a1⟩ := z
  refine ⟨μ1, r, h1, s1, (Aft.bind (R := RVs C) a1).imp fun y H2 z => ?_⟩
  obtain ⟨μ2, e, h2, g2, s2, rd2, a2⟩ := z
  exact a2.ok s2 (.cons (rd1.mono g2.kp) rd2)
theorem y_tup {x1} (h : PA X es (tA C mes)) : PE X (.Tuple es x1 pos) (tE C (kTup mes)) := by
  refine PE.w (pe_tup h) fun σ H Q h => ?_
  obtain ⟨μ, r, h, s, a⟩ := h
  refine ⟨μ, r, h, s, (Aft.bind (R := RVs C) a).imp fun xs H1 z => ?_⟩
  obtain ⟨μ1, d, h1, g1, s1, rd1, a1⟩ := z
  try dsimp only at a1
  split at a1
  · rename_i hl
    refine ⟨by rw [← rd1.length]; exact Nat.le_trans (Nat.ble_eq.mp hl) LINE_le, fun p np => ?_⟩
    have g : Gr r.cl μ1 H1 μ1 (upd H1 p (.tup xs)) := Gr.laid np
    exact a1 μ1 _ _ g (s1.laid np) (RD.mkTup upd_same (rd1.mono g.kp))
  · exact a1.elim
end
end Y

/-! Y6: subscripts, slices. -/
namespace Y
open PySem PySem.Spec PyProof.Rows L2
theorem clip_eq (n d : Nat) (o : Option Int) : clip n d o = HT.sIx n d o := by cases o <;> rfl
theorem atI_eq {α : Type} (xs : List α) (i : Int) : Y.atI xs i = L2.atI xs i := by
  unfold Y.atI L2.atI
  show (match L2.ixN xs.length i with | some j => nth xs j | none => none) = _
  cases L2.ixN xs.length i with
  | none => rfl
  | some j => exact nth_eq xs j
theorem atI_some {α : Type} {xs : List α} {i : Int} {v : α} (e : Y.atI xs i = some v) : ∃ j, Y.ixN xs.length i = some j ∧ xs[j]? = some v := by
  unfold Y.atI at e
  split at e
  · rename_i j q
    rw [nth_eq] at e
    exact ⟨j, q, e⟩
  · cases e
theorem RDs.at {G : Gd} {μ : List Addr} {H : Hp} {ds : List D} {vs : List V} {i : Int} {d : D} (r : RDs G μ H ds vs) (e : Y.atI ds i = some d) : ∃ v, L2.atI vs i = some v ∧ RD G μ H d v := by
  obtain ⟨j, e1, e2⟩ := atI_some e
  obtain ⟨v, e3, rd⟩ := r.get e2
  refine ⟨v, ?_, rd⟩
  unfold L2.atI
  rw [← r.length]
  show (Y.ixN ds.length i).bind _ = _
  rw [e1]
  exact e3
section
variable {X : Cx} {C : Cfg}
/-- d[k] of a dict -/
theorem ix_dict (hu : X.A.units + 1 < cLine) : IxR X (fun x y H Q => ∃ a v, x = .ref a ∧ DGet H a y (some v) ∧ Q v H) := by
  intro value slice pins s σ H x y v u Q I rx ry h hs
  obtain ⟨a, z, rfl, g, q⟩ := h
  cases rx
  exact PyProof.Rows.tail_any (dict_typeIs I g) PySem.F.slot_dict_getitem.lookup (d_getItem hu I g ry fun w' s' I' rw' => ⟨z, H, I', rw', q⟩) hs
theorem ixV_ok {oc : List (Nat × Addr)} {μ : List Addr} {r : Rho} {h : Hh} {σ : L2.St} {H : Hp} {G : Gd} (s : Sr G oc μ r h σ H) {o i d : D} {x y : V} (e : ixV h o i = some d) (ro : RD G μ H o x) (ri : RD G μ H i y) :
    ∃ v, RD G μ H d v ∧ ∀ Q : VK, Q v H → rIx G.K x y H Q ∨ ∃ a v, x = .ref a ∧ DGet H a y (some v) ∧ Q v H := by
  unfold ixV at e
  split at e
  · rename_i z j
    split at e
    · rename_i hl
      split at e
      · rename_i c ec
        cases e
        obtain rfl := ro.str'
        obtain rfl := ri.int'
        rw [atI_eq] at ec
        exact ⟨_, .p (.str _), fun Q q => .inl (.inr (.inr ⟨z, j, c, rfl, rfl, Nat.le_trans hl LINE_le, ec, q⟩))⟩
      · cases e
    · cases e
  · split at e
    · rename_i xs j e1 _
      obtain ⟨a, vs, rfl, ht, rs⟩ := ro.seqT e1
      obtain rfl := ri.int'
      obtain ⟨v, e2, rd⟩ := rs.at e
      exact ⟨v, rd, fun Q q => .inl (.inr (.inl ⟨a, vs, j, v, rfl, rfl, ht, e2, q⟩))⟩
    · split at e
      · rename_i xs j e1 _ _
        obtain ⟨a, vs, rfl, ht, rs⟩ := s.seqL ro e1
        obtain rfl := ri.int'
        obtain ⟨v, e2, rd⟩ := rs.at e
        exact ⟨v, rd, fun Q q => .inl (.inl ⟨a, vs, j, v, rfl, rfl, .inl ht, e2, q⟩)⟩
      · split at e
        · rename_i d' e1
          cases e
          obtain ⟨a, rfl, _, w, g, g2⟩ := s.dget ro ri e1
          rcases g2 with ⟨z, _⟩ | ⟨d2, v, e2, rfl, rd⟩
          · cases z
          · cases e2
            exact ⟨v, rd, fun Q q => .inr ⟨a, v, rfl, g, q⟩⟩
        · cases e
theorem ix_any (hK : C.G.K = X.K) (hu : X.A.units + 1 < cLine) : IxR X (r2 C fun x y h => opt (ixV h x y) h) := by
  intro value slice pins s σ H x y v u Q I rx ry hh hs
  obtain ⟨μ, ρ, h, σ', a, b, sr, ra, rb, af⟩ := hh
  obtain ⟨d, e, af⟩ := Aft.opt (R := RV C) af
  obtain ⟨w, rd, f⟩ := ixV_ok sr e ra rb
  rw [hK] at f
  exact (ix_seq.or (ix_dict hu)) value slice pins s σ H x y v u Q I rx ry (f Q (af μ w H (Gr.refl _ _) sr rd)) hs
theorem y_ix (hK : C.G.K = X.K) (hu : X.A.units + 1 < cLine) {a b : Expr} {ma mb : SE} {pos : Pos} (ha : PE X a (tE C ma)) (hb : PE X b (tE C mb)) (hs : PlainIx b) : PE X (.Subscript a b pos) (tE C (kIx ma mb)) :=
  PE.w (pe_ix (ix_any hK hu) ha hb hs) fun σ H Q h => two h

/-! ### slices -/
def RO (C : Cfg) : List Addr → Hp → Option D → Option Int → Prop := fun _ _ o i => sliceI o = some i
/-- a slice's part -/
theorem RDs.cut {G : Gd} {μ : List Addr} {H : Hp} {ds : List D} {vs : List V} (r : RDs G μ H ds vs) (lo hi : Option Int) : RDs G μ H (Y.cut ds lo hi) (cutV vs lo hi) := by
  unfold Y.cut cutV
  rw [clip_eq, clip_eq, r.length]
  exact (r.drop _).take _
def SlOk (m : SO) : Prop := ∀ cs r h o h', m cs r h = .ok o h' → ∃ i, sliceI o = some i
abbrev RI : List Addr → Hp → Option Int → Option Int → Prop := fun _ _ a b => a = b
theorem y_ono : PO X none (tR C RI (slP oNo)) := by
  refine ⟨fun pins s σ H Q I h => po_none.run pins s σ H Q I ?_⟩
  obtain ⟨μ, r, h, s, a⟩ := h
  exact a.ok s rfl
theorem y_oso {e : Expr} {m : SE} (h : PE X e (tE C m)) : PO X (some e) (tR C RI (slP (oSo m))) := by
  refine ⟨fun pins s σ H Q I hh => (po_some h).run pins s σ H Q I ?_⟩
  obtain ⟨μ, r, h, s, a⟩ := hh
  have ea : slP (oSo m) C.cs r h = (m C.cs r h).bind fun x h1 => opt (sliceI (some x)) h1 := by
    simp only [slP, oSo]
    cases m C.cs r h <;> rfl
  rw [ea] at a
  refine ⟨μ, r, h, s, (Aft.bind (R := RV C) a).imp fun x H1 z => ?_⟩
  obtain ⟨μ1, d, h1, g1, s1, rd1, a1⟩ := z
  unfold sliceI at a1
  split at a1
  · cases (by assumption : some d = none)
  · rename_i j q
    cases q
    obtain rfl := rd1.int'
    exact ⟨j, rfl, Aft.ok (R := RI) a1 s1 rfl⟩
  · exact a1.elim
theorem sl_any (hK : C.G.K = X.K) : SlR X fun x lo hi H Q => ∃ μ ρ h σ a, Sr C.G C.oc μ ρ h σ H ∧ RD C.G μ H a x ∧ Aft C (RV C) μ ρ σ H (opt (cutI a lo hi) h) Q := by
  intro pins s σ H x v vl vu lo hi sl Q I rx hs pl pu hh
  obtain ⟨μ, ρ, h, σ', a, sr, ra, af⟩ := hh
  obtain ⟨d, e, af⟩ := Aft.opt (R := RV C) af
  unfold cutI at e
  split at e
  · rename_i z
    split at e
    · rename_i hl
      cases e
      obtain rfl := ra.str'
      have ec : (⟨(Y.cut z.cps.toList lo hi).toArray⟩ : Str) = cutS z lo hi := by
        unfold Y.cut cutS
        rw [clip_eq, clip_eq]
        rfl
      rw [ec] at af
      exact sl_str pins s σ H _ v vl vu lo hi sl Q I rx hs pl pu ⟨z, rfl, Nat.le_trans hl LINE_le, af μ _ H (Gr.refl _ _) sr (.p (.str _))⟩
    · cases e
  · split at e
    · rename_i xs e1
      cases e
      obtain ⟨p, vs, rfl, ht, rs⟩ := ra.seqT e1
      have hl := rs.length
      refine sl_tupA pins s σ H _ v vl vu lo hi sl Q I rx hs pl pu ⟨p, vs, rfl, hK ▸ ht, fun z => ?_, fun z q nq => ?_⟩
      · have ec : cutW a xs lo hi = a := by
          unfold cutW
          rw [clip_eq, clip_eq, hl, if_pos]
          rw [Bool.and_eq_true]
          exact ⟨Nat.beq_eq.mpr z.1, Nat.beq_eq.mpr z.2⟩
        rw [ec] at af
        exact af μ _ H (Gr.refl _ _) sr ra
      · have ec : cutW a xs lo hi = mkTup (Y.cut xs lo hi) := by
          unfold cutW
          rw [clip_eq, clip_eq, hl, if_neg]
          rw [Bool.and_eq_true]
          exact fun w => z ⟨Nat.beq_eq.mp w.1, Nat.beq_eq.mp w.2⟩
        rw [ec] at af
        have g : Gr ρ.cl μ H μ (upd H q (.tup (cutV vs lo hi))) := Gr.laid nq
        exact af μ _ _ g (sr.laid nq) (.mkTup upd_same ((rs.cut lo hi).mono g.kp))
    · cases e
/-- three parts in a row, two of them a slice's -/
theorem three_sl {γ δ : Type} {R : List Addr → Hp → γ → δ → Prop} {ma : SE} {ml mu : SO} {f : D → Option Int → Option Int → Hh → Res γ} {σ : L2.St} {H : Hp} {Q : δ → Hp → Prop}
    (h : tR C R (fun cs r h => (ma cs r h).bind fun x h1 => (slP ml cs r h1).bind fun l h2 => (slP mu cs r h2).bind fun u h3 => f x l u h3) σ H Q) :
    tE C ma σ H fun x H1 => tR C RI (slP ml) σ H1 fun l H2 => tR C RI (slP mu) σ H2 fun u H3 => ∃ μ ρ h a, Sr C.G C.oc μ ρ h σ H3 ∧ RD C.G μ H3 a x ∧ Aft C R μ ρ σ H3 (f a l u h) Q := by
  obtain ⟨μ, r, h, s, a⟩ := h
  refine ⟨μ, r, h, s, (Aft.bind (R := RV C) a).imp fun x H1 z => ?_⟩
  obtain ⟨μ1, d, h1, g1, s1, rd1, a1⟩ := z
  refine ⟨μ1, r, h1, s1, (Aft.bind (R := RI) a1).imp fun l H2 z => ?_⟩
  obtain ⟨μ2, l', h2, g2, s2, rfl, a2⟩ := z
  refine ⟨μ2, r, h2, s2, (Aft.bind (R := RI) a2).imp fun u H3 z => ?_⟩
  obtain ⟨μ3, u', h3, g3, s3, rfl, a3⟩ := z
  exact ⟨μ3, r, h3, d, s3, rd1.mono (g2.trans g3).kp, a3⟩
theorem y_sl (hK : C.G.K = X.K) {a : Expr} {lo hi : Option Expr} {ma : SE} {ml mu : SO} {p2 pos : Pos} (ha : PE X a (tE C ma)) (hl : PO X lo (tR C RI (slP ml))) (hu : PO X hi (tR C RI (slP mu))) : PE X (.Subscript a (.Slice lo hi none p2) pos) (tE C (kSl ma ml mu)) :=
  PE.w (pe_slice (sl_any (C := C) hK) ha hl hu) fun σ H Q h => (three_sl h).imp fun μ z => by
    obtain ⟨r, h, s, a⟩ := z
    refine ⟨r, h, s, a.imp fun x H1 z => ?_⟩
    obtain ⟨μ1, r1, h1, s1, a1⟩ := z
    refine ⟨μ1, r1, h1, s1, a1.imp fun l H2 z => ?_⟩
    obtain ⟨μ2, r2, h2, s2, a2⟩ := z
    refine ⟨μ2, r2, h2, s2, a2.imp fun u H3 z => ?_⟩
    obtain ⟨μ3, r3, h3, d, s3, rd, a3⟩ := z
    exact ⟨μ3, r3, h3, σ, d, s3, rd, a3⟩
end
end Y

/-! Y7: targets, what is walked, list makers. -/
namespace Y
open PySem PySem.Spec PyProof.Rows L2

/-! ### targets -/
/-- the places in the frame that a target stores -/
def tgN (oc : List (Nat × Addr)) : Tg → List Nat
  | .nm i => [i]
  | .cn j => match oc[j]? with
    | some p => [p.1]
    | none => []
  | .tup t => tgN oc t
  | .nil => []
  | .cons a b => tgN oc a ++ tgN oc b
theorem keepN {σ σ' σ2 : L2.St} {as bs : List Nat} (h1 : ∀ i, i ∉ as → σ'[i]? = σ[i]?) (h2 : ∀ i, i ∉ bs → σ2[i]? = σ'[i]?) : ∀ i, i ∉ as ++ bs → σ2[i]? = σ[i]? := fun i hi => by
  rw [List.mem_append, not_or] at hi
  rw [h2 i hi.2, h1 i hi.1]
/-- a target's reading -/
def gY (C : Cfg) (t : Tg) : TG := fun x σ H Q => ∃ μ r h d, Sr C.G C.oc μ r h σ H ∧ RD C.G μ H d x ∧ ∃ r' h', asgT t d r h = some (r', h') ∧
  ∀ σ', Sr C.G C.oc μ r' h' σ' H → σ'.length = σ.length → (∀ i, i ∉ tgN C.oc t → σ'[i]? = σ[i]?) → Q σ' H
def gYs (C : Cfg) (t : Tg) : TGs := fun xs σ H Q => ∃ μ r h ds, Sr C.G C.oc μ r h σ H ∧ RDs C.G μ H ds xs ∧ ∃ r' h', asgTs t ds r h = some (r', h') ∧
  ∀ σ', Sr C.G C.oc μ r' h' σ' H → σ'.length = σ.length → (∀ i, i ∉ tgN C.oc t → σ'[i]? = σ[i]?) → Q σ' H
section
variable {X : Cx} {C : Cfg} {pos : Pos}
theorem PG.w {e : Expr} {t t' : TG} (h : PG X e t) (w : ∀ v σ H Q, t' v σ H Q → t v σ H Q) : PG X e t' := ⟨fun pins s σ H v u Q I r q => h.run pins s σ H v u Q I r (w v σ H Q q)⟩
theorem PGs.w {e : List Expr} {t t' : TGs} (h : PGs X e t) (w : ∀ v σ H Q, t' v σ H Q → t v σ H Q) : PGs X e t' := ⟨fun pins s σ H v u Q I r q => h.run pins s σ H v u Q I r (w v σ H Q q)⟩
theorem PGi {e : Expr} {t : TG} (h : ∀ pins s σ H, Inv X pins σ H s → PG X e t) : PG X e t := ⟨fun pins s σ H v u Q I r q => (h pins s σ H I).run pins s σ H v u Q I r q⟩
theorem g_nm {i : Nat} {x : Str} (hN : X.N.Nodup) (hi : X.N[i]? = some x) (hx : X.env.scope.names.lookup x = some .local) (no : ∀ (j : Nat) (a : Addr), C.oc[j]? ≠ some (i, a)) : PG X (.Name x pos) (gY C (.nm i)) := by
  refine ⟨fun pins s σ H v u Q I r h => (pg_name hN hi (.inl hx) (.inr hx)).run pins s σ H v u Q I r ?_⟩
  obtain ⟨μ, r, h, d, sr, rd, r', h', e, q⟩ := h
  simp only [asgT, Option.some.injEq, Prod.mk.injEq] at e
  obtain ⟨rfl, rfl⟩ := e
  have hl : i < σ.length := by rw [I.len]; exact (List.getElem?_eq_some_iff.mp hi).1
  exact q _ (sr.store rd hl no) (by rw [List.length_set]) fun j hj => by
    have ne : i ≠ j := fun z => hj (by simp [tgN, z])
    rw [List.getElem?_set_ne ne]
theorem g_cn {i j : Nat} {x : Str} {a : Addr} (hN : X.N.Nodup) (hi : X.N[i]? = some x) (hx : X.env.scope.names.lookup x = some .cell) (hf : X.fn x = true) (hj : C.oc[j]? = some (i, a)) (ndo : ∀ (j' : Nat) (a' : Addr), C.oc[j']? = some (i, a') → j' = j) : PG X (.Name x pos) (gY C (.cn j)) := by
  refine ⟨fun pins s σ H v u Q I r h => (pg_name hN hi (.inr hx) (.inl hf)).run pins s σ H v u Q I r ?_⟩
  obtain ⟨μ, r, h, d, sr, rd, r', h', e, q⟩ := h
  have hl : i < σ.length := by rw [I.len]; exact (List.getElem?_eq_some_iff.mp hi).1
  have fin : ∀ σ' : L2.St, σ' = σ.set i (some v) → ∀ k, k ∉ tgN C.oc (.cn j) → σ'[k]? = σ[k]? := fun σ' e k hk => by
    subst e
    have ne : i ≠ k := fun z => hk (by
      show k ∈ (match C.oc[j]? with | some p => [p.1] | none => [])
      rw [hj]; simp [z])
    rw [List.getElem?_set_ne ne]
  simp only [asgT, setC, nth_eq] at e
  split at e
  · rename_i h2 e2
    split at e2
    · rename_i l e3
      split at e2
      · cases e2
        simp only [Option.some.injEq, Prod.mk.injEq] at e
        obtain ⟨rfl, rfl⟩ := e
        exact q _ (sr.storeC e3 hj rd hl ndo) (by rw [List.length_set]) (fin _ rfl)
      · cases e2
    · cases e2
  · cases e
theorem gs_nil : PGs X [] (gYs C .nil) := PGs.w pgs_nil fun vs σ H Q h => by
  obtain ⟨μ, r, h, ds, sr, rd, r', h', e, q⟩ := h
  cases rd with
  | nil =>
    simp only [asgTs, Option.some.injEq, Prod.mk.injEq] at e
    obtain ⟨rfl, rfl⟩ := e
    exact ⟨rfl, q σ sr rfl fun _ _ => rfl⟩
  | cons _ _ => simp [asgTs] at e
theorem gs_cons {e : Expr} {es : List Expr} {a b : Tg} (h1 : PG X e (gY C a)) (h2 : PGs X es (gYs C b)) (hs : (assignEach (e :: es) X.env).map (·.2) = assign e X.env :: (assignEach es X.env).map (·.2)) : PGs X (e :: es) (gYs C (.cons a b)) :=
  PGs.w (pgs_cons h1 h2 hs) fun vs σ H Q h => by
    obtain ⟨μ, r, h, ds, sr, rd, r', h', e, q⟩ := h
    cases rd with
    | nil => simp [asgTs] at e
    | @cons v vs d ds rd rs =>
      simp only [asgTs] at e
      split at e
      · rename_i r1 h1 e1
        exact ⟨v, vs, rfl, μ, r, h, d, sr, rd, r1, h1, e1, fun σ1 sr1 l1 k1 => ⟨μ, r1, h1, ds, sr1, rs, r', h', e, fun σ2 sr2 l2 k2 => q σ2 sr2 (l2.trans l1) (keepN k1 k2)⟩⟩
      · cases e
theorem g_tup {es : List Expr} {k n : Nat} {t : Tg} (hK : C.G.K = X.K) (hc : X.calm = true) (h : PGs X es (gYs C t)) (hl : ∀ (ds : List D) (r : Rho) (h : Hh) (z : Rho × Hh), asgTs t ds r h = some z → ds.length = n) (hn : (assignEach es X.env).length = n) (hst : (assignEach es X.env).findIdx? (·.1) = none) : PG X (.Tuple es k pos) (gY C (.tup t)) :=
  PG.w (pg_tup hc h hn hst) fun v σ H Q h => by
    obtain ⟨μ, r, h, d, sr, rd, r', h', e, q⟩ := h
    simp only [asgT] at e
    split at e
    · rename_i ds e1
      obtain ⟨a, vs, rfl, ht, rs⟩ := rd.seqT e1
      exact ⟨a, vs, rfl, hK ▸ ht, by rw [← rs.length]; exact hl ds r h _ e, μ, r, h, ds, sr, rs, r', h', e, q⟩
    · cases e
/-- the items that a target of a tuple takes -/
def tgL : Tg → Nat
  | .cons _ b => tgL b + 1
  | _ => 0
theorem asgTs_len : ∀ (t : Tg) (ds : List D) (r : Rho) (h : Hh) (z : Rho × Hh), asgTs t ds r h = some z → ds.length = tgL t
  | .nil, [], _, _, _, _ => rfl
  | .nil, _ :: _, _, _, _, e => by simp [asgTs] at e
  | .cons a b, [], _, _, _, e => by simp [asgTs] at e
  | .cons a b, d :: ds, r, h, z, e => by
    simp only [asgTs] at e
    split at e
    · rw [List.length_cons, asgTs_len b ds _ _ z e]; rfl
    · cases e
  | .nm _, ds, _, _, _, e => by simp [asgTs] at e
  | .cn _, ds, _, _, _, e => by simp [asgTs] at e
  | .tup _, ds, _, _, _, e => by simp [asgTs] at e
end
/-! ### slots wiped -/
def wipeL (sl : List (Option D)) : List Nat → List (Option D)
  | [] => sl
  | v :: vs => (wipeL sl vs).set v none
theorem wipeL_length (sl : List (Option D)) : ∀ vs : List Nat, (wipeL sl vs).length = sl.length
  | [] => rfl
  | v :: vs => by unfold wipeL; rw [List.length_set, wipeL_length sl vs]
theorem wipeL_get (sl : List (Option D)) (j : Nat) : ∀ vs : List Nat, (wipeL sl vs)[j]? = if j ∈ vs then sl[j]?.map (fun _ => none) else sl[j]?
  | [] => by simp [wipeL]
  | v :: vs => by
    unfold wipeL
    by_cases hv : v = j
    · subst hv
      simp only [List.mem_cons, true_or, if_true]
      by_cases hl : v < sl.length
      · rw [List.getElem?_set_self (by rw [wipeL_length]; exact hl), List.getElem?_eq_getElem hl]; rfl
      · rw [List.getElem?_eq_none (by rw [List.length_set, wipeL_length]; omega), List.getElem?_eq_none (by omega)]; rfl
    · rw [List.getElem?_set_ne hv, wipeL_get sl j vs]
      by_cases hm : j ∈ vs
      · rw [if_pos hm, if_pos (List.mem_cons_of_mem _ hm)]
      · rw [if_neg hm, if_neg (fun z => by rcases List.mem_cons.mp z with z | z; exact hv z.symm; exact hm z)]
def Rho.wipe (r : Rho) (vs : List Nat) : Rho := ⟨wipeL r.sl vs, r.cl⟩
theorem wipeL_set (sl : List (Option D)) (i : Nat) (d : Option D) (vs : List Nat) : (wipeL sl vs).set i d = wipeL (sl.set i d) (vs.filter fun v => decide (v ≠ i)) := by
  apply List.ext_getElem?
  intro j
  rw [wipeL_get]
  by_cases hj : i = j
  · subst hj
    rw [if_neg (by simp)]
    by_cases hl : i < sl.length
    · rw [List.getElem?_set_self (by rw [wipeL_length]; exact hl), List.getElem?_set_self hl]
    · rw [List.getElem?_eq_none (by rw [List.length_set, wipeL_length]; omega), List.getElem?_eq_none (by rw [List.length_set]; omega)]
  · rw [List.getElem?_set_ne hj, List.getElem?_set_ne hj, wipeL_get]
    by_cases hm : j ∈ vs
    · rw [if_pos hm, if_pos (by simp [hm, Ne.symm hj])]
    · rw [if_neg hm, if_neg (by simp [hm])]
mutual
theorem asgT_wipe {oc : List (Nat × Addr)} : ∀ (t : Tg) (d : D) (r : Rho) (h : Hh) (r' : Rho) (h' : Hh), asgT t d r h = some (r', h') → ∀ vs, asgT t d (r.wipe vs) h = some (r'.wipe (vs.filter fun v => decide (v ∉ tgN [] t)), h')
  | .nm i, d, r, h, r', h', e, vs => by
    simp only [asgT, Option.some.injEq, Prod.mk.injEq] at e ⊢
    obtain ⟨rfl, rfl⟩ := e
    refine ⟨?_, rfl⟩
    unfold Rho.wipe
    rw [wipeL_set]
    simp [tgN]
  | .cn j, d, r, h, r', h', e, vs => by
    simp only [asgT] at e ⊢
    show (match setC r h j d with | some h' => some (r.wipe vs, h') | none => none) = _
    split at e
    · rename_i h2 e2
      simp only [Option.some.injEq, Prod.mk.injEq] at e
      obtain ⟨rfl, rfl⟩ := e
      try rw [e2]
      have e0 : (vs.filter fun v => decide (v ∉ tgN [] (.cn j))) = vs := List.filter_eq_self.mpr fun a _ => by simp [tgN]
      rw [e0]
    · cases e
  | .tup ts, d, r, h, r', h', e, vs => by
    simp only [asgT] at e ⊢
    split at e
    · rename_i ds e1
      exact asgTs_wipe (oc := oc) ts ds r h r' h' e vs
    · cases e
  | .nil, _, _, _, _, _, e, _ => by simp [asgT] at e
  | .cons _ _, _, _, _, _, _, e, _ => by simp [asgT] at e
theorem asgTs_wipe {oc : List (Nat × Addr)} : ∀ (t : Tg) (ds : List D) (r : Rho) (h : Hh) (r' : Rho) (h' : Hh), asgTs t ds r h = some (r', h') → ∀ vs, asgTs t ds (r.wipe vs) h = some (r'.wipe (vs.filter fun v => decide (v ∉ tgN [] t)), h')
  | .nil, [], r, h, r', h', e, vs => by
    simp only [asgTs, Option.some.injEq, Prod.mk.injEq] at e ⊢
    obtain ⟨rfl, rfl⟩ := e
    have e0 : (vs.filter fun v => decide (v ∉ tgN [] .nil)) = vs := List.filter_eq_self.mpr fun a _ => by simp [tgN]
    rw [e0]
    exact ⟨rfl, rfl⟩
  | .nil, _ :: _, _, _, _, _, e, _ => by simp [asgTs] at e
  | .cons a b, [], _, _, _, _, e, _ => by simp [asgTs] at e
  | .cons a b, d :: ds, r, h, r', h', e, vs => by
    simp only [asgTs] at e ⊢
    split at e
    · rename_i r1 h1 e1
      rw [asgT_wipe (oc := oc) a d r h r1 h1 e1 vs]
      show asgTs b ds _ h1 = _
      rw [asgTs_wipe (oc := oc) b ds r1 h1 r' h' e _, List.filter_filter]
      congr 3
      apply List.filter_congr
      intro v hv
      simp [tgN, List.mem_append, not_or, and_comm]
      rw [Bool.and_comm]
    · cases e
  | .nm _, ds, _, _, _, _, e, _ => by simp [asgTs] at e
  | .cn _, ds, _, _, _, _, e, _ => by simp [asgTs] at e
  | .tup _, ds, _, _, _, _, e, _ => by simp [asgTs] at e
end

/-! ### what is walked -/
structure Wks (G : Gd) (J : It) (w : Wk) (μ1 : List Addr) (H1 : Hp) : Prop where
  go : ∀ (i : Nat) (d : D) (oc : List (Nat × Addr)) (μ : List Addr) (r : Rho) (h : Hh) (σ : L2.St) (H : Hp), Kp μ1 H1 μ H → Sr G oc μ r h σ H → w.at i h = some d → J.go i H ∧ ∀ x H', J.yld i H x H' → (∀ b o, H b = some o → H' b = some o) ∧ RD G μ H' d x
  stop : ∀ (oc : List (Nat × Addr)) (μ : List Addr) (r : Rho) (h : Hh) (σ : L2.St) (H : Hp), Kp μ1 H1 μ H → Sr G oc μ r h σ H → w.fin h = true → J.stop w.len H
def RWk (C : Cfg) : List Addr → Hp → Wk → It → Prop := fun μ H w J => Wks C.G J w μ H
abbrev tI (C : Cfg) (m : SI) : TI := tR C (RWk C) m
section
variable {X : Cx} {C : Cfg} {pos : Pos} {tg : Expr}
theorem PI.w {e : Expr} {t t' : TI} (h : PI X tg e t) (w : ∀ σ H Q, t' σ H Q → t σ H Q) : PI X tg e t' := ⟨fun pins s σ H Q I q => h.run pins s σ H Q I (w σ H Q q)⟩
theorem list_inj {X : Cx} {pins : List (Addr × Obj)} {σ : L2.St} {H : Hp} {s : Shared} (I : Inv X pins σ H s) {a : Addr} {xs ys : List V} (h1 : SqL X.K H a xs) (h2 : SqL X.K H a ys) : xs = ys := I.list_inj h1 h2

theorem wks_tup {G : Gd} {a : Addr} {ds : List D} {vs : List V} {μ1 : List Addr} {H1 : Hp} (ht : SqT G.K H1 a vs) (rs : RDs G μ1 H1 ds vs) : Wks G (Itt G.K a) (.fx ds) μ1 H1 where
  go := fun i d oc μ r h σ H k s e => by
    replace e : nth ds i = some d := e
    rw [nth_eq] at e
    have ht' := k.sqT ht
    obtain ⟨v, e2, rd⟩ := rs.get e
    refine ⟨⟨vs, v, ht', e2⟩, fun x H' y => ?_⟩
    obtain ⟨rfl, y⟩ := y
    have e3 := y vs ht'
    rw [e2] at e3
    cases e3
    exact ⟨fun _ _ z => z, rd.mono k⟩
  stop := fun oc μ r h σ H k s e => ⟨vs, k.sqT ht, by show vs.length ≤ ds.length; rw [rs.length]; exact Nat.le_refl _⟩
theorem wks_lst {G : Gd} {a : Addr} {o : Obj} {ds : List D} {vs : List V} {μ1 : List Addr} {H1 : Hp} (ht : H1 a = some (.frz o (.lst vs))) (rs : RDs G μ1 H1 ds vs) : Wks G (Itl G.K a) (.fx ds) μ1 H1 where
  go := fun i d oc μ r h σ H k s e => by
    replace e : nth ds i = some d := e
    rw [nth_eq] at e
    have ht' : SqL G.K H a vs := .inl (.inr ⟨o, k.imm _ _ ht trivial⟩)
    obtain ⟨v, e2, rd⟩ := rs.get e
    refine ⟨⟨vs, v, ht', e2⟩, fun x H' y => ?_⟩
    obtain ⟨rfl, y⟩ := y
    have e3 := y vs ht'
    rw [e2] at e3
    cases e3
    exact ⟨fun _ _ z => z, rd.mono k⟩
  stop := fun oc μ r h σ H k s e => ⟨vs, .inl (.inr ⟨o, k.imm _ _ ht trivial⟩), by show vs.length ≤ ds.length; rw [rs.length]; exact Nat.le_refl _⟩
theorem wks_rd {G : Gd} {a : Addr} {l n : Nat} {μ1 : List Addr} {H1 : Hp} (e0 : μ1[l]? = some a) : Wks G (Itl G.K a) (.rd l n) μ1 H1 where
  go := fun i d oc μ r h σ H k s e => by
    replace e : (match nth h l with | some (.lst xs) => if Nat.beq xs.length n then nth xs i else none | _ => none) = some d := e
    rw [nth_eq] at e
    split at e
    · rename_i xs e1
      split at e
      · rw [nth_eq] at e
        obtain ⟨a', vs, ea, e2, _, e3, rs⟩ := s.lst e1 (.ref (k.get e0))
        cases ea
        obtain ⟨v, e4, rd⟩ := rs.get e
        have ht' : SqL G.K H a vs := .inl (.inl e3)
        refine ⟨⟨vs, v, ht', e4⟩, fun x H' y => ?_⟩
        obtain ⟨rfl, y⟩ := y
        have e5 := y vs ht'
        rw [e4] at e5
        cases e5
        exact ⟨fun _ _ z => z, rd⟩
      · cases e
    · cases e
  stop := fun oc μ r h σ H k s e => by
    replace e : (match nth h l with | some (.lst xs) => Nat.beq xs.length n | _ => false) = true := e
    rw [nth_eq] at e
    split at e
    · rename_i xs e1
      obtain ⟨a', vs, ea, e2, _, e3, rs⟩ := s.lst e1 (.ref (k.get e0))
      cases ea
      exact ⟨vs, .inl (.inl e3), by show vs.length ≤ n; rw [← rs.length, Nat.beq_eq.mp e]; exact Nat.le_refl _⟩
    · cases e
theorem wks_str {G : Gd} {x : Str} {μ1 : List Addr} {H1 : Hp} : Wks G (Its x) (.fx (x.cps.toList.map fun c => .p (.str ⟨#[c]⟩))) μ1 H1 where
  go := fun i d oc μ r h σ H k s e => by
    replace e : nth (x.cps.toList.map fun c => D.p (.str ⟨#[c]⟩)) i = some d := e
    rw [nth_eq, List.getElem?_map] at e
    obtain ⟨c, e1, e2⟩ := Option.map_eq_some_iff.mp e
    subst e2
    rw [Array.getElem?_toList] at e1
    refine ⟨(Array.getElem?_eq_some_iff.mp e1).1, fun v H' y => ?_⟩
    obtain ⟨rfl, c', e3, rfl⟩ := y
    rw [e1] at e3
    cases e3
    exact ⟨fun _ _ z => z, .p (.str _)⟩
  stop := fun oc μ r h σ H k s e => by
    show x.cps.size ≤ (x.cps.toList.map _).length
    simp
theorem wks_rngC {G : Gd} {lo c : Int} {n : Nat} {μ1 : List Addr} {H1 : Hp} : Wks G (Itc lo c n) (.fx (rangeI lo n c)) μ1 H1 where
  go := fun i d oc μ r h σ H k s e => by
    replace e : nth (rangeI lo n c) i = some d := e
    rw [nth_eq] at e
    unfold rangeI at e
    rw [List.getElem?_map] at e
    obtain ⟨j, e1, e2⟩ := Option.map_eq_some_iff.mp e
    subst e2
    obtain ⟨hi, e3⟩ := List.getElem?_eq_some_iff.mp e1
    rw [List.length_range] at hi
    rw [List.getElem_range] at e3
    subst e3
    refine ⟨hi, fun v H' y => ?_⟩
    obtain ⟨rfl, rfl⟩ := y
    exact ⟨fun _ _ z => z, .p (.int _)⟩
  stop := fun oc μ r h σ H k s e => by
    show n ≤ (rangeI lo n c).length
    simp [rangeI]
theorem wks_rng {G : Gd} {lo : Int} {n : Nat} {μ1 : List Addr} {H1 : Hp} : Wks G (Itr lo n) (.fx (rangeI lo n 1)) μ1 H1 where
  go := fun i d oc μ r h σ H k s e => by
    replace e : nth (rangeI lo n 1) i = some d := e
    rw [nth_eq] at e
    unfold rangeI at e
    rw [List.getElem?_map] at e
    obtain ⟨j, e1, e2⟩ := Option.map_eq_some_iff.mp e
    subst e2
    obtain ⟨hi, e3⟩ := List.getElem?_eq_some_iff.mp e1
    rw [List.length_range] at hi
    rw [List.getElem_range] at e3
    subst e3
    refine ⟨hi, fun v H' y => ?_⟩
    obtain ⟨rfl, rfl⟩ := y
    rw [Int.mul_one]
    exact ⟨fun _ _ z => z, .p (.int _)⟩
  stop := fun oc μ r h σ H k s e => by
    show n ≤ (rangeI lo n 1).length
    simp [rangeI]
/-- tuples keep their items -/
theorem sqT_inj {X : Cx} {pins : List (Addr × Obj)} {σ : L2.St} {H : Hp} {s : Shared} (I : Inv X pins σ H s) {a : Addr} {xs ys : List V} (h1 : SqT X.K H a xs) (h2 : SqT X.K H a ys) : xs = ys := I.tuple_inj h1 h2
theorem y_it (hK : C.G.K = X.K) {e : Expr} {m : SE} (he : PE X e (tE C m)) : PI X tg e (tI C (iIt m)) := by
  refine ⟨fun pins s σ H R I hh => ?_⟩
  obtain ⟨μ, r, h, sr, a⟩ := hh
  unfold iIt at a
  have a1 := Aft.bind (R := RV C) a
  cases q : m C.cs r h with
  | bad => rw [q] at a; exact a.elim
  | exn c fs h1 =>
    rw [q] at a1
    exact (pi_list (tg := tg) he).run pins s σ H R I ⟨μ, r, h, sr, by rw [q]; exact a1⟩
  | ok d h1 =>
    rw [q] at a1
    have a2 : ∃ w, walkV h1 d = some w := by
      rw [q] at a
      obtain ⟨w, e, _⟩ := Aft.opt (R := RWk C) (r := r) (show Aft C (RWk C) μ r σ H (opt (walkV h1 d) h1) R from a)
      exact ⟨w, e⟩
    obtain ⟨w, ew⟩ := a2
    have a3 : ∀ μ' v H', Gr r.cl μ H μ' H' → Sr C.G C.oc μ' r h1 σ H' → RD C.G μ' H' d v → ∀ J, Wks C.G J w μ' H' → R J H' := fun μ' v H' g s' rd J wj => by
      obtain ⟨μ2, d2, h2, g2, s2, rd2, a2⟩ := a1 μ' v H' g s' rd
      rw [q] at a
      obtain ⟨w', e', f⟩ := Aft.opt (R := RWk C) (r := r) (show Aft C (RWk C) μ r σ H (opt (walkV h1 d) h1) R from a)
      rw [ew] at e'
      cases e'
      exact f μ' J H' g s' wj
    unfold walkV at ew
    split at ew
    · rename_i x
      cases ew
      refine (pi_str (tg := tg) he).run pins s σ H R I ⟨μ, r, h, sr, ?_⟩
      rw [q]
      intro μ' v H' g s' rd
      have rd' : RD C.G μ' H' (.p (.str x)) v := rd
      obtain rfl := rd'.str'
      exact ⟨x, rfl, a3 μ' _ H' g s' rd _ wks_str⟩
    · rename_i l
      split at ew
      · rename_i xs e1
        cases ew
        rw [nth_eq] at e1
        refine (pi_list (tg := tg) he).run pins s σ H R I ⟨μ, r, h, sr, ?_⟩
        rw [q]
        intro μ' v H' g s' rd
        obtain ⟨a', vs, rfl, e2, _, e3, rs⟩ := s'.lst e1 rd
        exact ⟨a', rfl, ⟨vs, .inl (.inl e3)⟩, a3 μ' _ H' g s' rd _ (hK ▸ wks_rd e2)⟩
      · cases ew
    · split at ew
      · rename_i xs e1
        cases ew
        refine (pi_tup (tg := tg) he).run pins s σ H R I ⟨μ, r, h, sr, ?_⟩
        rw [q]
        intro μ' v H' g s' rd
        obtain ⟨a', vs, rfl, e3, rs⟩ := (show RD C.G μ' H' d v from rd).seqT e1
        exact ⟨a', rfl, ⟨vs, hK ▸ e3⟩, a3 μ' _ H' g s' rd _ (hK ▸ wks_tup e3 rs)⟩
      · split at ew
        · rename_i xs e1
          cases ew
          refine (pi_list (tg := tg) he).run pins s σ H R I ⟨μ, r, h, sr, ?_⟩
          rw [q]
          intro μ' v H' g s' rd
          obtain ⟨a', o, vs, rfl, e3, rs⟩ := (show RD C.G μ' H' d v from rd).seqF e1
          exact ⟨a', rfl, ⟨vs, .inl (.inr ⟨o, e3⟩)⟩, a3 μ' _ H' g s' rd _ (hK ▸ wks_lst e3 rs)⟩
        · cases ew

/-! ### ranges -/
theorem small62_iff {i : Int} (h : small62 i = true) : -(2 ^ 62) < i ∧ i < 2 ^ 62 := by
  unfold small62 at h
  have h := Nat.ble_eq.mp h
  omega
theorem rngV1_ok {x y : D} {w : Wk} (e : rngV1 x y = some w) : ∃ i j : Int, x = .p (.int i) ∧ y = .p (.int j) ∧ (-(2 ^ 62) ≤ i ∧ i < 2 ^ 62 ∧ -(2 ^ 62) ≤ j ∧ j < 2 ^ 62) ∧ w = .fx (rangeI i (j - i).toNat 1) := by
  unfold rngV1 at e
  split at e
  · rename_i i j
    split at e
    · rename_i hs
      rw [Bool.and_eq_true] at hs
      cases e
      have h1 := small62_iff hs.1
      have h2 := small62_iff hs.2
      exact ⟨i, j, rfl, rfl, ⟨by omega, by omega, by omega, by omega⟩, rfl⟩
    · cases e
  · cases e
variable {a b c : Expr} {ma mb mc : SE} {p : Pos}
theorem y_rng1 (hg : Gl X "range") (hm : X.mg "range" = none) (ha : PE X a (tE C ma)) (hs : starEach [a] X.env = [(false, eval a X.env)]) : PI X tg (.Call (.Name "range" p) [a] [] pos) (tI C (iRng1 ma)) := by
  refine PI.w (pi_range1 hg hm (y_acons ha y_anil hs) hs) fun σ H R h => ?_
  obtain ⟨μ, r, h, s, af⟩ := h
  refine ⟨μ, r, h, s, ?_⟩
  have e : aCons ma aNil C.cs r h = (ma C.cs r h).bind fun x h1 => .ok [x] h1 := by
    simp only [aCons, aNil]
    cases ma C.cs r h <;> rfl
  rw [e]
  unfold iRng1 at af
  have a1 := Aft.bind (R := RV C) af
  cases q : ma C.cs r h with
  | bad => rw [q] at a1; exact a1
  | exn c fs h1 => rw [q] at a1; exact a1
  | ok x h1 =>
    rw [q] at a1
    intro μ' vs H' g s' rs
    cases rs with
    | cons rd rs =>
      cases rs
      obtain ⟨μ2, d, h2, g2, s2, rd2, a2⟩ := a1 μ' _ H' g s' rd
      rw [q] at af
      obtain ⟨w, ew, f⟩ := Aft.opt (R := RWk C) (r := r) (show Aft C (RWk C) μ r σ H (opt (rngV1 (.p (.int 0)) x) h1) R from af)
      obtain ⟨i, j, e1, e2, b1, rfl⟩ := rngV1_ok ew
      cases e1
      subst e2
      obtain rfl := (show RD C.G μ' H' (.p (.int j)) _ from rd).int'
      refine ⟨j, rfl, b1.2.2.1, b1.2.2.2, f μ' _ H' g s' ?_⟩
      rw [Int.sub_zero]
      exact wks_rng
theorem y_rng2 (hg : Gl X "range") (hm : X.mg "range" = none) (ha : PE X a (tE C ma)) (hb : PE X b (tE C mb)) (hs : starEach [a, b] X.env = [(false, eval a X.env), (false, eval b X.env)]) (hs2 : starEach [b] X.env = [(false, eval b X.env)]) :
    PI X tg (.Call (.Name "range" p) [a, b] [] pos) (tI C (iRng2 ma mb)) := by
  refine PI.w (pi_range2 hg hm (y_acons ha (y_acons hb y_anil hs2) (hs.trans (by rw [hs2]))) hs hs2) fun σ H R h => ?_
  obtain ⟨μ, r, h, s, af⟩ := h
  refine ⟨μ, r, h, s, ?_⟩
  have e : aCons ma (aCons mb aNil) C.cs r h = (ma C.cs r h).bind fun x h1 => (mb C.cs r h1).bind fun y h2 => .ok [x, y] h2 := by
    simp only [aCons, aNil]
    cases ma C.cs r h with
    | ok x h1 => simp only [Res.bind]; cases mb C.cs r h1 <;> rfl
    | exn _ _ _ => rfl
    | bad => rfl
  rw [e]
  unfold iRng2 at af
  cases q : ma C.cs r h with
  | bad => rw [q] at af; exact af
  | exn c fs h1 => rw [q] at af; exact af
  | ok x h1 =>
    rw [q] at af
    simp only [Res.bind] at af ⊢
    cases q2 : mb C.cs r h1 with
    | bad => rw [q2] at af; exact af
    | exn c fs h2 => rw [q2] at af; exact af
    | ok y h2 =>
      rw [q2] at af
      simp only [Res.bind] at af ⊢
      intro μ' vs H' g s' rs
      cases rs with
      | cons rd rs =>
        cases rs with
        | cons rd2 rs =>
          cases rs
          obtain ⟨w, ew, f⟩ := Aft.opt (R := RWk C) (r := r) af
          obtain ⟨i, j, rfl, rfl, b1, rfl⟩ := rngV1_ok ew
          obtain rfl := (show RD C.G μ' H' (.p (.int i)) _ from rd).int'
          obtain rfl := (show RD C.G μ' H' (.p (.int j)) _ from rd2).int'
          exact ⟨i, j, rfl, b1, f μ' _ H' g s' wks_rng⟩
theorem y_rng3 (hg : Gl X "range") (hm : X.mg "range" = none) (ha : PE X a (tE C ma)) (hb : PE X b (tE C mb)) (hc : PE X c (tE C mc)) (hs : starEach [a, b, c] X.env = (false, eval a X.env) :: starEach [b, c] X.env) (hs2 : starEach [b, c] X.env = (false, eval b X.env) :: starEach [c] X.env)
    (hs3 : starEach [c] X.env = (false, eval c X.env) :: starEach [] X.env) (hpl : (backTo pos (starEach [b, c] X.env)).any (·.1) = false) : PI X tg (.Call (.Name "range" p) [a, b, c] [] pos) (tI C (iRng3 ma mb mc)) := by
  refine PI.w (pi_range3 hg hm (y_acons ha (y_acons hb (y_acons hc y_anil hs3) hs2) hs) hs hpl) fun σ H R h => ?_
  obtain ⟨μ, r, h, s, af⟩ := h
  refine ⟨μ, r, h, s, ?_⟩
  have e : aCons ma (aCons mb (aCons mc aNil)) C.cs r h = (ma C.cs r h).bind fun x h1 => (mb C.cs r h1).bind fun y h2 => (mc C.cs r h2).bind fun z h3 => .ok [x, y, z] h3 := by
    simp only [aCons, aNil]
    cases ma C.cs r h with
    | ok x h1 =>
      simp only [Res.bind]
      cases mb C.cs r h1 with
      | ok y h2 => simp only [Res.bind]; cases mc C.cs r h2 <;> rfl
      | exn _ _ _ => rfl
      | bad => rfl
    | exn _ _ _ => rfl
    | bad => rfl
  rw [e]
  unfold iRng3 at af
  cases q : ma C.cs r h with
  | bad => rw [q] at af; exact af
  | exn c fs h1 => rw [q] at af; exact af
  | ok x h1 =>
    rw [q] at af
    simp only [Res.bind] at af ⊢
    cases q2 : mb C.cs r h1 with
    | bad => rw [q2] at af; exact af
    | exn c fs h2 => rw [q2] at af; exact af
    | ok y h2 =>
      rw [q2] at af
      simp only [Res.bind] at af ⊢
      cases q3 : mc C.cs r h2 with
      | bad => rw [q3] at af; exact af
      | exn c fs h3 => rw [q3] at af; exact af
      | ok z h3 =>
        rw [q3] at af
        simp only [Res.bind] at af ⊢
        intro μ' vs H' g s' rs
        cases rs with
        | cons rd rs =>
          cases rs with
          | cons rd2 rs =>
            cases rs with
            | cons rd3 rs =>
              cases rs
              obtain ⟨w, ew, f⟩ := Aft.opt (R := RWk C) (r := r) af
              unfold rngV at ew
              split at ew
              · rename_i i j k
                split at ew
                · rename_i hcs
                  rw [Bool.and_eq_true, Bool.and_eq_true] at hcs
                  cases ew
                  obtain rfl := (show RD C.G μ' H' (.p (.int i)) _ from rd).int'
                  obtain rfl := (show RD C.G μ' H' (.p (.int j)) _ from rd2).int'
                  obtain rfl := (show RD C.G μ' H' (.p (.int k)) _ from rd3).int'
                  have hk : k ≠ 0 := fun z => by
                    have := hcs.1.2
                    rw [z] at this
                    simp at this
                  have hk2 := Nat.ble_eq.mp hcs.2
                  refine ⟨i, j, k, rngN i j k, rfl, ⟨hk, by omega, hcs.1.1, ?_⟩, f μ' _ H' g s' wks_rngC⟩
                  unfold rngN
                  have h0 : 0 ≤ Builtin.Range.rangeSize i j k := by
                    unfold Builtin.Range.rangeSize
                    split
                    · split
                      · have := Int.ediv_nonneg (a := j - i - 1) (b := k) (by omega) (by omega)
                        omega
                      · omega
                    · split
                      · have := Int.ediv_nonneg (a := i - j - 1) (b := -k) (by omega) (by omega)
                        omega
                      · omega
                  omega
                · cases ew
              · cases ew
end
end Y

/-! Y8: lists made. -/
namespace Y
open PySem PySem.Spec PyProof.Rows L2
/-- a list just made: new, nobody's -/
def RL (C : Cfg) (H0 : Hp) (cl : List Nat) : List Addr → Hp → List D → V → Prop := fun μ' H' ds v => ∃ p vs, v = .ref p ∧ H0 p = none ∧ ¬ At cl μ' p ∧ H' p = some (.lst vs) ∧ RDs C.G μ' H' ds vs
def tL (C : Cfg) (m : SL) : TE := fun σ H Q => ∃ μ r h, Sr C.G C.oc μ r h σ H ∧ Aft C (RL C H r.cl) μ r σ H (m C.cs r h) Q
section
variable {α β γ δ : Type} {C : Cfg}
/-- the first part of two, the beginning kept -/
theorem Aft.bind0 {R : List Addr → Hp → α → β → Prop} {R' : List Addr → Hp → γ → δ → Prop} {μ : List Addr} {r : Rho} {σ : L2.St} {H : Hp} {m : Res α} {f : α → Hh → Res γ} {Q : δ → Hp → Prop} (h : Aft C R' μ r σ H (m.bind f) Q) :
    Aft C R μ r σ H m (fun b H1 => ∃ μ1 a h1, Gr r.cl μ H μ1 H1 ∧ Sr C.G C.oc μ1 r h1 σ H1 ∧ R μ1 H1 a b ∧ Aft C R' μ r σ H (f a h1) Q) := by
  cases m with
  | ok a h' => exact fun μ' b H' g s q => ⟨μ', a, h', g, s, q, h⟩
  | exn c fs h' => exact h
  | bad => exact h
theorem Sr.notAt {G : Gd} {oc : List (Nat × Addr)} {μ : List Addr} {r : Rho} {h : Hh} {σ : L2.St} {H : Hp} (s : Sr G oc μ r h σ H) {p : Addr} (n : H p = none) : ¬ At r.cl μ p := fun ⟨l, nl, e⟩ => by
  have hl : l < h.length := by rw [← s.len]; exact (List.getElem?_eq_some_iff.mp e).1
  obtain ⟨u, a1, _⟩ := s.ob l _ p (List.getElem?_eq_getElem hl) e nl
  rw [n] at a1; cases a1
theorem At.mono {cl : List Nat} {μ μ' : List Addr} (p : ∃ t, μ' = μ ++ t) {b : Addr} (h : At cl μ b) : At cl μ' b := by
  obtain ⟨t, rfl⟩ := p
  obtain ⟨l, nl, e⟩ := h
  exact ⟨l, nl, by rw [List.getElem?_append_left (List.getElem?_eq_some_iff.mp e).1]; exact e⟩
theorem Gr.old {cl : List Nat} {μ μ1 : List Addr} {H H1 : Hp} (g : Gr cl μ H μ1 H1) {p : Addr} (n : H1 p = none) (na : ¬ At cl μ1 p) : H p = none := by
  cases q : H p with
  | none => rfl
  | some o =>
    by_cases ht : ∃ ps, o = .tbl ps
    · obtain ⟨ps, rfl⟩ := ht
      obtain ⟨ps', z⟩ := g.tbl p ps q
      rw [n] at z; cases z
    · have z := g.keep p o q (.inl fun w => na (w.mono g.pre)) fun ps w => ht ⟨ps, w⟩
      rw [n] at z; cases z
/-- what is new at the beginning may be changed -/
theorem Gr.upd_new {cl : List Nat} {μ μ1 : List Addr} {H H1 : Hp} (g : Gr cl μ H μ1 H1) {p : Addr} (n : H p = none) (u : HO) : Gr cl μ H μ1 (upd H1 p u) :=
  ⟨g.pre, g.fresh, fun b o e z nt => by
    have ne : b ≠ p := fun q => by rw [q, n] at e; cases e
    rw [upd_ne ne]; exact g.keep b o e z nt, fun b ps e => by
    have ne : b ≠ p := fun q => by rw [q, n] at e; cases e
    rw [upd_ne ne]; exact g.tbl b ps e⟩
theorem RL.new {μ μ1 : List Addr} {r : Rho} {h1 : Hh} {σ : L2.St} {H H1 : Hp} {p : Addr} {ds : List D} {vs : List V} (g : Gr r.cl μ H μ1 H1) (s : Sr C.G C.oc μ1 r h1 σ H1) (n : H1 p = none) (rs : RDs C.G μ1 H1 ds vs) :
    Gr r.cl μ H μ1 (upd H1 p (.lst vs)) ∧ Sr C.G C.oc μ1 r h1 σ (upd H1 p (.lst vs)) ∧ RL C H r.cl μ1 (upd H1 p (.lst vs)) ds (.ref p) :=
  ⟨g.trans (Gr.laid n), s.laid n, p, vs, rfl, g.old n (s.notAt n), s.notAt n, upd_same, rs.mono (Gr.laid (cl := []) n).kp⟩
end
section
variable {X : Cx} {C : Cfg} {pos : Pos}
/-! ### what becomes of a list just made -/
theorem y_imm {e : Expr} {m : SL} (he : PE X e (tL C m)) : PE X e (tE C (kImm m)) := by
  refine ⟨fun pins s σ H Q I hh => ?_⟩
  obtain ⟨μ, r, h, sr, a⟩ := hh
  refine thn (he.run pins s σ H (fun v H1 => ∃ μ1 ds h1, Gr r.cl μ H μ1 H1 ∧ Sr C.G C.oc μ1 r h1 σ H1 ∧ RL C H r.cl μ1 H1 ds v ∧ Aft C (RV C) μ r σ H (.ok (mkLst ds) h1) Q) I ⟨μ, r, h, sr, Aft.bind0 a⟩) fun v s1 ⟨x, H1, I1, r1, q⟩ => ?_
  obtain ⟨μ1, ds, h1, g, s1', ⟨p, vs, rfl, n, na, e1, rs⟩, a1⟩ := q
  obtain ⟨od, I2⟩ := I1.lock e1 trivial
  have k : ∀ b o, b ≠ p → H1 b = some o → upd H1 p (.frz od (.lst vs)) b = some o := fun b o ne e => by rw [upd_ne ne]; exact e
  have i : ∀ o, H1 p = some o → ¬ Stay o := fun o e => by rw [e1] at e; cases e; exact fun z => z
  have s2 := s1'.but k i fun l nl e => na ⟨l, nl, e⟩
  have kp : Kp μ1 H1 μ1 (upd H1 p (.frz od (.lst vs))) := Kp.write i
  exact ⟨.ref p, _, I2, r1, a1 μ1 (.ref p) _ (g.upd_new n _) s2 (RD.mkLst upd_same (rs.mono kp))⟩
theorem y_mut {e : Expr} {m : SL} (he : PE X e (tL C m)) : PE X e (tE C (kMut m)) := by
  refine ⟨fun pins s σ H Q I hh => ?_⟩
  obtain ⟨μ, r, h, sr, a⟩ := hh
  refine thn (he.run pins s σ H (fun v H1 => ∃ μ1 ds h1, Gr r.cl μ H μ1 H1 ∧ Sr C.G C.oc μ1 r h1 σ H1 ∧ RL C H r.cl μ1 H1 ds v ∧ Aft C (RV C) μ r σ H (.ok (.ref h1.length) (h1 ++ [.lst ds])) Q) I ⟨μ, r, h, sr, Aft.bind0 a⟩) fun v s1 ⟨x, H1, I1, r1, q⟩ => ?_
  obtain ⟨μ1, ds, h1, g, s1', ⟨p, vs, rfl, n, na, e1, rs⟩, a1⟩ := q
  have kp : Kp μ1 H1 (μ1 ++ [p]) H1 := ⟨⟨[p], rfl⟩, fun _ _ z _ => z⟩
  have s2 : Sr C.G C.oc (μ1 ++ [p]) r (h1 ++ [.lst ds]) σ H1 := s1'.adopt e1 (fun l nl e => na ⟨l, nl, e⟩) (show HR C.G (μ1 ++ [p]) H1 (.lst ds) (.lst vs) from rs.mono kp)
  obtain ⟨t, et⟩ := g.pre
  have g2 : Gr r.cl μ H (μ1 ++ [p]) H1 := ⟨⟨t ++ [p], by rw [et, List.append_assoc]⟩, fun b hb => by
    rcases hb.push with z | z
    · exact g.fresh b z
    · subst z; exact .inr n, g.keep, g.tbl⟩
  refine ⟨.ref p, H1, I1, r1, a1 _ (.ref p) H1 g2 s2 (.ref ?_)⟩
  rw [← s1'.len, List.getElem?_append_right (Nat.le_refl _), Nat.sub_self]
  rfl

/-! ### displays, copies, slices -/
theorem y_ldisp {es : List Expr} {mes : SL} (h : PA X es (tA C mes)) : PE X (.List es pos) (tL C (lDisp mes)) := by
  refine PE.w (pe_lst h) fun σ H Q h => ?_
  obtain ⟨μ, r, h, s, a⟩ := h
  refine ⟨μ, r, h, s, (Aft.bind0 (R := RVs C) a).imp fun xs H1 z => ?_⟩
  obtain ⟨μ1, d, h1, g1, s1, rd1, a1⟩ := z
  split at a1
  · rename_i hl
    refine ⟨by rw [← rd1.length]; exact Nat.le_trans (Nat.ble_eq.mp hl) LINE_le, fun p np => ?_⟩
    obtain ⟨x1, x2, x3⟩ := RL.new g1 s1 np rd1
    exact a1 μ1 _ _ x1 x2 x3
  · exact a1.elim
/-- a reading by values of a list maker with one argument -/
theorem lof_ok {oc : List (Nat × Addr)} {μ : List Addr} {r : Rho} {h : Hh} {σ : L2.St} {H : Hp} {G : Gd} (s : Sr G oc μ r h σ H) {d : D} {ds : List D} {v : V} (e : lofV h d = some ds) (rd : RD G μ H d v) :
    ∃ p vs, v = .ref p ∧ (SqL G.K H p vs ∨ SqT G.K H p vs) ∧ RDs G μ H ds vs := by
  unfold lofV at e
  split at e
  · rename_i xs e1
    cases e
    obtain ⟨a, vs, rfl, ht, rs⟩ := rd.seqT e1
    exact ⟨a, vs, rfl, .inr ht, rs⟩
  · obtain ⟨a, vs, rfl, ht, rs⟩ := s.seqL rd e
    exact ⟨a, vs, rfl, .inl (.inl ht), rs⟩
theorem one_l {ma : SE} {f : D → Hh → Option (List D)} {σ : L2.St} {H : Hp} {Q : VK} (h : tL C (fun cs r h => (ma cs r h).bind fun x h1 => opt (f x h1) h1) σ H Q) :
    tE C ma σ H fun x H1 => ∃ μ r h a ds, Sr C.G C.oc μ r h σ H1 ∧ RD C.G μ H1 a x ∧ f a h = some ds ∧ ∀ p vs, H1 p = none → RDs C.G μ H1 ds vs → Q (.ref p) (upd H1 p (.lst vs)) := by
  obtain ⟨μ, r, h, s, a⟩ := h
  refine ⟨μ, r, h, s, (Aft.bind0 (R := RV C) a).imp fun x H1 z => ?_⟩
  obtain ⟨μ1, d, h1, g1, s1, rd1, a1⟩ := z
  obtain ⟨ds, e, f⟩ := Aft.opt a1
  refine ⟨μ1, r, h1, d, ds, s1, rd1, e, fun p vs n rs => ?_⟩
  obtain ⟨x1, x2, x3⟩ := RL.new g1 s1 n rs
  exact f μ1 _ _ x1 x2 x3
theorem two_l {ma mb : SE} {f : D → D → Hh → Option (List D)} {σ : L2.St} {H : Hp} {Q : VK} (h : tL C (fun cs r h => (ma cs r h).bind fun x h1 => (mb cs r h1).bind fun y h2 => opt (f x y h2) h2) σ H Q) :
    tE C ma σ H fun x H1 => tE C mb σ H1 fun y H2 => ∃ μ r h a b ds, Sr C.G C.oc μ r h σ H2 ∧ RD C.G μ H2 a x ∧ RD C.G μ H2 b y ∧ f a b h = some ds ∧ ∀ p vs, H2 p = none → RDs C.G μ H2 ds vs → Q (.ref p) (upd H2 p (.lst vs)) := by
  obtain ⟨μ, r, h, s, a⟩ := h
  refine ⟨μ, r, h, s, (Aft.bind0 (R := RV C) a).imp fun x H1 z => ?_⟩
  obtain ⟨μ1, d, h1, g1, s1, rd1, a1⟩ := z
  refine ⟨μ1, r, h1, s1, ?_⟩
  have a2 := Aft.bind0 (R := RV C) a1
  show Aft C (RV C) μ1 r σ H1 (mb C.cs r h1) _
  cases q : mb C.cs r h1 with
  | bad => rw [q] at a2; exact a2
  | exn c fs h2 => rw [q] at a2; exact fun μ' cls dd H' g s' rx => a2 μ' cls dd H' (g1.trans g) s' rx
  | ok y h2 =>
    rw [q] at a1
    intro μ2 v H2 g2 s2 rd2
    obtain ⟨ds, e, f⟩ := Aft.opt (R := RL C H r.cl) (r := r) (show Aft C (RL C H r.cl) μ r σ H (opt (f d y h2) h2) Q from a1)
    refine ⟨μ2, r, h2, d, y, ds, s2, rd1.mono g2.kp, rd2, e, fun p vs n rs => ?_⟩
    obtain ⟨x1, x2, x3⟩ := RL.new (g1.trans g2) s2 n rs
    exact f μ2 _ _ x1 x2 x3
theorem y_lof (hK : C.G.K = X.K) {a : Expr} {ma : SE} {p : Pos} (hg : Gl X "list") (hm : X.mg "list" = none) (ha : PE X a (tE C ma)) (he : starEach [a] X.env = (false, eval a X.env) :: starEach [] X.env) :
    PE X (.Call (.Name "list" p) [a] [] pos) (tL C (lLof ma)) := by
  refine PE.w (pe_callTy call_list_of hg hm (by decide +kernel) (pa_cons ha pa_nil he) (he := he)) fun σ H Q h => ?_
  have h2 := one_l (f := fun x h => lofV h x) h
  obtain ⟨μ, r, h, s, a⟩ := h2
  refine ⟨μ, r, h, s, a.imp fun x H1 z => ?_⟩
  obtain ⟨μ1, r1, h1, d, ds, s1, rd, e, f⟩ := z
  obtain ⟨q, vs, rfl, hs, rs⟩ := lof_ok s1 e rd
  exact ⟨q, vs, rfl, hK ▸ hs, fun l n => f l vs n rs⟩
theorem y_sll (hK : C.G.K = X.K) {a : Expr} {lo hi : Option Expr} {ma : SE} {ml mu : SO} {p2 : Pos} (ha : PE X a (tE C ma)) (hl : PO X lo (tR C RI (slP ml))) (hu : PO X hi (tR C RI (slP mu))) : PE X (.Subscript a (.Slice lo hi none p2) pos) (tL C (lSll ma ml mu)) := by
  refine PE.w (pe_slice (sl_list (X := X)) ha hl hu) fun σ H Q h => ?_
  obtain ⟨μ, r, h, s, a⟩ := h
  refine ⟨μ, r, h, s, (Aft.bind0 (R := RV C) a).imp fun x H1 z => ?_⟩
  obtain ⟨μ1, d, h1, g1, s1, rd1, a1⟩ := z
  refine ⟨μ1, r, h1, s1, ?_⟩
  have a2 := Aft.bind0 (R := RI) a1
  show Aft C RI μ1 r σ H1 (slP ml C.cs r h1) _
  cases q : slP ml C.cs r h1 with
  | bad => rw [q] at a2; exact a2
  | exn c fs h2 => rw [q] at a2; exact fun μ' cls dd H' g s' rx => a2 μ' cls dd H' (g1.trans g) s' rx
  | ok l h2 =>
    rw [q] at a1
    intro μ2 v H2 g2 s2 e2
    subst e2
    refine ⟨μ2, r, h2, s2, ?_⟩
    have a3 := Aft.bind0 (R := RI) (show Aft C (RL C H r.cl) μ r σ H ((slP mu C.cs r h2).bind fun u h3 => opt (cutL h3 d l u) h3) Q from a1)
    show Aft C RI μ2 r σ H2 (slP mu C.cs r h2) _
    cases q3 : slP mu C.cs r h2 with
    | bad => rw [q3] at a3; exact a3
    | exn c fs h3 => rw [q3] at a3; exact fun μ' cls dd H' g s' rx => a3 μ' cls dd H' ((g1.trans g2).trans g) s' rx
    | ok u h3 =>
      replace a1 : Aft C (RL C H r.cl) μ r σ H ((slP mu C.cs r h2).bind fun u h3 => opt (cutL h3 d l u) h3) Q := a1
      rw [q3] at a1
      intro μ3 v3 H3 g3 s3 e3
      subst e3
      obtain ⟨ds, e, f⟩ := Aft.opt (R := RL C H r.cl) (r := r) (show Aft C (RL C H r.cl) μ r σ H (opt (cutL h3 d l u) h3) Q from a1)
      unfold cutL at e
      split at e
      · rename_i xs e1
        cases e
        obtain ⟨p, vs, rfl, hp, rs⟩ := s3.seqL (rd1.mono (g2.trans g3).kp) e1
        refine ⟨p, vs, rfl, .inl hp, fun p' n => ?_⟩
        obtain ⟨x1, x2, x3⟩ := RL.new ((g1.trans g2).trans g3) s3 n (rs.cut l u)
        exact f μ3 _ _ x1 x2 x3
      · cases e
theorem y_lrev {a : Expr} {ma : SE} {k : Nat} {p1 p2 p3 : Pos} (ha : PE X a (tE C ma)) : PE X (.Subscript a (.Slice none none (some (.UnaryOp .USub (.Constant (.int 1) k p1) p2)) p3) pos) (tL C (lRev ma)) := by
  refine PE.w (pe_revL ha) fun σ H Q h => ?_
  obtain ⟨μ, r, h, s, a⟩ := h
  refine ⟨μ, r, h, s, (Aft.bind0 (R := RV C) a).imp fun x H1 z => ?_⟩
  obtain ⟨μ1, d, h1, g1, s1, rd1, a1⟩ := z
  split at a1
  · rename_i xs e1
    obtain ⟨p, vs, rfl, hp, rs⟩ := s1.seqL rd1 e1
    refine ⟨p, vs, rfl, .inl hp, fun p' n => ?_⟩
    obtain ⟨x1, x2, x3⟩ := RL.new g1 s1 n rs.reverse
    exact a1 μ1 _ _ x1 x2 x3
  · exact a1.elim

/-! ### lists put together, repeated -/
theorem plainL_is {h : Heap} {a : Addr} {H : Hp} {xs : List V} (x : Rd H a (.lst xs)) {P : Program} {w : World} (ok : HOk P w H h) : xs.length ≤ sizeLine ∧ ∃ (its : List Value) (n : Nat), Vals xs its ∧ h.get? a = some { cls := .type "list", data := .seq its.toArray n } := by
  obtain ⟨z, its, n, r, e⟩ := x.ok ok
  exact ⟨z, its, n, r, e⟩
theorem op_catY : OpR X (binaryOp .Add) (fun x y H Q => ∃ l b xs zs, x = .ref l ∧ y = .ref b ∧ Rd H l (.lst xs) ∧ Rd H b (.lst zs) ∧ xs.length + zs.length ≤ sizeLine ∧ ∀ p, H p = none → Q (.ref p) (upd H p (.lst (xs ++ zs)))) := by
  intro pins s σ H x y v u Q I rx ry h
  obtain ⟨l, b, xs, zs, rfl, rfl, hH, hB, hz, q⟩ := h
  cases rx
  cases ry
  obtain ⟨z, its, n, r, e⟩ := plainL_is hH I.hok
  obtain ⟨z2, its2, n2, r2, e2⟩ := plainL_is hB I.hok
  have hl := r.length
  have hl2 := r2.length
  refine PySem.P.add_list e e2 ?_ (by rw [List.size_toArray, List.size_toArray]; omega)
  have ea : its.toArray ++ its2.toArray = (its ++ its2).toArray := by simp
  rw [ea]
  exact ⟨.ref _, _, I.lnew (t' := s.toks) (r.append r2) (by rw [List.length_append]; omega), rfl, q _ I.fresh⟩
theorem y_lcat {a b : Expr} {ma mb : SE} (ha : PE X a (tE C ma)) (hb : PE X b (tE C mb)) : PE X (.BinOp a .Add b pos) (tL C (lCat ma mb)) :=
  PE.w (pe_op op_catY ha hb) fun σ H Q h => by
    obtain ⟨μ, r, h, s, a⟩ := two_l (f := fun x y h => catV h x y) h
    refine ⟨μ, r, h, s, a.imp fun x H1 z => ?_⟩
    obtain ⟨μ1, r1, h1, s1, a1⟩ := z
    refine ⟨μ1, r1, h1, s1, a1.imp fun y H2 z => ?_⟩
    obtain ⟨μ2, r2, h2, d, e, ds, s2, rd, re, ev, f⟩ := z
    unfold catV at ev
    split at ev
    · rename_i xs ys e1 e2
      split at ev
      · rename_i hl
        cases ev
        obtain ⟨p, vs, rfl, hp, rs⟩ := s2.seqL rd e1
        obtain ⟨q, ws, rfl, hq, rs2⟩ := s2.seqL re e2
        have hl := Nat.ble_eq.mp hl
        have l1 := rs.length
        have l2 := rs2.length
        have := LINE_le
        exact ⟨p, q, vs, ws, rfl, rfl, hp, hq, by omega, fun z n => f z _ n (rs.append rs2)⟩
      · cases ev
    · cases ev
/-- (a list just made) * k -/
theorem y_lrep {a b : Expr} {ma : SL} {mb : SE} (ha : PE X a (tL C ma)) (hb : PE X b (tE C mb)) : PE X (.BinOp a .Mult b pos) (tL C (lRep ma mb)) :=
  PE.w (pe_op op_rep ha hb) fun σ H Q h => by
    obtain ⟨μ, r, h, s, a⟩ := h
    refine ⟨μ, r, h, s, (Aft.bind0 (R := RL C H r.cl) a).imp fun x H1 z => ?_⟩
    obtain ⟨μ1, ds, h1, g1, s1, ⟨p, vs, rfl, n, na, e1, rs⟩, a1⟩ := z
    refine ⟨μ1, r, h1, s1, ?_⟩
    have a2 := Aft.bind0 (R := RV C) a1
    show Aft C (RV C) μ1 r σ H1 (mb C.cs r h1) _
    cases q : mb C.cs r h1 with
    | bad => rw [q] at a2; exact a2
    | exn c fs h2 => rw [q] at a2; exact fun μ' cls dd H' g s' rx => a2 μ' cls dd H' (g1.trans g) s' rx
    | ok y h2 =>
      rw [q] at a1
      intro μ2 v H2 g2 s2 rd2
      obtain ⟨es, e, f⟩ := Aft.opt (R := RL C H r.cl) (r := r) (show Aft C (RL C H r.cl) μ r σ H (opt (repV ds y) h2) Q from a1)
      unfold repV at e
      split at e
      · rename_i k
        split at e
        · rename_i hc
          rw [Bool.and_eq_true] at hc
          cases e
          obtain rfl := (show RD C.G μ2 H2 (.p (.int k)) v from rd2).int'
          have hl := Nat.ble_eq.mp hc.1
          have hk := small62_iff hc.2
          have l1 := rs.length
          have := LINE_le
          have e2 := (g2.stays e1 na).1
          refine ⟨p, k, vs, rfl, rfl, e2, by omega, by omega, by rw [← l1]; omega, fun z nz => ?_⟩
          obtain ⟨x1, x2, x3⟩ := RL.new (g1.trans g2) s2 nz ((rs.mono g2.kp).rep k.toNat)
          exact f μ2 _ _ x1 x2 x3
        · cases e
      · cases e

/-! ### sorted -/
theorem each_of {K : PySem.W.Frag} {pins : List (Addr × Obj)} {σ : L2.St} {H : Hp} {s : Shared} (I : Inv X pins σ H s) (hK : K = X.K) : ∀ {ps : List PyData} {vs : List V} {us : List Value}, Pds K H ps vs → Vals vs us →
    W.EachIs (fun u (b : V × PyData) => RelV b.1 u ∧ Pd K H b.2 b.1) us (vs.zip ps) ∧ W.EachIs (fun u (b : V × PyData) => ∃ as, Reads s.heap u b.2 as) us (vs.zip ps) ∧ (vs.zip ps).map (·.2) = ps
  | [], _, _, .nil, .nil => ⟨.nil, .nil, rfl⟩
  | p :: ps, v :: vs, u :: us, .cons a b, .cons c d => by
    obtain ⟨h1, h2, h3⟩ := each_of I hK b d
    exact ⟨.cons ⟨c, a⟩ h1, .cons (Dp.reads I p v u (hK ▸ a.dp) c) h2, by simp only [List.zip_cons_cons, List.map_cons, h3]⟩
theorem each_back {K : PySem.W.Frag} {H : Hp} : ∀ {us : List Value} {bs : List (V × PyData)}, W.EachIs (fun u (b : V × PyData) => RelV b.1 u ∧ Pd K H b.2 b.1) us bs → Vals (bs.map (·.1)) us ∧ Pds K H (bs.map (·.2)) (bs.map (·.1))
  | _, _, .nil => ⟨.nil, .nil⟩
  | _, _, .cons a b => by
    obtain ⟨h1, h2⟩ := each_back b
    exact ⟨.cons a.1 h1, .cons a.2 h2⟩
theorem alikes_ok {ps : List PyData} (h : alikes ps = true) : (∀ x ∈ ps, ∀ y ∈ ps, W.alike x y = true) ∧ ∀ x ∈ ps, x ≠ .none := by
  unfold alikes at h
  rw [List.all_eq_true] at h
  refine ⟨fun x hx y hy => ?_, fun x hx e => ?_⟩
  · have := h x hx
    rw [Bool.and_eq_true, List.all_eq_true] at this
    exact this.1 y hy
  · have := h x hx
    rw [Bool.and_eq_true, e] at this
    exact absurd this.2 (by simp [nonN])
theorem depth_mem : ∀ {ps : List PyData} {p : PyData}, p ∈ ps → p.depth ≤ PyData.depthAll ps
  | x :: xs, p, h => by
    simp only [PyData.depthAll]
    rcases List.mem_cons.mp h with e | e
    · subst e; exact Nat.le_max_left _ _
    · exact Nat.le_trans (depth_mem e) (Nat.le_max_right _ _)
theorem cr_sortY (hu : X.A.units + 200 < cLine) : CallR X (.builtin "sorted") (fun xs H Q => ∃ (a : Addr) (vs : List V) (ps : List PyData), xs = [.ref a] ∧ Rd H a (.lst vs) ∧ Pds X.K H ps vs ∧ sortOk ps = true ∧
    ∀ p ws, H p = none → Pds X.K H (sortD ps) ws → Q (.ref p) (upd H p (.lst ws))) := by
  intro pins s σ H xs us Q I r h
  obtain ⟨a, vs, ps, rfl, hs, hp, ok, q⟩ := h
  obtain ⟨its, rv, hl, hz⟩ := I.list (.inl hs)
  obtain ⟨u, rfl, ru⟩ := vals1 r
  obtain rfl : u = Value.ref a := ru
  obtain ⟨e1, e2, e3⟩ := each_of I rfl hp rv
  unfold sortOk at ok
  rw [Bool.and_eq_true, Bool.and_eq_true, Bool.and_eq_true, Bool.or_eq_true] at ok
  obtain ⟨⟨⟨o1, o2⟩, o3⟩, o4⟩ := ok
  obtain ⟨al, nn⟩ := alikes_ok o1
  obtain ⟨_, dp⟩ := flats_ok o2
  have hlen : (vs.zip ps).length = ps.length := by rw [← e3, List.length_map, e3]
  refine W.sorted_data (enc := fun b : V × PyData => b.2) hl.isList e1 e2 (by rw [e3]; exact al) ?_ (by rw [hlen]; exact Nat.le_trans (Nat.ble_eq.mp o4) LINE_le) (fun b hb => ?_) fun out ho eo => ?_
  · rw [e3]
    rcases o3 with o3 | o3
    · refine .inl fun d hd => ?_
      have := List.all_eq_true.mp o3 d hd
      unfold isTup1 at this
      split at this
      · exact ⟨_, _, rfl⟩
      · cases this
    · refine .inr fun d hd => ⟨nn d hd, fun xs e => ?_⟩
      have := List.all_eq_true.mp o3 d hd
      rw [e] at this
      cases this
  · have : b.2 ∈ ps := by rw [← e3]; exact List.mem_map.mpr ⟨b, hb, rfl⟩
    have := depth_mem this
    omega
  · obtain ⟨h1, h2⟩ := each_back eo
    obtain ⟨ep, he'⟩ := PyProof.Rows.sortedAll_at s.heap its out.toArray
    have em : ((vs.zip ps).mergeSort (W.dataLe false fun b : V × PyData => b.2)).map (·.2) = sortD ps := by
      unfold sortD
      rw [List.map_mergeSort (r := W.dataLe false fun b : V × PyData => b.2) (s := fun a b => !W.dataLt b a) (fun a _ b _ => rfl), e3]
    rw [em] at h2
    have hlw : (((vs.zip ps).mergeSort (W.dataLe false fun b : V × PyData => b.2)).map (·.1)).length ≤ sizeLine := by
      rw [List.length_map, List.length_mergeSort, hlen]
      exact Nat.le_trans (Nat.ble_eq.mp o4) LINE_le
    exact ⟨.ref _, upd H (s.heap.objs.size + 1) (.lst _), I.laid (t' := s.toks) (fun _ _ => PyProof.Rows.sortedAll_old) (Nat.le_succ _) ⟨hlw, out, ep, h1, he'⟩, rfl, q _ _ (I.hok.fresh (Nat.le_succ _)) h2⟩
theorem y_srt (hK : C.G.K = X.K) (hu : X.A.units + 200 < cLine) {a : Expr} {ma : SE} {p : Pos} (hg : Gl X "sorted") (hm : X.mg "sorted" = none) (ha : PE X a (tE C ma)) (he : starEach [a] X.env = (false, eval a X.env) :: starEach [] X.env) :
    PE X (.Call (.Name "sorted" p) [a] [] pos) (tL C (lSrt ma)) := by
  refine PE.w (pe_callB (cr_sortY hu) hg hm (by decide +kernel) (pa_cons ha pa_nil he) (he := he)) fun σ H Q h => ?_
  have h2 := one_l (f := fun x h => srtV h x) h
  obtain ⟨μ, r, h, s, a⟩ := h2
  refine ⟨μ, r, h, s, a.imp fun x H1 z => ?_⟩
  obtain ⟨μ1, r1, h1, d, ds, s1, rd, e, f⟩ := z
  unfold srtV at e
  split at e
  · rename_i ps e1
    split at e
    · rename_i ok
      cases e
      obtain ⟨q, vs, rfl, hs, rs⟩ := s1.plainSP rd e1
      exact ⟨q, vs, ps, rfl, hs, hK ▸ rs, ok, fun z ws n hp => f z ws n (Pds.to (hK ▸ hp))⟩
    · cases e
  · cases e
end
end Y

/-! Y9: list comprehensions. -/
namespace Y
open PySem PySem.Spec PyProof.Rows L2
mutual
theorem asgT_cl : ∀ (t : Tg) (d : D) (r : Rho) (h : Hh) (r' : Rho) (h' : Hh), asgT t d r h = some (r', h') → r'.cl = r.cl
  | .nm i, d, r, h, r', h', e => by
    simp only [asgT, Option.some.injEq, Prod.mk.injEq] at e
    rw [← e.1]
  | .cn j, d, r, h, r', h', e => by
    simp only [asgT] at e
    split at e
    · simp only [Option.some.injEq, Prod.mk.injEq] at e
      rw [← e.1]
    · cases e
  | .tup ts, d, r, h, r', h', e => by
    simp only [asgT] at e
    split at e
    · exact asgTs_cl ts _ r h r' h' e
    · cases e
  | .nil, _, _, _, _, _, e => by simp [asgT] at e
  | .cons _ _, _, _, _, _, _, e => by simp [asgT] at e
theorem asgTs_cl : ∀ (t : Tg) (ds : List D) (r : Rho) (h : Hh) (r' : Rho) (h' : Hh), asgTs t ds r h = some (r', h') → r'.cl = r.cl
  | .nil, [], r, h, r', h', e => by
    simp only [asgTs, Option.some.injEq, Prod.mk.injEq] at e
    rw [← e.1]
  | .nil, _ :: _, _, _, _, _, e => by simp [asgTs] at e
  | .cons a b, [], _, _, _, _, e => by simp [asgTs] at e
  | .cons a b, d :: ds, r, h, r', h', e => by
    simp only [asgTs] at e
    split at e
    · rename_i r1 h1 e1
      rw [asgTs_cl b ds r1 h1 r' h' e, asgT_cl a d r h r1 h1 e1]
    · cases e
  | .nm _, ds, _, _, _, _, e => by simp [asgTs] at e
  | .cn _, ds, _, _, _, _, e => by simp [asgTs] at e
  | .tup _, ds, _, _, _, _, e => by simp [asgTs] at e
end
theorem compW_fx {body : D → Hh → Res (Option D)} {ds : List D} : ∀ (k i : Nat) (h : Hh), i + k = ds.length → compW (.fx ds) body k i h = compL body (ds.drop i) h
  | 0, i, h, e => by
    rw [List.drop_eq_nil_of_le (by omega)]
    rfl
  | k + 1, i, h, e => by
    have hi : i < ds.length := by omega
    rw [List.drop_eq_getElem_cons hi]
    have e1 : Wk.at (.fx ds) i h = some ds[i] := by
      show nth ds i = _
      rw [nth_eq, List.getElem?_eq_getElem hi]
    simp only [compW, compL, e1]
    congr 1
    funext o h1
    rw [compW_fx k (i + 1) h1 (by omega)]
theorem compV_W {w : Wk} {body : D → Hh → Res (Option D)} {h : Hh} : compV w body h = compW w body w.len 0 h := by
  cases w with
  | fx ds =>
    show compL body ds h = compW (.fx ds) body ds.length 0 h
    rw [compW_fx (ds := ds) ds.length 0 h (by omega)]; rfl
  | rd l n => rfl
/-- nothing may be raised -/
abbrev Cfg.calm (C : Cfg) : Cfg := { C with W := fun _ _ _ _ => False }
/-- a clause's test -/
noncomputable def tCond (mo : SO) : CSem → Rho → Hh → Res Bool := fun cs r h => (mo cs r h).bind fun o h1 => match o with
  | none => .ok true h1
  | some b => opt (truthV h1 b) h1
theorem compB_eq {cs : CSem} {t : Tg} {mo : SO} {me : SE} {r r' : Rho} {x : D} {h h' : Hh} (e : asgT t x r h = some (r', h')) : compB cs t mo me r x h = (tCond mo cs r' h').bind fun k h4 => match k with
    | true => (me cs r' h4).bind fun y h5 => .ok (some y) h5
    | false => .ok none h4 := by
  unfold compB tCond
  rw [e]
  simp only
  cases mo cs r' h' with
  | bad => rfl
  | exn c fs h4 => rfl
  | ok o h4 =>
    simp only [Res.bind]
    cases o with
    | none => rfl
    | some b =>
      simp only
      cases truthV h4 b with
      | none => rfl
      | some k => cases k <;> rfl
section
variable {G : Gd} {oc : List (Nat × Addr)} {μ μ0 : List Addr} {r r0 : Rho} {h h0 : Hh} {σ σ0 : L2.St} {H H0 : Hp}
/-- the slots as they were, all else as it is -/
theorem Sr.back (s : Sr G oc μ r h σ H) (s0 : Sr G oc μ0 r0 h0 σ0 H0) (kp : Kp μ0 H0 μ H) (ecl : r.cl = r0.cl) (own : ∀ i, i ∈ oc.map (·.1) → ∀ v, σ[i]? = some (some v) → σ0[i]? = some (some v)) : Sr G oc μ r0 h σ0 H :=
  ⟨s.len, by rw [← ecl]; exact s.inj, by rw [← ecl]; exact s.ob, s0.ocl, fun j l i a e1 e2 => by
      rw [← ecl] at e1
      obtain ⟨a1, d, a2, a3⟩ := s.own j l i a e1 e2
      refine ⟨a1, d, a2, fun x ex => ?_⟩
      obtain ⟨v, b1, b2⟩ := a3 x ex
      exact ⟨v, own i (List.mem_map.mpr ⟨_, List.mem_of_getElem? e2, rfl⟩) v b1, b2⟩,
    s0.sll, fun i d e ni => by
      obtain ⟨v, a1, a2⟩ := s0.sl i d e ni
      exact ⟨v, a1, a2.mono kp⟩, s0.cln, s.tab⟩
theorem wipe_off {σ : L2.St} {i : Nat} : ∀ {vs : List Nat}, i ∉ vs → (L2.wipe σ vs)[i]? = σ[i]?
  | [], _ => rfl
  | v :: vs, h => by
    unfold L2.wipe
    rw [List.mem_cons, not_or] at h
    rw [List.getElem?_set_ne (Ne.symm h.1)]
    exact wipe_off h.2
theorem wipe_in {σ : L2.St} {i : Nat} : ∀ {vs : List Nat}, i ∈ vs → i < σ.length → (L2.wipe σ vs)[i]? = some none
  | v :: vs, h, hl => by
    unfold L2.wipe
    by_cases hv : v = i
    · subst hv
      rw [List.getElem?_set_self (by rw [wipe_length]; exact hl)]
    · rw [List.getElem?_set_ne hv]
      rcases List.mem_cons.mp h with e | e
      · exact absurd e.symm hv
      · exact wipe_in e hl
theorem wipe_same {σ σ' : L2.St} {vs : List Nat} (hl : σ'.length = σ.length) (h : ∀ i, i ∉ vs → σ'[i]? = σ[i]?) : L2.wipe σ' vs = L2.wipe σ vs := by
  apply List.ext_getElem?
  intro i
  by_cases hi : i ∈ vs
  · by_cases hb : i < σ.length
    · rw [wipe_in hi hb, wipe_in hi (by omega)]
    · rw [List.getElem?_eq_none (by rw [wipe_length]; omega), List.getElem?_eq_none (by rw [wipe_length]; omega)]
  · rw [wipe_off hi, wipe_off hi, h i hi]
theorem wipe_wipe {σ : L2.St} {vs : List Nat} : L2.wipe (L2.wipe σ vs) vs = L2.wipe σ vs := wipe_same (wipe_length σ vs) fun i hi => wipe_off hi
theorem Sr.wipe (s : Sr G oc μ r h σ H) {vs : List Nat} (no : ∀ i ∈ vs, i ∉ oc.map (·.1)) : Sr G oc μ (r.wipe vs) h (L2.wipe σ vs) H :=
  ⟨s.len, s.inj, s.ob, s.ocl, fun j l i a e1 e2 => by
      obtain ⟨a1, d, a2, a3⟩ := s.own j l i a e1 e2
      refine ⟨a1, d, a2, fun x ex => ?_⟩
      obtain ⟨v, b1, b2⟩ := a3 x ex
      exact ⟨v, by rw [wipe_off fun z => no i z (List.mem_map.mpr ⟨_, List.mem_of_getElem? e2, rfl⟩)]; exact b1, b2⟩,
    by show (wipeL r.sl vs).length ≤ _; rw [wipeL_length, wipe_length]; exact s.sll, fun i d e ni => by
      replace e : (wipeL r.sl vs)[i]? = some (some d) := e
      rw [wipeL_get] at e
      split at e
      · cases q : r.sl[i]? <;> rw [q] at e <;> cases e
      · rename_i hi
        obtain ⟨v, a1, a2⟩ := s.sl i d e ni
        exact ⟨v, by rw [wipe_off hi]; exact a1, a2⟩, s.cln, s.tab⟩
end
section
variable {X : Cx} {C : Cfg} {pos : Pos}
theorem keep_kp {μ : List Addr} {H H' : Hp} (k : ∀ b o, H b = some o → H' b = some o) : Kp μ H μ H' := (Gr.of_keep (cl := []) k).kp
theorem y_tcNo {C : Cfg} : PTs X [] (tT C (tCond oNo)) := ⟨fun pins s σ H Q I h => pts_nil.run pins s σ H Q I (by
  obtain ⟨μ, r, h, sr, a⟩ := h
  exact a.ok sr rfl)⟩
theorem tCond_so {m : SE} : tCond (oSo m) = tst m := by
  funext cs r h
  simp only [tCond, tst, testE, oSo]
  cases m cs r h <;> rfl
theorem y_tcSo {c : Expr} {m : SE} (h : PT X c (tT C (tst m))) : PTs X [c] (tT C (tCond (oSo m))) := by
  rw [tCond_so]
  exact pts_one h
theorem lcomp_r {t : Tg} {mi : SI} {mo : SO} {me : SE} {vs : List Nat} {σ : L2.St} {H : Hp} {Q : VK} (h1 : ∀ i ∈ vs, i ∈ tgN [] t) (h2 : ∀ i ∈ tgN C.oc t, i ∈ vs) (h3 : ∀ i ∈ vs, i ∉ C.oc.map (·.1)) (hh : tL C (lComp t mi mo me) σ H Q) :
    tLc (tI C mi) (gY C.calm t) (tT C.calm (tCond mo)) (tE C.calm me) vs σ H Q := by
  obtain ⟨μ, r, h, s0, a⟩ := hh
  refine ⟨μ, r, h, s0, (Aft.bind0 (R := RWk C) a).imp fun J H1 z => ?_⟩
  obtain ⟨μ1, w, h1', g1, s1, wk, a1⟩ := z
  intro D nD
  split at a1
  case isFalse => exact a1.elim
  rename_i hl
  replace hl := Nat.le_trans (Nat.ble_eq.mp hl) LINE_le
  rw [compV_W] at a1
  generalize hb : compB C.cs t mo me r = body at a1
  have nH : H D = none := g1.old nD (s1.notAt nD)
  let Ct : Res (List Y.D) → List Y.D → Prop := fun m done => match m with
    | .ok ys h' => ∀ μ' H' vs', Gr r.cl μ H μ' H' → Sr C.G C.oc μ' r h' σ H' → H' D = some (.lst vs') → ¬ At r.cl μ' D → RDs C.G μ' H' (done ++ ys) vs' → Q (.ref D) H'
    | _ => False
  have c0 : Ct (compW w body w.len 0 h1') [] := by
    cases q : compW w body w.len 0 h1' with
    | bad => rw [q] at a1; exact a1
    | exn c fs h' => rw [q] at a1; exact a1
    | ok ys h' =>
      rw [q] at a1
      intro μ' H' vs' g s e na rs
      exact a1 μ' (.ref D) H' g s ⟨D, vs', rfl, nH, na, e, rs⟩
  refine ⟨fun i m Hc => i + m = w.len ∧ ∃ μc hc acc done, Gr r.cl μ H μc Hc ∧ Sr C.G C.oc μc (r.wipe vs) hc (L2.wipe σ vs) Hc ∧ Hc D = some (.lst acc) ∧ ¬ At r.cl μc D ∧ RDs C.G μc Hc done acc ∧ done.length ≤ i ∧ Kp μ1 H1 μc Hc ∧ Ct (compW w body m i hc) done,
    ⟨w.len, by omega, μ1, h1', [], [], g1.trans (Gr.laid nD), (s1.laid nD).wipe h3, upd_same, s1.notAt nD, .nil, Nat.zero_le _, (Gr.laid (cl := []) nD).kp, c0⟩, ?_⟩
  rintro i m Hc ⟨him, μc, hc', acc, done, g, s, eD, nA, rs, hd, kp, ct⟩
  have unw : ∀ {μ' : List Addr} {h' : Hh} {H' : Hp} {r' : Rho} {σ' : L2.St}, Sr C.G C.oc μ' r' h' σ' H' → Gr r.cl μ H μ' H' → r'.cl = r.cl → (∀ i, i ∉ vs → σ'[i]? = σ[i]?) → Sr C.G C.oc μ' r h' σ H' := fun {μ' h' H' r' σ'} s' g' ec ks =>
    s'.back s0 g'.kp ec fun i hi v e => by rw [← ks i fun z => h3 i z hi]; exact e
  cases m with
  | zero =>
    simp only [compW] at ct
    split at ct
    · rename_i hf
      refine .inl ⟨?_, ?_⟩
      · have := wk.stop _ _ _ _ _ _ kp s hf
        rw [show i = w.len by omega]; exact this
      · exact ct μc Hc acc g (unw s g rfl fun i hi => wipe_off hi) eD nA (by simpa using rs)
    · exact ct.elim
  | succ k =>
    simp only [compW] at ct
    split at ct
    case h_2 => exact ct.elim
    rename_i x ex
    have hgo := wk.go i x _ _ _ _ _ _ kp s ex
    refine .inr ⟨hgo.1, _, fun H' n => ⟨k, Nat.lt_succ_self k, n⟩, fun x' H' yl => ?_⟩
    obtain ⟨ka, rd⟩ := hgo.2 x' H' yl
    have s' := s.grow ka
    rw [← hb] at ct
    cases ea : asgT t x r hc' with
    | none =>
      have : compB C.cs t mo me r x hc' = .bad := by unfold compB; rw [ea]
      rw [this] at ct
      exact ct.elim
    | some z =>
      obtain ⟨r', h3'⟩ := z
      rw [compB_eq ea] at ct
      have ecl := asgT_cl t x r hc' r' h3' ea
      have ew := asgT_wipe (oc := []) t x r hc' r' h3' ea vs
      have ef : (vs.filter fun v => decide (v ∉ tgN [] t)) = [] := List.filter_eq_nil_iff.mpr fun v hv => by simp [h1 v hv]
      rw [ef] at ew
      refine ⟨μc, r.wipe vs, hc', x, s', rd, r', h3', ew, fun σ2 s2 l2 k2 => ⟨?_, μc, r', h3', s2, ?_⟩⟩
      · rw [wipe_same (σ' := σ2) (σ := L2.wipe σ vs) l2 fun i hi => k2 i fun z => hi (h2 i z), wipe_wipe]
      have ks2 : ∀ i, i ∉ vs → σ2[i]? = σ[i]? := fun i hi => by rw [k2 i fun z => hi (h2 i z), wipe_off hi]
      have gH' : Gr r.cl μ H μc H' := g.trans (Gr.of_keep ka)
      have eD' := ka D _ eD
      show Aft C.calm RB μc r' σ2 H' (tCond mo C.cs r' h3') _
      cases qt : tCond mo C.cs r' h3' with
      | bad => rw [qt] at ct; exact ct.elim
      | exn c fs h4 => rw [qt] at ct; exact ct.elim
      | ok b h4 =>
        rw [qt] at ct
        intro μ3 b' H3 g3 s3 eb
        subst eb
        rw [ecl] at g3
        have g3' : Gr r.cl μ H μ3 H3 := gH'.trans g3
        obtain ⟨eD3, nA3⟩ := g3.stays eD' nA
        have kp3 : Kp μc Hc μ3 H3 := (keep_kp ka).trans g3.kp
        have again : ∀ {μ4 : List Addr} {h5 : Hh} {H4 : Hp}, Sr C.G C.oc μ4 r' h5 σ2 H4 → Kp μc Hc μ4 H4 → Sr C.G C.oc μ4 (r.wipe vs) h5 (L2.wipe σ vs) H4 := fun {μ4 h5 H4} s4 kp4 =>
          s4.back s kp4 ecl fun i hi v e => by
            have nv : i ∉ vs := fun z => h3 i z hi
            rw [wipe_off nv, ← ks2 i nv]; exact e
        cases b with
        | false =>
          rw [if_neg (by decide)]
          refine ⟨by omega, μ3, h4, acc, done, g3', again s3 kp3, eD3, nA3, rs.mono kp3, by omega, kp.trans kp3, ?_⟩
          simp only [Res.bind] at ct
          rw [hb] at ct
          show Ct (compW w body k (i + 1) h4) done
          cases q : compW w body k (i + 1) h4 with
          | bad => rw [q] at ct; exact ct
          | exn c fs h' => rw [q] at ct; exact ct
          | ok ys h' => rw [q] at ct; exact ct
        | true =>
          rw [if_pos rfl]
          refine ⟨μ3, r', h4, s3, ?_⟩
          simp only [Res.bind] at ct
          show Aft C.calm (RV C.calm) μ3 r' σ2 H3 (me C.cs r' h4) _
          cases q5 : me C.cs r' h4 with
          | bad => rw [q5] at ct; exact ct.elim
          | exn c fs h5 => rw [q5] at ct; exact ct.elim
          | ok y h5 =>
            rw [q5] at ct
            intro μ4 v H4 g4 s4 rd4
            rw [ecl] at g4
            obtain ⟨eD4, nA4⟩ := g4.stays eD3 nA3
            have kp4 : Kp μc Hc μ4 H4 := kp3.trans g4.kp
            have hl1 := rs.length
            refine ⟨acc, eD4, by omega, by omega, μ4, h5, acc ++ [v], done ++ [y], (g3'.trans g4).upd_new nH _, ?_, upd_same, nA4, ?_, by rw [List.length_append, List.length_singleton]; omega, ?_, ?_⟩
            · have i4 : ∀ o, H4 D = some o → ¬ Stay o := fun o e => by rw [eD4] at e; cases e; exact fun z => z
              exact again (s4.but (fun b o ne e => by rw [upd_ne ne]; exact e) i4 fun l nl e => nA4 ⟨l, by rw [← ecl]; exact nl, e⟩) (kp4.trans (Kp.write i4))
            · have i4 : ∀ o, H4 D = some o → ¬ Stay o := fun o e => by rw [eD4] at e; cases e; exact fun z => z
              have kw : Kp μ4 H4 μ4 (upd H4 D (.lst (acc ++ [v]))) := Kp.write i4
              exact (rs.mono (kp4.trans kw)).append (.cons (RD.mono kw rd4) .nil)
            · have i4 : ∀ o, H4 D = some o → ¬ Stay o := fun o e => by rw [eD4] at e; cases e; exact fun z => z
              exact (kp.trans kp4).trans (Kp.write i4)
            · simp only [Res.bind] at ct
              rw [hb] at ct
              show Ct (compW w body k (i + 1) h5) (done ++ [y])
              cases q : compW w body k (i + 1) h5 with
              | bad => rw [q] at ct; exact ct
              | exn c fs h' => rw [q] at ct; exact ct
              | ok ys h' =>
                rw [q] at ct
                intro μ' H' vs' gg ss ee nn rr
                rw [List.append_assoc] at rr
                exact ct μ' H' vs' gg ss ee nn rr
theorem y_lcomp {elt tg iter : Expr} {ifs : List Expr} {scope : Scope} {own : List (Str × Nat)} {t : Tg} {mi : SI} {mo : SO} {me : SE} (hc : X.calm = true) (hN : X.N.Nodup) (hi : PI X tg iter (tI C mi)) (ok : BlkOk X.N X.env.scope scope own)
    (hg : ∀ (s : Shared) (H : Hp) (A : Addr) (cl : List (Str × Addr)) (fp : List Addr), PG (X.blk s H scope (compEnvC scope cl A X.env) fp) tg (gY C.calm t))
    (ht : ∀ (s : Shared) (H : Hp) (A : Addr) (cl : List (Str × Addr)) (fp : List Addr), PTs (X.blk s H scope (compEnvC scope cl A X.env) fp) ifs (tT C.calm (tCond mo)))
    (he : ∀ (s : Shared) (H : Hp) (A : Addr) (cl : List (Str × Addr)) (fp : List Addr), PE (X.blk s H scope (compEnvC scope cl A X.env) fp) elt (tE C.calm me)) (hs : ∀ x, foldedSetIterable iter X.env x = pure x)
    (h1 : ∀ i ∈ own.map (·.2), i ∈ tgN [] t) (h2 : ∀ i ∈ tgN C.oc t, i ∈ own.map (·.2)) (h3 : ∀ i ∈ own.map (·.2), i ∉ C.oc.map (·.1)) : PE X (.ListComp elt [⟨tg, iter, ifs, 0⟩] scope pos) (tL C (lComp t mi mo me)) :=
  PE.w (pe_lc hc hN hi ok hg ht he hs) fun σ H Q hh => lcomp_r h1 h2 h3 hh
end
end Y

/-! Y10: built-in functions. -/
namespace Y
open PySem PySem.Spec PyProof.Rows L2
/-! ### how long a text of data is -/
theorem textFrom_le : ∀ (ts : List Str) (k : Nat) (acc : Str), (textFrom k acc ts).length ≤ acc.length + piled ts
  | [], k, acc => by show acc.length ≤ _; omega
  | t :: r, k, acc => by
    have ih := textFrom_le r (k + 1) (acc ++ (if k > 0 then ", " else "" : String) ++ t)
    have e : (acc ++ (if k > 0 then ", " else "" : String) ++ t).length = acc.length + (if k > 0 then 2 else 0) + t.length := by
      rw [strLen_append, strLen_append]
      split <;> rfl
    have e2 : (if k > 0 then 2 else 0 : Nat) ≤ 2 := by split <;> omega
    rw [e] at ih
    rw [piled_cons]
    show (textFrom (k + 1) (acc ++ (if k > 0 then ", " else "" : String) ++ t) r).length ≤ _
    omega
theorem listText_le (ts : List Str) : (listText ts).length ≤ piled ts + 2 := by
  unfold listText
  rw [strLen_append]
  have h := textFrom_le ts 0 (("[" : String) : Str)
  have e1 : (("[" : String) : Str).length = 1 := rfl
  have e2 : (("]" : String) : Str).length = 1 := rfl
  omega
theorem tupleText_le (ts : List Str) : (tupleText ts).length ≤ piled ts + 3 := by
  unfold tupleText
  rw [strLen_append, strLen_append]
  have e1 : ((("(" : String) : Str)).length = 1 := rfl
  have e3 : (((if ts.length == 1 then ",)" else ")" : String) : Str)).length ≤ 2 := by split <;> decide
  have e4 : (Str.join ", " ts).length ≤ piled ts := by
    by_cases h : ts = []
    · subst h; exact Nat.le_refl _
    · have := join_length_add ts h
      omega
  omega
mutual
theorem shown_le : ∀ d : PyData, showB d = true → flat d = true → d.shown.length ≤ wgt d ∧ d.showable = true ∧ d.hasDict = false
  | .none, _, _ => ⟨Nat.le_refl _, rfl, rfl⟩
  | .bool b, _, _ => ⟨by cases b <;> decide, rfl, rfl⟩
  | .int i, h, _ => by
    have h := of_decide_eq_true h
    refine ⟨?_, by simp only [PyData.showable]; exact decide_eq_true h, rfl⟩
    show (Str.ofString (toString i)).length ≤ i.natAbs.log2 + 3
    have e := PySem.int_text_length_le (a := i) (k := i.natAbs.log2 + 1) (by omega) (by omega)
    rw [PySem.ofString_length]
    omega
  | .str x, h, _ => by
    refine ⟨PySem.StrLaws.reprText_len x fun c hc => ?_, rfl, rfl⟩
    have h : (x.cps.all fun c => decide (c < 4294967296)) = true := h
    rw [← Array.all_toList, List.all_eq_true] at h
    have := of_decide_eq_true (h c hc)
    omega
  | .list xs, h, f => by
    have f2 : flats xs = true := by
      have := of_decide_eq_true f
      simp only [dep] at this
      exact decide_eq_true (by omega)
    obtain ⟨a, b, c⟩ := showns_le xs h f2
    refine ⟨?_, by simp only [PyData.showable]; exact b, by simp only [PyData.hasDict]; exact c⟩
    have := listText_le (PyData.shownAll xs)
    simp only [PyData.shown, wgt]
    omega
  | .tuple xs, h, f => by
    have f2 : flats xs = true := by
      have := of_decide_eq_true f
      simp only [dep] at this
      exact decide_eq_true (by omega)
    obtain ⟨a, b, c⟩ := showns_le xs h f2
    refine ⟨?_, by simp only [PyData.showable]; exact b, by simp only [PyData.hasDict]; exact c⟩
    have := tupleText_le (PyData.shownAll xs)
    simp only [PyData.shown, wgt]
    omega
  | .dict _, h, _ => by cases h
theorem showns_le : ∀ d : List PyData, showBs d = true → flats d = true → piled (PyData.shownAll d) ≤ wgts d ∧ PyData.showableAll d = true ∧ PyData.hasDictAll d = false
  | [], _, _ => ⟨Nat.le_refl _, rfl, rfl⟩
  | x :: xs, h, f => by
    simp only [showBs, Bool.and_eq_true] at h
    have fd := of_decide_eq_true f
    simp only [deps] at fd
    obtain ⟨a, b, c⟩ := shown_le x h.1 (decide_eq_true (by omega))
    obtain ⟨a', b', c'⟩ := showns_le xs h.2 (decide_eq_true (by omega))
    refine ⟨?_, by simp only [PyData.showableAll, b, b', Bool.and_self], by simp only [PyData.hasDictAll, c, c', Bool.or_self]⟩
    simp only [PyData.shownAll, piled_cons, wgts]
    omega
end
/-! ### a call by the evaluator's values -/
def rP (C : Cfg) (f : Hh → List D → Option D) : List V → Hp → VK → Prop := fun xs H Q => ∃ μ ρ h σ ds d, Sr C.G C.oc μ ρ h σ H ∧ RDs C.G μ H ds xs ∧ f h ds = some d ∧
  ∀ μ' v H', Gr ρ.cl μ H μ' H' → Sr C.G C.oc μ' ρ h σ H' → RD C.G μ' H' d v → Q v H'
section
variable {X : Cx} {C : Cfg} {pos : Pos}
theorem args_rP {mes : SL} {f : Hh → List D → Option D} {σ : L2.St} {H : Hp} {Q : VK} (h : tE C (fun cs r h => (mes cs r h).bind fun ds h1 => opt (f h1 ds) h1) σ H Q) : tCB (rP C f) (tA C mes) σ H Q := by
  obtain ⟨μ, r, h, s, a⟩ := h
  refine ⟨μ, r, h, s, (Aft.bind (R := RVs C) a).imp fun xs H1 z => ?_⟩
  obtain ⟨μ1, ds, h1, g1, s1, rs, a1⟩ := z
  obtain ⟨d, e, f⟩ := Aft.opt a1
  exact ⟨μ1, r, h1, σ, ds, d, s1, rs, e, f⟩
theorem y_prB {f : Hh → List D → Option D} {id : String} {x : Str} {e : Expr} {es : List Expr} {mes : SL} {p : Pos} (hc : CallR X (.builtin id) (rP C f)) (hg : Gl X x) (hm : X.mg x = none) (hv : bootBuiltins x = some (.builtin id)) (ha : PA X (e :: es) (tA C mes)) (hn : x ≠ "__name__") (hdb : (x == ("__debug__" : Str)) = false)
    (he : starEach (e :: es) X.env = (false, eval e X.env) :: starEach es X.env) (hpl : (backTo pos (starEach es X.env)).any (·.1) = false) : PE X (.Call (.Name x p) (e :: es) [] pos) (tE C fun cs r h => (mes cs r h).bind fun ds h1 => opt (f h1 ds) h1) :=
  PE.w (pe_callB hc hg hm hv ha hn hdb he hpl) fun σ H Q h => args_rP h
theorem y_prT {f : Hh → List D → Option D} {id : String} {x : Str} {e : Expr} {es : List Expr} {mes : SL} {p : Pos} (hc : CallR X (.type id) (rP C f)) (hg : Gl X x) (hm : X.mg x = none) (hv : bootBuiltins x = some (.type id)) (ha : PA X (e :: es) (tA C mes)) (hn : x ≠ "__name__") (hdb : (x == ("__debug__" : Str)) = false)
    (he : starEach (e :: es) X.env = (false, eval e X.env) :: starEach es X.env) (hpl : (backTo pos (starEach es X.env)).any (·.1) = false) : PE X (.Call (.Name x p) (e :: es) [] pos) (tE C fun cs r h => (mes cs r h).bind fun ds h1 => opt (f h1 ds) h1) :=
  PE.w (pe_callTy hc hg hm hv ha hn hdb he hpl) fun σ H Q h => args_rP h
theorem CallR.w {f : Value} {r r' : List V → Hp → VK → Prop} (h : CallR X f r) (w : ∀ xs H Q, r' xs H Q → r xs H Q) : CallR X f r' := fun pins s σ H xs us Q I rv q => h pins s σ H xs us Q I rv (w xs H Q q)
theorem RDs.one {G : Gd} {μ : List Addr} {H : Hp} {d : D} {vs : List V} (h : RDs G μ H [d] vs) : ∃ v, vs = [v] ∧ RD G μ H d v := by
  cases h with
  | cons a b => cases b; exact ⟨_, rfl, a⟩
theorem RDs.two {G : Gd} {μ : List Addr} {H : Hp} {d e : D} {vs : List V} (h : RDs G μ H [d, e] vs) : ∃ v w, vs = [v, w] ∧ RD G μ H d v ∧ RD G μ H e w := by
  cases h with
  | cons a b => obtain ⟨w, rfl, c⟩ := b.one; exact ⟨_, w, rfl, a, c⟩
/-- plain items of a sequence as the library reads them -/
theorem Sr.readsS {oc : List (Nat × Addr)} {μ : List Addr} {r : Rho} {h : Hh} {σ σ' : L2.St} {H : Hp} {G : Gd} {pins : List (Addr × Obj)} {s : Shared} (sr : Sr G oc μ r h σ' H) (hK : G.K = X.K) (I : Inv X pins σ H s) {d : D} {v : V} {b : Bool} {ps : List PyData} (rd : RD G μ H d v) (e : Y.plainS h d = some (b, ps)) :
    ∃ a vs its as, v = .ref a ∧ Pds X.K H ps vs ∧ Vals vs its ∧ ReadsAll s.heap its ps as ∧ ((b = true ∧ s.heap.IsTuple a its.toArray) ∨ (b = false ∧ s.heap.IsList a its.toArray)) := by
  cases b with
  | false =>
    obtain ⟨a, vs, rfl, h1, h2⟩ := sr.plainSP rd e
    obtain ⟨its, rv, hl, hz⟩ := I.list (.inl h1)
    obtain ⟨as, ra⟩ := Dp.readsAll I ps vs its (hK ▸ h2.dp) rv
    exact ⟨a, vs, its, as, rfl, hK ▸ h2, rv, ra, .inr ⟨rfl, hl.isList⟩⟩
  | true =>
    unfold Y.plainS at e
    have fin : ∀ (a : Addr) (vs : List V), SqT G.K H a vs → Pds G.K H ps vs → ∃ a' vs' its as, V.ref a = .ref a' ∧ Pds X.K H ps vs' ∧ Vals vs' its ∧ ReadsAll s.heap its ps as ∧ ((true = true ∧ s.heap.IsTuple a' its.toArray) ∨ (true = false ∧ s.heap.IsList a' its.toArray)) := fun a vs h1 h2 => by
      obtain ⟨its, rv, ht, hz⟩ := I.tuple (hK ▸ h1)
      obtain ⟨as, ra⟩ := Dp.readsAll I ps vs its (hK ▸ h2.dp) rv
      exact ⟨a, vs, its, as, rfl, hK ▸ h2, rv, ra, .inl ⟨rfl, ht⟩⟩
    split at e
    · cases e
      cases rd with
      | p q =>
        cases q with
        | tup w hs => exact fin _ _ (.inl (.inl w)) hs
    · cases e
    · split at e
      · rename_i q2
        cases e
        cases rd with
        | tup w hs =>
          rw [allP_some q2] at hs
          exact fin _ _ w (Pds.of hs)
      · cases e
    · split at e
      · split at e <;> cases e
      · cases e
    · cases e
theorem intsOf_is : ∀ {ps : List PyData} {is : List Int}, intsOf ps = some is → ps = is.map .int
  | [], is, e => by cases e; rfl
  | .int i :: r, is, e => by
    simp only [intsOf] at e
    split at e
    · rename_i js e1
      cases e
      rw [intsOf_is e1]; rfl
    · cases e
  | .none :: _, _, e => by simp [intsOf] at e
  | .bool _ :: _, _, e => by simp [intsOf] at e
  | .str _ :: _, _, e => by simp [intsOf] at e
  | .list _ :: _, _, e => by simp [intsOf] at e
  | .tuple _ :: _, _, e => by simp [intsOf] at e
  | .dict _ :: _, _, e => by simp [intsOf] at e
theorem Pds.ints {K : PySem.W.Frag} {H : Hp} : ∀ {is : List Int} {vs : List V}, Pds K H (is.map .int) vs → vs = is.map V.int
  | [], _, h => by cases h; rfl
  | i :: r, _, h => by
    cases h with
    | cons a b => cases a; rw [Pds.ints b]; rfl
theorem cr_len (hK : C.G.K = X.K) : CallR X (.builtin "len") (rP C pLen) := by
  refine CallR.w call_len fun xs H Q h => ?_
  obtain ⟨μ, ρ, h, σ, ds, d, s, rs, e, q⟩ := h
  unfold pLen at e
  split at e
  case h_2 => cases e
  split at e
  case h_2 => cases e
  rename_i x _ n e1
  cases e
  obtain ⟨v, rfl, rd⟩ := rs.one
  refine ⟨v, n, rfl, ?_, q μ (.int n) H (Gr.refl _ _) s (.p (.int n))⟩
  unfold lenV at e1
  split at e1
  · rename_i y
    split at e1
    · rename_i hl
      cases e1
      obtain rfl := rd.str'
      exact ⟨Nat.le_trans hl LINE_le, rfl⟩
    · cases e1
  · split at e1
    · rename_i ys e2
      cases e1
      obtain ⟨a, vs, rfl, ht, rv⟩ := rd.seqT e2
      exact .inr ⟨vs, hK ▸ ht, rv.length⟩
    · split at e1
      · rename_i ys e2
        cases e1
        obtain ⟨a, vs, rfl, ht, rv⟩ := s.seqL rd e2
        exact .inl ⟨vs, .inl ht, rv.length⟩
      · cases e1
theorem cr_sum (hK : C.G.K = X.K) (hc : X.calm = true) : CallR X (.builtin "sum") (rP C pSum) := by
  intro pins s σ H xs us Q I rv h
  obtain ⟨μ, ρ, h, σ', ds, d, sr, rs, e, q⟩ := h
  unfold pSum at e
  split at e
  case h_2 => cases e
  split at e
  case h_2 => cases e
  split at e
  case h_2 => cases e
  rename_i x b ps e1 _ is e2
  cases e
  obtain ⟨v, rfl, rd⟩ := rs.one
  obtain ⟨a, vs, its, as, rfl, hp, hv, ra, ht⟩ := sr.readsS hK I rd e1
  obtain ⟨u, rfl, ru⟩ := vals1 rv
  cases ru
  rw [intsOf_is e2] at hp
  have ev := hp.ints
  subst ev
  have hi := hv.ints
  have q' := q μ (.int is.sum) H (Gr.refl _ _) sr (.p (.int _))
  rcases ht with ⟨_, ht⟩ | ⟨_, ht⟩
  · obtain ⟨ys, hx⟩ := hi.allInts.items
    have hn : numsOf (intItems ys).toList = is := by rw [← hx]; exact hi.numsOf
    rw [hx] at ht
    rw [nums_intItems] at hn
    refine W.ktm_sumG (I.ok.hd hc) ht fun h' tk t' hk => ?_
    rw [preSum_eq, List.take_of_length_le (by simp), hn]
    exact ⟨.int _, H, I.kept hk, ⟨_, rfl⟩, q'⟩
  · exact sum_raw (I.ok.hd hc) ht hi fun h' tk t' hk => ⟨.int _, H, I.kept hk, ⟨_, rfl⟩, q'⟩
theorem tru_data {p : PyData} (h : allTru p = true) : p.truthy = tru p ∧ p.plain = true ∧ p.fits63 := by
  cases p <;> first | (cases h; done) | exact ⟨rfl, rfl, by simp [PyData.fits63]⟩
theorem trus_data : ∀ {ps : List PyData}, ps.all allTru = true → (∀ x ∈ ps, x.truthy = tru x) ∧ PyData.plainAll ps = true ∧ ∀ x ∈ ps, x.fits63
  | [], _ => ⟨(fun _ h => nomatch h), rfl, (fun _ h => nomatch h)⟩
  | x :: xs, h => by
    rw [List.all_cons, Bool.and_eq_true] at h
    obtain ⟨a, b, c⟩ := tru_data h.1
    obtain ⟨a', b', c'⟩ := trus_data h.2
    refine ⟨fun y hy => ?_, by simp only [PyData.plainAll, b, b', Bool.and_self], fun y hy => ?_⟩
    · rcases List.mem_cons.mp hy with e | e
      · subst e; exact a
      · exact a' y e
    · rcases List.mem_cons.mp hy with e | e
      · subst e; exact c
      · exact c' y e
theorem all_congr' {f g : PyData → Bool} : ∀ {ps : List PyData}, (∀ x ∈ ps, f x = g x) → ps.all f = ps.all g ∧ ps.any f = ps.any g
  | [], _ => ⟨rfl, rfl⟩
  | x :: xs, h => by
    obtain ⟨a, b⟩ := all_congr' (ps := xs) fun y hy => h y (List.mem_cons_of_mem _ hy)
    rw [List.all_cons, List.all_cons, List.any_cons, List.any_cons, a, b, h x List.mem_cons_self]
    exact ⟨rfl, rfl⟩
theorem cr_all (hK : C.G.K = X.K) (hc : X.calm = true) : CallR X (.builtin "all") (rP C pAll) := by
  intro pins s σ H xs us Q I rv h
  obtain ⟨μ, ρ, h, σ', ds, d, sr, rs, e, q⟩ := h
  unfold pAll at e
  split at e
  case h_2 => cases e
  split at e
  case h_2 => cases e
  split at e
  case isFalse => cases e
  rename_i x b ps e1 ok
  cases e
  obtain ⟨v, rfl, rd⟩ := rs.one
  obtain ⟨a, vs, its, as, rfl, hp, hv, ra, ht⟩ := sr.readsS hK I rd e1
  obtain ⟨u, rfl, ru⟩ := vals1 rv
  cases ru
  obtain ⟨t1, t2, t3⟩ := trus_data ok
  have q' := q μ (.bl (ps.all tru)) H (Gr.refl _ _) sr (.p (.bl _))
  rw [← (all_congr' t1).1] at q'
  rcases ht with ⟨_, ht⟩ | ⟨_, ht⟩
  · exact W.all_tuple_data (I.ok.hd hc) ht ra t2 t3 fun h' tk hk => ⟨.bl _, H, I.kept hk, rfl, q'⟩
  · exact W.all_list_data (I.ok.hd hc) ht ra t2 t3 fun h' tk hk => ⟨.bl _, H, I.kept hk, rfl, q'⟩
theorem cr_any (hK : C.G.K = X.K) (hc : X.calm = true) : CallR X (.builtin "any") (rP C pAny) := by
  intro pins s σ H xs us Q I rv h
  obtain ⟨μ, ρ, h, σ', ds, d, sr, rs, e, q⟩ := h
  unfold pAny at e
  split at e
  case h_2 => cases e
  split at e
  case h_2 => cases e
  split at e
  case isFalse => cases e
  rename_i x b ps e1 ok
  cases e
  obtain ⟨v, rfl, rd⟩ := rs.one
  obtain ⟨a, vs, its, as, rfl, hp, hv, ra, ht⟩ := sr.readsS hK I rd e1
  obtain ⟨u, rfl, ru⟩ := vals1 rv
  cases ru
  obtain ⟨t1, t2, t3⟩ := trus_data ok
  have q' := q μ (.bl (ps.any tru)) H (Gr.refl _ _) sr (.p (.bl _))
  rw [← (all_congr' t1).2] at q'
  rcases ht with ⟨_, ht⟩ | ⟨_, ht⟩
  · exact W.any_tuple_data (I.ok.hd hc) ht ra t2 t3 fun h' tk hk => ⟨.bl _, H, I.kept hk, rfl, q'⟩
  · exact W.any_list_data (I.ok.hd hc) ht ra t2 t3 fun h' tk hk => ⟨.bl _, H, I.kept hk, rfl, q'⟩
/-- the item that the library found is one of ours -/
theorem item_of {K : PySem.W.Frag} {H : Hp} {pins : List (Addr × Obj)} {σ : L2.St} {s : Shared} (I : Inv X pins σ H s) (hK : K = X.K) {h' : Heap} {v : Value} {p : PyData} {bs : List Addr} (r : Reads h' v p bs) (hk : ∀ b o, s.heap.get? b = some o → h'.get? b = some o) :
    ∀ {ps : List PyData} {vs : List V} {its : List Value} {i : Nat}, Pds K H ps vs → Vals vs its → PyData.plainAll ps = true → its[i]? = some v → ∃ w, RelV w v ∧ Pd K H p w
  | _, _, _, _, .nil, hv, _, e => by cases hv; simp at e
  | _, _, _, i, .cons (v := w) (d := d) a b, hv, pl, e => by
    cases hv with
    | @cons _ u _ us c cs =>
      simp only [PyData.plainAll, Bool.and_eq_true] at pl
      cases i with
      | zero =>
        simp at e
        subst e
        obtain ⟨as, r0⟩ := Dp.reads I d w u (hK ▸ a.dp) c
        have := SeqAt.plain_unique d p u _ _ pl.1 (PyProof.Rows.Reads.keeps hk r0) r
        subst this
        exact ⟨w, c, a⟩
      | succ i => exact item_of I hK r hk b cs pl.2 (by simpa using e)
theorem cr_min (hK : C.G.K = X.K) (hc : X.calm = true) (hu : X.A.units + 200 < cLine) : CallR X (.builtin "min") (rP C pMin) := by
  intro pins s σ H xs us Q I rv h
  obtain ⟨μ, ρ, h, σ', ds, d, sr, rs, e, q⟩ := h
  unfold pMin at e
  split at e
  case h_2 => cases e
  split at e
  case h_2 => cases e
  split at e
  case isFalse => cases e
  rename_i d0 b x ps e1 ok
  cases e
  rw [Bool.and_eq_true] at ok
  obtain ⟨al, nn⟩ := alikes_ok ok.1
  obtain ⟨pl, dp⟩ := flats_ok ok.2
  obtain ⟨v, rfl, rd⟩ := rs.one
  obtain ⟨a, vs, its, as, rfl, hp, hv, ra, ht⟩ := sr.readsS hK I rd e1
  obtain ⟨u, rfl, ru⟩ := vals1 rv
  cases ru
  have fin : ∀ (i : Nat) (v : Value) (h' : Heap) (tk : Nat) (bs : List Addr), its.toArray[i]? = some v → Reads h' v (W.minD x ps) bs → (∀ b o, s.heap.get? b = some o → h'.get? b = some o) → EP X pins σ Q v { s with heap := h', toks := tk } := fun i v h' tk bs e2 r hk => by
    obtain ⟨w, rw', pd⟩ := item_of I rfl r hk hp hv pl (by simpa using e2)
    exact ⟨w, H, I.kept hk, rw', q μ w H (Gr.refl _ _) sr (.p (hK ▸ pd))⟩
  rcases ht with ⟨_, ht⟩ | ⟨_, ht⟩
  · exact W.min_tuple_data (I.ok.hd hc) ht ra ⟨al, nn⟩ (by omega) fin
  · exact W.min_list_data (I.ok.hd hc) ht ra ⟨al, nn⟩ (by omega) fin
theorem cr_max (hK : C.G.K = X.K) (hc : X.calm = true) (hu : X.A.units + 200 < cLine) : CallR X (.builtin "max") (rP C pMax) := by
  intro pins s σ H xs us Q I rv h
  obtain ⟨μ, ρ, h, σ', ds, d, sr, rs, e, q⟩ := h
  unfold pMax at e
  split at e
  case h_2 => cases e
  split at e
  case h_2 => cases e
  split at e
  case isFalse => cases e
  rename_i d0 b x ps e1 ok
  cases e
  rw [Bool.and_eq_true] at ok
  obtain ⟨al, nn⟩ := alikes_ok ok.1
  obtain ⟨pl, dp⟩ := flats_ok ok.2
  obtain ⟨v, rfl, rd⟩ := rs.one
  obtain ⟨a, vs, its, as, rfl, hp, hv, ra, ht⟩ := sr.readsS hK I rd e1
  obtain ⟨u, rfl, ru⟩ := vals1 rv
  cases ru
  have fin : ∀ (i : Nat) (v : Value) (h' : Heap) (tk : Nat) (bs : List Addr), its.toArray[i]? = some v → Reads h' v (W.maxD x ps) bs → (∀ b o, s.heap.get? b = some o → h'.get? b = some o) → EP X pins σ Q v { s with heap := h', toks := tk } := fun i v h' tk bs e2 r hk => by
    obtain ⟨w, rw', pd⟩ := item_of I rfl r hk hp hv pl (by simpa using e2)
    exact ⟨w, H, I.kept hk, rw', q μ w H (Gr.refl _ _) sr (.p (hK ▸ pd))⟩
  rcases ht with ⟨_, ht⟩ | ⟨_, ht⟩
  · exact W.max_tuple_data (I.ok.hd hc) ht ra ⟨al, nn⟩ (by omega) fin
  · exact W.max_list_data (I.ok.hd hc) ht ra ⟨al, nn⟩ (by omega) fin
theorem twoI_ok {ds : List D} {i j : Int} (e : twoI ds = some (i, j)) : ds = [.p (.int i), .p (.int j)] := by
  unfold twoI at e
  split at e
  · cases e; rfl
  · cases e
theorem cr_min2 (hc : X.calm = true) : CallR X (.builtin "min") (rP C fun _ ds => pMin2 ds) := by
  refine CallR.w (call_min2 hc) fun xs H Q h => ?_
  obtain ⟨μ, ρ, h, σ', ds, d, sr, rs, e, q⟩ := h
  replace e : pMin2 ds = some d := e
  unfold pMin2 at e
  split at e
  case h_2 => cases e
  rename_i i j e1
  cases e
  rw [twoI_ok e1] at rs
  obtain ⟨v, w, rfl, r1, r2⟩ := rs.two
  obtain rfl := r1.int'
  obtain rfl := r2.int'
  exact ⟨i, j, rfl, q μ _ H (Gr.refl _ _) sr (.p (.int _))⟩
theorem cr_max2 (hc : X.calm = true) : CallR X (.builtin "max") (rP C fun _ ds => pMax2 ds) := by
  refine CallR.w (call_max2 hc) fun xs H Q h => ?_
  obtain ⟨μ, ρ, h, σ', ds, d, sr, rs, e, q⟩ := h
  replace e : pMax2 ds = some d := e
  unfold pMax2 at e
  split at e
  case h_2 => cases e
  rename_i i j e1
  cases e
  rw [twoI_ok e1] at rs
  obtain ⟨v, w, rfl, r1, r2⟩ := rs.two
  obtain rfl := r1.int'
  obtain rfl := r2.int'
  exact ⟨i, j, rfl, q μ _ H (Gr.refl _ _) sr (.p (.int _))⟩
theorem cr_abs : CallR X (.builtin "abs") (rP C fun _ ds => pAbs ds) := by
  refine CallR.w call_abs fun xs H Q h => ?_
  obtain ⟨μ, ρ, h, σ', ds, d, sr, rs, e, q⟩ := h
  replace e : pAbs ds = some d := e
  unfold pAbs at e
  split at e
  case h_2 => cases e
  cases e
  obtain ⟨v, rfl, r1⟩ := rs.one
  obtain rfl := r1.int'
  exact ⟨_, rfl, q μ _ H (Gr.refl _ _) sr (.p (.int _))⟩
theorem cr_int : CallR X (.type "int") (rP C fun _ ds => pInt ds) := by
  refine CallR.w call_int1 fun xs H Q h => ?_
  obtain ⟨μ, ρ, h, σ', ds, d, sr, rs, e, q⟩ := h
  replace e : pInt ds = some d := e
  unfold pInt at e
  split at e
  case h_3 => cases e
  · cases e
    obtain ⟨v, rfl, r1⟩ := rs.one
    obtain rfl := r1.int'
    exact .inl ⟨_, rfl, q μ _ H (Gr.refl _ _) sr (.p (.int _))⟩
  · cases e
    obtain ⟨v, rfl, r1⟩ := rs.one
    obtain rfl := r1.bool'
    exact .inr ⟨_, rfl, q μ _ H (Gr.refl _ _) sr (.p (.int _))⟩
theorem cr_tup (hK : C.G.K = X.K) : CallR X (.type "tuple") (rP C pTup) := by
  refine CallR.w call_tuple_of fun xs H Q h => ?_
  obtain ⟨μ, ρ, h, σ', ds, d, sr, rs, e, q⟩ := h
  unfold pTup at e
  split at e
  case h_2 => cases e
  split at e
  · rename_i ys e1
    cases e
    obtain ⟨v, rfl, r1⟩ := rs.one
    obtain ⟨a, vs, rfl, ht, rv⟩ := r1.seqT e1
    exact ⟨a, vs, rfl, .inr ⟨hK ▸ ht, q μ _ H (Gr.refl _ _) sr r1⟩⟩
  · split at e
    · rename_i ys e1
      cases e
      obtain ⟨v, rfl, r1⟩ := rs.one
      obtain ⟨a, vs, rfl, ht, rv⟩ := sr.seqL r1 e1
      refine ⟨a, vs, rfl, .inl ⟨.inl ht, fun l n => ?_⟩⟩
      have g : Gr ρ.cl μ H μ (upd H l (.tup vs)) := Gr.laid n
      exact q μ _ _ g (sr.laid n) (RD.mkTup upd_same (rv.mono g.kp))
    · cases e
theorem cr_repr (hK : C.G.K = X.K) (hu : X.A.units + 200 < cLine) (hgd : X.A.guards = some []) : CallR X (.builtin "repr") (rP C pRepr) := by
  intro pins s σ H xs us Q I rv h
  obtain ⟨μ, ρ, h, σ', ds, d, sr, rs, e, q⟩ := h
  unfold pRepr at e
  split at e
  case h_2 => cases e
  split at e
  case h_2 => cases e
  split at e
  case isFalse => cases e
  rename_i x p e1 ok
  cases e
  unfold reprOk at ok
  rw [Bool.and_eq_true, Bool.and_eq_true] at ok
  obtain ⟨⟨o1, o2⟩, o3⟩ := ok
  obtain ⟨l1, l2, l3⟩ := shown_le p o2 o1
  obtain ⟨_, dp⟩ := flat_ok o1
  have hz : p.shown.length ≤ sizeLine := Nat.le_trans (Nat.le_trans l1 (of_decide_eq_true o3)) LINE_le
  obtain ⟨v, rfl, rd⟩ := rs.one
  have hd := sr.plainOf rd e1
  obtain ⟨u, rfl, ru⟩ := vals1 rv
  obtain ⟨as, r0⟩ := Dp.reads I p v u (hK ▸ hd) ru
  have q' := q μ (.str p.shown) H (Gr.refl _ _) sr (.p (.str _))
  have fin : ∀ h' u tk, (∀ b o, s.heap.get? b = some o → h'.get? b = some o) → EP X pins σ Q (.str p.shown u) { s with heap := h', toks := tk } := fun h' u tk hk => ⟨.str _, H, I.kept hk, ⟨_, rfl⟩, q'⟩
  cases p with
  | none => cases r0; exact PySem.P.repr_of_none (fin s.heap _ _ fun _ _ z => z)
  | bool b => cases r0; exact PySem.P.repr_of_bool (fin s.heap _ _ fun _ _ z => z)
  | int i =>
    cases r0
    exact PySem.P.repr_of_int (by simpa [PyData.showable] using l2) (fin s.heap _ _ fun _ _ z => z)
  | str x => cases r0; exact PySem.P.repr_of_str (fin s.heap _ _ fun _ _ z => z) hz
  | list ps =>
    cases r0 with
    | list h1 h2 h3 h4 => exact repr_of_reads' (.list h1 h2 h3 h4) l2 (PyData.noDict_hsm l3) hgd (by omega) (fun _ _ z => z) fin hz
  | tuple ps =>
    cases r0 with
    | tuple h1 h2 h3 h4 => exact repr_of_reads' (.tuple h1 h2 h3 h4) l2 (PyData.noDict_hsm l3) hgd (by omega) (fun _ _ z => z) fin hz
  | dict _ => cases o2
end
end Y

/-! Y11: methods, isinstance, dict displays. -/
namespace Y
open PySem PySem.Spec PyProof.Rows L2
section
variable {X : Cx} {C : Cfg}
/-! ### methods -/
def rM (C : Cfg) (f : Hh → D → List D → Res D) : V → List V → Hp → VK → Prop := fun x xs H Q => ∃ μ ρ h σ a ds, Sr C.G C.oc μ ρ h σ H ∧ RD C.G μ H a x ∧ RDs C.G μ H ds xs ∧ Aft C (RV C) μ ρ σ H (f h a ds) Q
theorem mkOk_ty {oc : List (Nat × Addr)} {μ : List Addr} {r : Rho} {h : Hh} {σ : L2.St} {H : Hp} {G : Gd} (s : Sr G oc μ r h σ H) {m : Mt} {d : D} {v : V} (e : mkOk m h d = true) (rd : RD G μ H d v) :
    ∃ a, v = .ref a ∧ (((∃ xs, H a = some (.lst xs)) ∧ (m = .append ∨ m = .pop ∨ m = .popat)) ∨ (((∃ kvs, H a = some (.dK kvs)) ∨ ∃ kvs, H a = some (.dT kvs)) ∧ (m = .get1 ∨ m = .get2))) := by
  unfold mkOk at e
  split at e
  case h_2 => cases e
  rename_i l
  rw [nth_eq] at e
  have key : ∀ {ob : Ob}, h[l]? = some ob → (∀ c, ob ≠ .cell c) → ∃ a u, v = .ref a ∧ H a = some u ∧ HR G μ H ob u := fun {ob} e nc => by
    cases rd with
    | ref q =>
      have nl : l ∉ r.cl := fun m => by
        obtain ⟨d, e'⟩ := s.mem_own m
        rw [e] at e'; cases e'; exact nc _ rfl
      obtain ⟨u, a1, a2⟩ := s.ob l _ _ e q nl
      exact ⟨_, u, rfl, a1, a2⟩
  split at e
  · rename_i q
    obtain ⟨a, u, rfl, hu, rel⟩ := key q (fun c z => by cases z)
    cases u <;> first | exact rel.elim | skip
    refine ⟨a, rfl, .inl ⟨⟨_, hu⟩, ?_⟩⟩
    split at e <;> first | exact .inl rfl | exact .inr (.inl rfl) | exact .inr (.inr rfl) | cases e
  · rename_i q
    obtain ⟨a, u, rfl, hu, rel⟩ := key q (fun c z => by cases z)
    cases u <;> first | exact rel.elim | skip
    refine ⟨a, rfl, .inr ⟨.inl ⟨_, hu⟩, ?_⟩⟩
    split at e <;> first | exact .inl rfl | exact .inr rfl | cases e
  · rename_i q
    obtain ⟨a, u, rfl, hu, rel⟩ := key q (fun c z => by cases z)
    cases u <;> first | exact rel.elim | skip
    refine ⟨a, rfl, .inr ⟨.inr ⟨_, hu⟩, ?_⟩⟩
    split at e <;> first | exact .inl rfl | exact .inr rfl | cases e
  · cases e
/-- a method's call -/
theorem two_m {m : Mt} {ma : SE} {mes : SL} {σ : L2.St} {H : Hp} {Q : VK} (h : tE C (kMt m ma mes) σ H Q) : tE C ma σ H fun x H1 => (∃ a, x = .ref a ∧ (((∃ xs, H1 a = some (.lst xs)) ∧ (m = .append ∨ m = .pop ∨ m = .popat)) ∨ (((∃ kvs, H1 a = some (.dK kvs)) ∨ ∃ kvs, H1 a = some (.dT kvs)) ∧ (m = .get1 ∨ m = .get2)))) ∧
    tA C mes σ H1 fun ys H2 => rM C (mtV m) x ys H2 Q := by
  obtain ⟨μ, r, h, s, a⟩ := h
  refine ⟨μ, r, h, s, (Aft.bind (R := RV C) a).imp fun x H1 z => ?_⟩
  obtain ⟨μ1, d, h1, g1, s1, rd1, a1⟩ := z
  split at a1
  · rename_i ok
    refine ⟨mkOk_ty s1 ok rd1, μ1, r, h1, s1, (Aft.bind (R := RVs C) a1).imp fun ys H2 z => ?_⟩
    obtain ⟨μ2, ds, h2, g2, s2, rs, a2⟩ := z
    exact ⟨μ2, r, h2, σ, d, ds, s2, rd1.mono g2.kp, rs, a2⟩
  · exact a1.elim
theorem notImm_lst {H : Hp} {a : Addr} {xs : List V} (e : H a = some (.lst xs)) : ∀ o, H a = some o → ¬ Stay o := fun o e' => by rw [e] at e'; cases e'; exact fun z => z
/-- a list of the evaluator's heap is written -/
theorem Sr.wl {oc : List (Nat × Addr)} {μ : List Addr} {r : Rho} {h : Hh} {σ : L2.St} {H : Hp} {G : Gd} (s : Sr G oc μ r h σ H) {l : Nat} {a : Addr} {xs ys : List V} {ds : List D} (e : μ[l]? = some a) (nl : l ∉ r.cl) (eh : H a = some (.lst xs)) (rs : RDs G μ H ds ys) :
    Gr r.cl μ H μ (upd H a (.lst ys)) ∧ Sr G oc μ r (h.set l (.lst ds)) σ (upd H a (.lst ys)) ∧ Kp μ H μ (upd H a (.lst ys)) :=
  have i := notImm_lst eh
  have k : Kp μ H μ (upd H a (.lst ys)) := Kp.write i
  ⟨Gr.write ⟨l, nl, e⟩ i, s.write e nl i (show HR G μ _ (.lst ds) (.lst ys) from rs.mono k), k⟩
theorem mt_appendY : MtR X "list.append" (rM C (mtV .append)) := by
  intro pins s σ H x xs v us Q I rx rxs h
  obtain ⟨μ, ρ, h, σ', a, ds, sr, ra, rs, af⟩ := h
  replace af : Aft C (RV C) μ ρ σ' H (mAppend h a ds) Q := af
  unfold mAppend at af
  split at af
  case h_2 => exact af.elim
  rename_i l
  rw [nth_eq] at af
  split at af
  case h_2 => exact af.elim
  rename_i zs e1
  split at af
  case h_2 => exact af.elim
  rename_i d
  split at af
  case isFalse => exact af.elim
  rename_i hl
  obtain ⟨p, vs, rfl, e2, nl, e3, rv⟩ := sr.lst e1 ra
  obtain ⟨y, rfl, rd⟩ := rs.one
  have hl := Nat.ble_eq.mp hl
  have hl2 := rv.length
  have := LINE_le
  obtain ⟨g, s2, k⟩ := sr.wl e2 nl e3 (rv.append (.cons rd .nil))
  exact mt_append pins s σ H _ _ v us Q I rx rxs ⟨p, vs, y, rfl, rfl, e3, by omega, af μ .non _ g s2 (.p .non)⟩
theorem mt_popY : MtR X "list.pop" (rM C (mtV .pop)) := by
  intro pins s σ H x xs v us Q I rx rxs h
  obtain ⟨μ, ρ, h, σ', a, ds, sr, ra, rs, af⟩ := h
  replace af : Aft C (RV C) μ ρ σ' H (mPop h a ds) Q := af
  unfold mPop at af
  split at af
  case h_2 => exact af.elim
  rename_i l
  rw [nth_eq] at af
  split at af
  case h_2 => exact af.elim
  rename_i zs e1
  split at af
  case h_2 => exact af.elim
  rw [nth_eq] at af
  split at af
  case h_2 => exact af.elim
  rename_i y ey
  obtain ⟨p, vs, rfl, e2, nl, e3, rv⟩ := sr.lst e1 ra
  cases rs
  obtain ⟨w, ew, rd⟩ := rv.get ey
  rw [rv.length] at ew
  obtain ⟨g, s2, k⟩ := sr.wl e2 nl e3 rv.dropLast
  exact mt_pop pins s σ H _ _ v us Q I rx rxs ⟨p, vs, w, rfl, rfl, e3, ew, af μ w _ g s2 (RD.mono k rd)⟩
theorem mt_popatY : MtR X "list.pop" (rM C (mtV .popat)) := by
  intro pins s σ H x xs v us Q I rx rxs h
  obtain ⟨μ, ρ, h, σ', a, ds, sr, ra, rs, af⟩ := h
  replace af : Aft C (RV C) μ ρ σ' H (mPopat h a ds) Q := af
  unfold mPopat at af
  split at af
  case h_2 => exact af.elim
  rename_i l
  rw [nth_eq] at af
  split at af
  case h_2 => exact af.elim
  rename_i zs e1
  split at af
  case h_2 => exact af.elim
  rename_i i
  split at af
  case h_2 => exact af.elim
  rename_i k ek
  rw [nth_eq] at af
  split at af
  case h_2 => exact af.elim
  rename_i y ey
  obtain ⟨p, vs, rfl, e2, nl, e3, rv⟩ := sr.lst e1 ra
  obtain ⟨u, rfl, rd⟩ := rs.one
  obtain rfl := rd.int'
  obtain ⟨w, ew, rd2⟩ := rv.get ey
  rw [rv.length] at ek
  obtain ⟨h1, h2, h3, h4⟩ := ixN_seq (show L2.ixN vs.length i = some k from ek)
  obtain ⟨_, _, hz⟩ := I.list (.inl (.inl e3))
  have hl := line63
  obtain ⟨g, s2, kk⟩ := sr.wl e2 nl e3 (rv.eraseIdx k)
  exact mt_popAt pins s σ H _ _ v us Q I rx rxs ⟨p, vs, i, k, w, rfl, rfl, e3, by omega, by omega, h1, ew, af μ w _ g s2 (RD.mono kk rd2)⟩
section
variable {o e f : Expr} {es : List Expr} {ma me mf : SE} {mes : SL} {apos cpos : Pos}
theorem y_append (ho : PE X o (tE C ma)) (ha : PA X [e] (tA C mes)) (hbase : attributeBase o "append" X.env (eval o X.env) = eval o X.env)
    (hfew : ((backTo cpos (starEach [e] X.env)).all (fun x => !x.1) && (backToKw cpos (keywordEach [] X.env)).all (fun x => x.1.isSome)
      && decide (([e] : List Expr).length + ([] : List Keyword).length + (if ([] : List Keyword).isEmpty then 0 else 1) < 30)) = true)
    (hline : (apos.endLine == cpos.line) = true) (hs : starEach [e] X.env = (false, eval e X.env) :: starEach [] X.env) (hplain : (backTo cpos (starEach [] X.env)).any (·.1) = false) :
    PE X (.Call (.Attribute o "append" apos) [e] [] cpos) (tE C (kMt .append ma mes)) :=
  PE.w (pe_bm PySem.F.plainAttrs_list PySem.F.slot_list_append PySem.F.type_list_append mt_appendY ho ha hbase hfew hline hs hplain) fun σ H Q h => by
    obtain ⟨μ, r, h, s, a⟩ := two_m h
    refine ⟨μ, r, h, s, a.imp fun x H1 z => ⟨?_, z.2⟩⟩
    obtain ⟨⟨a, rfl, z⟩, _⟩ := z
    rcases z with ⟨⟨xs, e⟩, _⟩ | ⟨_, z⟩
    · exact .inl ⟨rfl, xs, .inl (.inl e)⟩
    · rcases z with z | z <;> cases z
theorem y_popat (ho : PE X o (tE C ma)) (ha : PA X [e] (tA C mes)) (hbase : attributeBase o "pop" X.env (eval o X.env) = eval o X.env)
    (hfew : ((backTo cpos (starEach [e] X.env)).all (fun x => !x.1) && (backToKw cpos (keywordEach [] X.env)).all (fun x => x.1.isSome)
      && decide (([e] : List Expr).length + ([] : List Keyword).length + (if ([] : List Keyword).isEmpty then 0 else 1) < 30)) = true)
    (hline : (apos.endLine == cpos.line) = true) (hs : starEach [e] X.env = (false, eval e X.env) :: starEach [] X.env) (hplain : (backTo cpos (starEach [] X.env)).any (·.1) = false) :
    PE X (.Call (.Attribute o "pop" apos) [e] [] cpos) (tE C (kMt .popat ma mes)) :=
  PE.w (pe_bm PySem.F.plainAttrs_list PySem.F.slot_list_pop PySem.F.type_list_pop mt_popatY ho ha hbase hfew hline hs hplain) fun σ H Q h => by
    obtain ⟨μ, r, h, s, a⟩ := two_m h
    refine ⟨μ, r, h, s, a.imp fun x H1 z => ⟨?_, z.2⟩⟩
    obtain ⟨⟨a, rfl, z⟩, _⟩ := z
    rcases z with ⟨⟨xs, e⟩, _⟩ | ⟨_, z⟩
    · exact .inl ⟨rfl, xs, .inl (.inl e)⟩
    · rcases z with z | z <;> cases z
theorem y_pop (ho : PE X o (tE C ma)) (hbase : attributeBase o "pop" X.env (eval o X.env) = eval o X.env) (hline : (apos.endLine == cpos.line) = true) :
    PE X (.Call (.Attribute o "pop" apos) [] [] cpos) (tE C (kMt .pop ma aNil)) :=
  PE.w (pe_bm0 PySem.F.plainAttrs_list PySem.F.slot_list_pop PySem.F.type_list_pop mt_popY ho hbase hline) fun σ H Q h => by
    obtain ⟨μ, r, h, s, a⟩ := two_m h
    refine ⟨μ, r, h, s, a.imp fun x H1 z => ?_⟩
    obtain ⟨⟨a, rfl, z⟩, μ2, r2, h2, s2, a2⟩ := z
    refine ⟨?_, a2 μ2 [] H1 (Gr.refl _ _) s2 .nil⟩
    rcases z with ⟨⟨xs, e⟩, _⟩ | ⟨_, z⟩
    · exact .inl ⟨rfl, xs, .inl (.inl e)⟩
    · rcases z with z | z <;> cases z
theorem y_get1 (hu : X.A.units + 200 < cLine) (ho : PE X o (tE C ma)) (he : PE X e (tE C me)) (m : M1 X o "get" apos e cpos) : PE X (.Call (.Attribute o "get" apos) [e] [] cpos) (tE C (kMt .get1 ma (aCons me aNil))) :=
  PE.w (pe_dget1 (by omega) ho he m) fun σ H Q h => by
    obtain ⟨μ, r, h, s, a⟩ := two_m h
    refine ⟨μ, r, h, s, a.imp fun x H1 z => ?_⟩
    obtain ⟨⟨p, rfl, z⟩, μ2, r2, h2, s2, a2⟩ := z
    refine ⟨p, rfl, ?_, ?_⟩
    · rcases z with ⟨_, z⟩ | ⟨⟨kvs, e⟩ | ⟨kvs, e⟩, _⟩
      · rcases z with z | z | z <;> cases z
      · exact .inl ⟨kvs, .inl e⟩
      · exact .inr ⟨kvs, .inl e⟩
    have ea : aCons me aNil C.cs r2 h2 = (me C.cs r2 h2).bind fun x h1 => .ok [x] h1 := by
      simp only [aCons, aNil]
      cases me C.cs r2 h2 <;> rfl
    rw [ea] at a2
    refine ⟨μ2, r2, h2, s2, (Aft.bind (R := RV C) a2).imp fun y H2 z => ?_⟩
    obtain ⟨μ3, d3, h3, g3, s3, rd3, a3⟩ := z
    obtain ⟨μ4, ρ4, h4, σ4, a, ds, s4, ra, rs, af⟩ := a3.ok s3 (.cons rd3 .nil)
    obtain ⟨k, rfl⟩ : ∃ k, ds = [k] := by
      cases rs with
      | cons _ b => cases b; exact ⟨_, rfl⟩
    obtain ⟨w, ew, rk⟩ := rs.one
    cases ew
    replace af : Aft C (RV C) μ4 ρ4 σ4 H2 (opt (mGet h4 a [k]) h4) Q := af
    obtain ⟨d, e, f⟩ := Aft.opt (R := RV C) af
    simp only [mGet] at e
    split at e
    · rename_i d2 e2
      cases e
      obtain ⟨_, e3, _, o, g, g2⟩ := s4.dget ra rk e2
      cases e3
      rcases g2 with ⟨z, _⟩ | ⟨d', v', z, rfl, rd'⟩
      · cases z
      · cases z
        exact ⟨_, g, f μ4 v' H2 (Gr.refl _ _) s4 rd'⟩
    · rename_i e2
      cases e
      obtain ⟨_, e3, _, o, g, g2⟩ := s4.dget ra rk e2
      cases e3
      rcases g2 with ⟨_, rfl⟩ | ⟨d', v', z, _, _⟩
      · exact ⟨_, g, f μ4 .non H2 (Gr.refl _ _) s4 (.p .non)⟩
      · cases z
    · cases e
theorem y_get2 (hu : X.A.units + 200 < cLine) (ho : PE X o (tE C ma)) (he : PE X e (tE C me)) (hf : PE X f (tE C mf)) (m : M2 X o "get" apos e f cpos) : PE X (.Call (.Attribute o "get" apos) [e, f] [] cpos) (tE C (kMt .get2 ma (aCons me (aCons mf aNil)))) :=
  PE.w (pe_dget2 (by omega) ho he hf m) fun σ H Q h => by
    obtain ⟨μ, r, h, s, a⟩ := two_m h
    refine ⟨μ, r, h, s, a.imp fun x H1 z => ?_⟩
    obtain ⟨⟨p, rfl, z⟩, μ2, r2, h2, s2, a2⟩ := z
    refine ⟨p, rfl, ?_, ?_⟩
    · rcases z with ⟨_, z⟩ | ⟨⟨kvs, e⟩ | ⟨kvs, e⟩, _⟩
      · rcases z with z | z | z <;> cases z
      · exact .inl ⟨kvs, .inl e⟩
      · exact .inr ⟨kvs, .inl e⟩
    have ea : aCons me (aCons mf aNil) C.cs r2 h2 = (me C.cs r2 h2).bind fun x h1 => (mf C.cs r2 h1).bind fun y h2 => .ok [x, y] h2 := by
      simp only [aCons, aNil]
      cases me C.cs r2 h2 with
      | ok x h1 => simp only [Res.bind]; cases mf C.cs r2 h1 <;> rfl
      | exn _ _ _ => rfl
      | bad => rfl
    rw [ea] at a2
    refine ⟨μ2, r2, h2, s2, (Aft.bind (R := RV C) a2).imp fun y H2 z => ?_⟩
    obtain ⟨μ3, d3, h3, g3, s3, rd3, a3⟩ := z
    refine ⟨μ3, r2, h3, s3, (Aft.bind (R := RV C) a3).imp fun y2 H3 z => ?_⟩
    obtain ⟨μ5, d5, h5, g5, s5, rd5, a5⟩ := z
    obtain ⟨μ4, ρ4, h4, σ4, a, ds, s4, ra, rs, af⟩ := a5.ok s5 (.cons (rd3.mono g5.kp) (.cons rd5 .nil))
    obtain ⟨k, k2, rfl⟩ : ∃ k k2, ds = [k, k2] := by
      cases rs with
      | cons _ b =>
        cases b with
        | cons _ b => cases b; exact ⟨_, _, rfl⟩
    obtain ⟨w, w2, ew, rk, rk2⟩ := rs.two
    cases ew
    replace af : Aft C (RV C) μ4 ρ4 σ4 H3 (opt (mGet h4 a [k, k2]) h4) Q := af
    obtain ⟨d, e, f⟩ := Aft.opt (R := RV C) af
    simp only [mGet] at e
    split at e
    · rename_i d2 e2
      cases e
      obtain ⟨_, e3, _, o, g, g2⟩ := s4.dget ra rk e2
      cases e3
      rcases g2 with ⟨z, _⟩ | ⟨d', v', z, rfl, rd'⟩
      · cases z
      · cases z
        exact ⟨_, g, f μ4 v' H3 (Gr.refl _ _) s4 rd'⟩
    · rename_i e2
      cases e
      obtain ⟨_, e3, _, o, g, g2⟩ := s4.dget ra rk e2
      cases e3
      rcases g2 with ⟨_, rfl⟩ | ⟨d', v', z, _, _⟩
      · exact ⟨_, g, f μ4 _ H3 (Gr.refl _ _) s4 rk2⟩
      · cases z
    · cases e
end
end
end Y

/-! Y12: isinstance of built-in classes, dict displays, constants. -/
namespace Y
open PySem PySem.Spec PyProof.Rows L2
section
variable {X : Cx} {C : Cfg} {pos : Pos}
/-! ### constants -/
def cstV : PyData → Option V
  | .none => some .non
  | .bool b => some (.bl b)
  | .int i => some (.int i)
  | .str x => some (.str x)
  | _ => none
theorem cstV_pd {K : PySem.W.Frag} {H : Hp} {d : PyData} {v : V} (e : cstV d = some v) : Pd K H d v := by
  cases d <;> simp only [cstV, Option.some.injEq] at e <;> first | (subst e; constructor) | cases e
theorem y_cst {e : Expr} {d : PyData} {v : V} (h : PE X e (tC v)) (ev : cstV d = some v) : PE X e (tE C (kC (.p d))) := y_c h fun H => cstV_pd ev
theorem y_glob {x : Str} {d : PyData} {v : V} {u : Value} (hg : Gl X x) (hm : X.mg x = some u) (r : RelV v u) (ev : cstV d = some v) (hd : (x == ("__debug__" : Str)) = false) : PE X (.Name x pos) (tE C (kC (.p d))) := y_cst (pe_glob hg hm r hd) ev

/-! ### isinstance -/
def tyNames : List String := ["NoneType", "bool", "int", "str", "list", "tuple", "dict"]
theorem kit_names : (tyNames.all fun n => tyNames.all fun m => decide (kitB n m = some (isT n m))) = true := by decide +kernel
theorem kit_bb {K : PySem.W.Frag} {n m : String} (hn : n ∈ tyNames) (hm : m ∈ tyNames) : PySem.W.kitOne K (.type n) (.type m) = some (isT n m) :=
  kit_ty (of_decide_eq_true (List.all_eq_true.mp (List.all_eq_true.mp kit_names n hn) m hm))
theorem kit_any {K : PySem.W.Frag} {n : String} (hn : n ∈ tyNames) : ∀ {ms : List String}, (∀ m ∈ ms, m ∈ tyNames) → PySem.W.kitAny K (.type n) (ms.map Value.type) = some (ms.any fun m => isT n m)
  | [], _ => rfl
  | m :: ms, h => by
    have h1 := kit_bb (K := K) hn (h m List.mem_cons_self)
    have h2 := kit_any (K := K) hn fun m' hm => h m' (List.mem_cons_of_mem _ hm)
    rw [List.map_cons, List.any_cons]
    cases q : isT n m with
    | true => exact kitAny_cons (b := true) (by rw [h1, q]) (fun z => by cases z) (fun _ => by rw [Bool.true_or])
    | false => exact kitAny_cons (b := false) (by rw [h1, q]) (fun _ => by rw [h2, Bool.false_or]) (fun z => by cases z)
theorem tyD_ok {oc : List (Nat × Addr)} {μ : List Addr} {r : Rho} {h : Hh} {σ : L2.St} {H : Hp} {G : Gd} (s : Sr G oc μ r h σ H) {d : D} {v : V} {n : String} (e : tyD h d = some n) (rd : RD G μ H d v) : TyX G.K H v (.type n) ∧ n ∈ tyNames := by
  unfold tyD at e
  split at e
  · cases e; obtain rfl := rd.none'; exact ⟨.base .non, by decide⟩
  · cases e; obtain rfl := rd.bool'; exact ⟨.base (.bl _), by decide⟩
  · cases e; obtain rfl := rd.int'; exact ⟨.base (.int _), by decide⟩
  · cases e; obtain rfl := rd.str'; exact ⟨.base (.str _), by decide⟩
  · cases e
    cases rd with
    | p q => cases q with
      | lst w _ => exact ⟨.base (.frz w), by decide⟩
  · cases e
    cases rd with
    | p q => cases q with
      | tup w _ => exact ⟨.base (.tup w), by decide⟩
  · cases e
    cases rd with
    | tup w _ =>
      rcases w with (w | ⟨o, w⟩) | ⟨o, its, n, hk, hc, _⟩
      · exact ⟨.base (.tup w), by decide⟩
      · exact ⟨.fTuple w, by decide⟩
      · exact ⟨.kTuple hk hc, by decide⟩
  · cases e
    cases rd with
    | lst w _ => exact ⟨.base (.frz w), by decide⟩
  · rw [nth_eq] at e
    split at e
    · rename_i q
      cases e
      obtain ⟨a, vs, rfl, _, _, e2, _⟩ := s.lst q rd
      exact ⟨.base (.lst e2), by decide⟩
    · cases e
  · cases e
theorem isi_mid {ma : SE} {ts : List String} {σ : L2.St} {H : Hp} {Q : VK} (h : tE C (kIsi ma ts) σ H Q) : tE C ma σ H fun x H1 => ∃ n, TyX C.G.K H1 x (.type n) ∧ n ∈ tyNames ∧ ∃ μ ρ h, Sr C.G C.oc μ ρ h σ H1 ∧ ∀ μ' H', Gr ρ.cl μ H1 μ' H' → Sr C.G C.oc μ' ρ h σ H' → Q (.bl (ts.any fun m => isT n m)) H' := by
  obtain ⟨μ, r, h, s, a⟩ := h
  refine ⟨μ, r, h, s, (Aft.bind (R := RV C) a).imp fun x H1 z => ?_⟩
  obtain ⟨μ1, d, h1, g1, s1, rd1, a1⟩ := z
  unfold isiV at a1
  split at a1
  case h_2 => exact a1.elim
  rename_i n en
  obtain ⟨t1, t2⟩ := tyD_ok s1 en rd1
  exact ⟨n, t1, t2, μ1, r, h1, s1, fun μ' H' g s' => a1 μ' _ H' g s' (.p (.bl _))⟩
theorem y_isi1 (hK : C.G.K = X.K) {a : Expr} {T : Str} {m : String} {ma : SE} {p p2 : Pos} (hg : Gl X "isinstance") (hm : X.mg "isinstance" = none) (ha : PE X a (tE C ma)) (hgT : Gl X T) (hmT : X.mg T = none) (hb : bootBuiltins T = some (.type m)) (hn : T ≠ "__name__") (hd : (T == ("__debug__" : Str)) = false) (mm : m ∈ tyNames)
    (he : starEach [a, .Name T p2] X.env = (false, eval a X.env) :: starEach [.Name T p2] X.env) (he2 : starEach [.Name T p2] X.env = (false, eval (.Name T p2) X.env) :: starEach [] X.env) (hpl : (backTo pos (starEach [.Name T p2] X.env)).any (·.1) = false) :
    PE X (.Call (.Name "isinstance" p) [a, .Name T p2] [] pos) (tE C (kIsi ma [m])) := by
  have hT : PE X (.Name T p2) (tC (.ty m)) := pe_bltn hgT hmT hb rfl hn hd
  refine PE.w (pe_callB call_isi hg hm (by decide +kernel) (pa_cons ha (pa_cons hT pa_nil he2) he) (he := he) (hpl := hpl)) fun σ H Q h => ?_
  obtain ⟨μ, r, h, s, a⟩ := isi_mid h
  refine ⟨μ, r, h, s, a.imp fun x H1 z => ?_⟩
  obtain ⟨n, t1, t2, μ1, ρ1, h1, s1, q⟩ := z
  refine ⟨x, .ty m, .type n, .type m, _, rfl, .ty m, hK ▸ t1, kit_bb t2 mm, ?_⟩
  have := q μ1 H1 (Gr.refl _ _) s1
  simpa using this
/-- names of built-in classes -/
structure PTys (X : Cx) (es : List Expr) (ms : List String) : Prop where
  pa : PA X es (fun σ H Q => Q (ms.map V.ty) H)
theorem pty_nil : PTys X [] [] := ⟨pa_nil⟩
theorem pty_cons {T : Str} {m : String} {p : Pos} {es : List Expr} {ms : List String} (hgT : Gl X T) (hmT : X.mg T = none) (hb : bootBuiltins T = some (.type m)) (hn : T ≠ "__name__") (hd : (T == ("__debug__" : Str)) = false) (h : PTys X es ms)
    (he : starEach (.Name T p :: es) X.env = (false, eval (.Name T p) X.env) :: starEach es X.env) : PTys X (.Name T p :: es) (m :: ms) :=
  ⟨PA.w (pa_cons (pe_bltn (v := .ty m) hgT hmT hb rfl hn hd) h.pa he) fun σ H Q q => q⟩
theorem cls_tys : ∀ ms : List String, Paired ClsV (ms.map V.ty) (ms.map Value.type)
  | [] => .nil
  | m :: ms => .cons (.ty m) (cls_tys ms)
theorem y_isiT (hK : C.G.K = X.K) {a : Expr} {es : List Expr} {ms : List String} {ma : SE} {k : Nat} {p p2 : Pos} (hg : Gl X "isinstance") (hm : X.mg "isinstance" = none) (ha : PE X a (tE C ma)) (hes : PTys X es ms) (hl : ms.length ≤ 10) (mm : ∀ m ∈ ms, m ∈ tyNames)
    (he : starEach [a, .Tuple es k p2] X.env = (false, eval a X.env) :: starEach [.Tuple es k p2] X.env) (he2 : starEach [.Tuple es k p2] X.env = (false, eval (.Tuple es k p2) X.env) :: starEach [] X.env) (hpl : (backTo pos (starEach [.Tuple es k p2] X.env)).any (·.1) = false) :
    PE X (.Call (.Name "isinstance" p) [a, .Tuple es k p2] [] pos) (tE C (kIsi ma ms)) := by
  refine PE.w (pe_callB call_isiT hg hm (by decide +kernel) (pa_cons ha (pa_cons (pe_tup hes.pa) pa_nil he2) he) (he := he) (hpl := hpl)) fun σ H Q h => ?_
  obtain ⟨μ, r, h, s, a⟩ := isi_mid h
  refine ⟨μ, r, h, s, a.imp fun x H1 z => ?_⟩
  obtain ⟨n, t1, t2, μ1, ρ1, h1, s1, q⟩ := z
  refine ⟨by rw [List.length_map, sizeLine_eq]; omega, fun tp ntp => ?_⟩
  have g : Gr ρ1.cl μ1 H1 μ1 (upd H1 tp (.tup (ms.map V.ty))) := Gr.laid ntp
  refine ⟨x, tp, ms.map V.ty, .type n, ms.map Value.type, _, rfl, upd_same, cls_tys ms, ?_, kit_any t2 mm, q μ1 _ g (s1.laid ntp)⟩
  rw [← hK]
  have keep : ∀ {b : Addr} {u : HO}, H1 b = some u → upd H1 tp (.tup (ms.map V.ty)) b = some u := fun {b u} e => keep_laid ntp b u e
  cases t1 with
  | base b =>
    cases b with
    | non => exact .base .non
    | bl y => exact .base (.bl y)
    | int i => exact .base (.int i)
    | str y => exact .base (.str y)
    | flt y => exact .base (.flt y)
    | lst ea => exact .base (.lst (keep ea))
    | frz ea => exact .base (.frz (keep ea))
    | tup ea => exact .base (.tup (keep ea))
    | dK ea => exact .base (.dK (keep ea))
    | dT ea => exact .base (.dT (keep ea))
  | byt b => exact .byt b
  | set e => exact .set (keep e)
  | kList e c => exact .kList e c
  | kTuple e c => exact .kTuple e c
  | kDict e c => exact .kDict e c
  | fTuple e => exact .fTuple (keep e)
  | fDict e => exact .fDict (keep e)

/-! ### dict displays -/
theorem put_none {κ : Type} [DecidableEq κ] {kvs : List (κ × V)} {k : κ} {v : V} (h : k ∉ kvs.map (·.1)) : L2.putK kvs k v = kvs ++ [(k, v)] := by
  refine putK_new v ?_
  induction kvs with
  | nil => rfl
  | cons p r ih =>
    simp only [List.map_cons, List.mem_cons, not_or] at h
    rw [valV_neg fun e => h.1 e.symm]
    exact ih h.2
theorem mergeK_nodup : ∀ (more kvs : List (Key × V)), ((kvs ++ more).map (·.1)).Nodup → mergeK kvs more = kvs ++ more
  | [], kvs, _ => by simp [mergeK]
  | p :: r, kvs, h => by
    have hp : p.1 ∉ kvs.map (·.1) := by
      rw [List.map_append, List.map_cons] at h
      have := (List.nodup_append.mp h).2.2
      exact fun z => this p.1 z p.1 List.mem_cons_self rfl
    show mergeK (L2.putK kvs p.1 p.2) r = _
    rw [put_none hp, mergeK_nodup r (kvs ++ [(p.1, p.2)]) (by simpa using h)]
    simp
theorem tPairs_imp : ∀ {trs : List (TE × TE)} {σ : L2.St} {H : Hp} {Q Q' : List (V × V) → Hp → Prop}, (∀ (p : TE × TE) σ H (q q' : VK), p ∈ trs → (∀ v H', q v H' → q' v H') → (p.1 σ H q → p.1 σ H q') ∧ (p.2 σ H q → p.2 σ H q')) → (∀ ps H', Q ps H' → Q' ps H') → tPairs trs σ H Q → tPairs trs σ H Q'
  | [], _, _, _, _, _, w, h => w _ _ h
  | (tk, tv) :: r, σ, H, Q, Q', m, w, h => by
    refine (m (tk, tv) σ H _ _ List.mem_cons_self fun x H1 h1 => ?_).1 h
    refine (m (tk, tv) σ H1 _ _ List.mem_cons_self fun y H2 h2 => ?_).2 h1
    exact tPairs_imp (fun p σ H q q' hp => m p σ H q q' (List.mem_cons_of_mem _ hp)) (fun ps H' z => w _ _ z) h2
/-- the pairs' readings -/
structure PDs (X : Cx) (C : Cfg) (pos : Pos) (keys : List (Option Expr)) (vals : List Expr) (ks : List Key) (mes : SL) : Prop where
  len : keys.length = vals.length ∧ keys.length = ks.length ∧ keys.all (·.isSome) = true
  pps : ∃ trs, PPs X pos keys vals trs ∧ (∀ (p : TE × TE) σ H (q q' : VK), p ∈ trs → (∀ v H', q v H' → q' v H') → (p.1 σ H q → p.1 σ H q') ∧ (p.2 σ H q → p.2 σ H q')) ∧ ∀ σ H Q, tA C mes σ H Q → tPairs trs σ H fun ps H' => ∃ vs, ps = (ks.zip vs).map (fun kv => (L2.kV kv.1, kv.2)) ∧ vs.length = ks.length ∧ Q vs H'
theorem pd_nil : PDs X C pos [] [] [] aNil := ⟨⟨rfl, rfl, rfl⟩, [], pps_nil, (fun p _ _ _ _ hp => nomatch hp), fun σ H Q h => by
  obtain ⟨μ, r, h, s, a⟩ := h
  exact ⟨[], rfl, rfl, a.ok s .nil⟩⟩
theorem pd_cons {k v : Expr} {key : Key} {ks : List (Option Expr)} {vs : List Expr} {kk : List Key} {mv : SE} {mes : SL} (hk : PE X k (tC (L2.kV key))) (hv : PE X v (tE C mv)) (h : PDs X C pos ks vs kk mes) : PDs X C pos (some k :: ks) (v :: vs) (key :: kk) (aCons mv mes) := by
  obtain ⟨⟨l1, l2, l3⟩, trs, p1, pm, p2⟩ := h
  refine ⟨⟨by rw [List.length_cons, List.length_cons, l1], by rw [List.length_cons, List.length_cons, l2], by rw [List.all_cons, l3]; rfl⟩, _, pps_cons hk hv p1, fun p σ H q q' hp w => ?_, fun σ H Q h => ?_⟩
  · rcases List.mem_cons.mp hp with e | e
    · subst e
      exact ⟨fun z => w _ _ z, fun ⟨μ, r, h, s, a⟩ => ⟨μ, r, h, s, a.imp w⟩⟩
    · exact pm p σ H q q' e w
  obtain ⟨μ, r, h, s, a⟩ := h
  refine ⟨μ, r, h, s, (Aft.bind (R := RV C) a).imp fun x H1 z => ?_⟩
  obtain ⟨μ1, d, h1, g1, s1, rd1, a1⟩ := z
  refine tPairs_imp pm (fun ps H3 z => ?_) (p2 σ H1 (fun ys H2 => Q (x :: ys) H2) ⟨μ1, r, h1, s1, (Aft.bind (R := RVs C) a1).imp fun ys H2 z => ?_⟩)
  · obtain ⟨ws, e1, e2, q⟩ := z
    exact ⟨x :: ws, by rw [e1]; rfl, by rw [List.length_cons, List.length_cons, e2], q⟩
  · obtain ⟨μ2, e, h2, g2, s2, rd2, a2⟩ := z
    exact a2.ok s2 (.cons (rd1.mono g2.kp) rd2)
theorem zip_rel {G : Gd} {μ : List Addr} {H : Hp} : ∀ {ks : List Key} {ds : List D} {vs : List V}, RDs G μ H ds vs → KR G μ H (ks.zip ds) (ks.zip vs)
  | [], _, _, _ => .nil
  | _ :: _, _, _, .nil => .nil
  | k :: ks, _, _, .cons a b => .cons ⟨rfl, a⟩ (zip_rel b)
theorem y_dk {keys : List (Option Expr)} {vals : List Expr} {ks : List Key} {mes : SL} (h : PDs X C pos keys vals ks mes) (h0 : keys ≠ []) (h15 : keys.length ≤ 15) (hn : ks.Nodup) : PE X (.Dict keys vals pos) (tE C (kDk ks mes)) := by
  obtain ⟨⟨l1, l2, l3⟩, trs, p1, pm, p2⟩ := h
  refine PE.w (pe_disp p1 l3 l1 h0 h15) fun σ H Q h => ?_
  obtain ⟨μ, r, h, s, a⟩ := h
  intro p np
  have s0 := s.laid (u := .dK []) np
  have na := s.notAt np
  refine tPairs_imp pm (fun ps H3 z => ?_) (p2 σ _ (fun ys H2 => ∃ μ1 ds h1, Gr r.cl μ (upd H p (.dK [])) μ1 H2 ∧ Sr C.G C.oc μ1 r h1 σ H2 ∧ RDs C.G μ1 H2 ds ys ∧ Aft C (RV C) μ r σ H (if Nat.beq ds.length ks.length then .ok (.ref h1.length) (h1 ++ [.dk (ks.zip ds)]) else .bad) Q) ⟨μ, r, h, s0, ?_⟩)
  · obtain ⟨vs, ep, el, μ1, ds, h1, g1, s1, rs, a1⟩ := z
    obtain ⟨e3, na3⟩ := g1.stays upd_same na
    refine ⟨e3, ks.zip vs, ep, ?_, ?_⟩
    · rw [List.length_zip]; omega
    · rw [mergeK_nodup _ _ (by rw [List.nil_append, List.map_fst_zip (by omega)]; exact hn), List.nil_append]
      split at a1
      · have nd : ∀ o, H3 p = some o → ¬ Stay o := fun o e => by rw [e3] at e; cases e; exact fun z => z
        have g2 : Gr r.cl μ H μ1 H3 := ⟨g1.pre, fun b hb => (g1.fresh b hb).imp id fun z => by
            by_cases hbp : b = p
            · rw [hbp]; exact np
            · rw [upd_ne hbp] at z; exact z, fun b o e z => g1.keep b o (keep_laid np b o e) z, fun b ps e => g1.tbl b ps (keep_laid np b _ e)⟩
        have s2 := s1.but (H' := upd H3 p (.dK (ks.zip vs))) (fun b o ne e => by rw [upd_ne ne]; exact e) nd fun l nl e => na3 ⟨l, nl, e⟩
        have kw : Kp μ1 H3 μ1 (upd H3 p (.dK (ks.zip vs))) := Kp.write nd
        have kp : Kp μ1 (upd H3 p (.dK (ks.zip vs))) (μ1 ++ [p]) (upd H3 p (.dK (ks.zip vs))) := ⟨⟨[p], rfl⟩, fun _ _ z _ => z⟩
        have s3 : Sr C.G C.oc (μ1 ++ [p]) r (h1 ++ [.dk (ks.zip ds)]) σ (upd H3 p (.dK (ks.zip vs))) := s2.adopt upd_same (fun l nl e => na3 ⟨l, nl, e⟩) (show KR C.G _ _ (ks.zip ds) (ks.zip vs) from zip_rel ((rs.mono kw).mono kp))
        obtain ⟨t, et⟩ := g1.pre
        have g3 : Gr r.cl μ H (μ1 ++ [p]) (upd H3 p (.dK (ks.zip vs))) := ⟨⟨t ++ [p], by rw [et, List.append_assoc]⟩, fun b hb => by
            rcases hb.push with z | z
            · exact g2.fresh b z
            · subst z; exact .inr np, (g2.upd_new np _).keep, (g2.upd_new np _).tbl⟩
        refine a1 _ _ _ g3 s3 (.ref ?_)
        rw [← s1.len, List.getElem?_append_right (Nat.le_refl _), Nat.sub_self]
        rfl
      · exact a1.elim
  · -- the arguments, from the new dict on
    have a2 := Aft.bind0 (R := RVs C) a
    cases q : mes C.cs r h with
    | bad => rw [q] at a2; exact a2
    | exn c fs h1 =>
      rw [q] at a2
      exact fun μ' cls dd H' g s' rx => a2 μ' cls dd H' ((Gr.laid np).trans g) s' rx
    | ok ds h1 =>
      unfold kDk at a
      rw [q] at a
      exact fun μ' ys H' g s' rs => ⟨μ', ds, h1, g, s', rs, a⟩
theorem y_dt0 : PE X (.Dict [] [] pos) (tE C kDt0) := by
  refine PE.w pe_dnewT fun σ H Q h => ?_
  obtain ⟨μ, r, h, s, a⟩ := h
  intro p np
  refine a (μ ++ [p]) (.ref p) _ (Gr.push np) (s.push np (show HR C.G _ _ (.dt []) (.dT []) from .nil)) (.ref ?_)
  rw [← s.len, List.getElem?_append_right (Nat.le_refl _), Nat.sub_self]
  rfl
theorem y_dk0 : PE X (.Dict [] [] pos) (tE C (kDk [] aNil)) := by
  refine PE.w pe_dnewK fun σ H Q h => ?_
  obtain ⟨μ, r, h, s, a⟩ := h
  intro p np
  refine a (μ ++ [p]) (.ref p) _ (Gr.push np) (s.push np (show HR C.G _ _ (.dk []) (.dK []) from .nil)) (.ref ?_)
  rw [← s.len, List.getElem?_append_right (Nat.le_refl _), Nat.sub_self]
  rfl
end
end Y

/-! Y13: statements. -/
namespace Y
open PySem PySem.Spec PyProof.Rows L2
/-- how a frame's cells stand behind a statement -/
def SR.keeps (r : Rho) : SR → Prop
  | .nx r' _ => r'.cl = r.cl
  | .bk r' _ => r'.cl = r.cl
  | .ct r' _ => r'.cl = r.cl
  | .exn _ _ r' _ => r'.cl = r.cl
  | _ => True
def Clk (m : SS) : Prop := ∀ cs r h, (m cs r h).keeps r
def AftS (C : Cfg) (D : Ends) (μ : List Addr) (r : Rho) (σ : L2.St) (H : Hp) (m : SR) : Prop :=
  match m with
  | .nx r' h' => ∀ μ' σ' H', Gr r.cl μ H μ' H' → Sr C.G C.oc μ' r' h' σ' H' → D.nx σ' H'
  | .rt d h' => ∀ μ' σ' H' r' v, r'.cl = r.cl → Gr r.cl μ H μ' H' → Sr C.G C.oc μ' r' h' σ' H' → RD C.G μ' H' d v → D.rt v H'
  | .bk r' h' => ∀ μ' σ' H', Gr r.cl μ H μ' H' → Sr C.G C.oc μ' r' h' σ' H' → D.bk σ' H'
  | .ct r' h' => ∀ μ' σ' H', Gr r.cl μ H μ' H' → Sr C.G C.oc μ' r' h' σ' H' → D.ct σ' H'
  | .exn c fs r' h' => ∀ μ' σ' H' cls dd, Gr r.cl μ H μ' H' → Sr C.G C.oc μ' r' h' σ' H' → RX C.G μ' H' c fs cls dd → C.W cls dd σ' H'
  | .bad => False
def tS (C : Cfg) (m : SS) : TS := fun D σ H => ∃ μ r h, Sr C.G C.oc μ r h σ H ∧ AftS C D μ r σ H (m C.cs r h)
section
variable {X : Cx} {C : Cfg} {pos : Pos}
theorem PS.w {e : Stmt} {t t' : TS} (h : PS X e t) (w : ∀ D σ H, t' D σ H → t D σ H) : PS X e t' := ⟨fun pins s σ H D I q => h.run pins s σ H D I (w D σ H q)⟩
theorem PSs.w {e : List Stmt} {t t' : TS} (h : PSs X e t) (w : ∀ D σ H, t' D σ H → t D σ H) : PSs X e t' := ⟨fun pins s σ H D I q => h.run pins s σ H D I (w D σ H q)⟩
theorem AftS.mono {D : Ends} {μ μ1 : List Addr} {r r1 : Rho} {σ σ1 : L2.St} {H H1 : Hp} {m : SR} (g : Gr r.cl μ H μ1 H1) (ec : r1.cl = r.cl) (h : AftS C D μ r σ H m) : AftS C D μ1 r1 σ1 H1 m := by
  cases m with
  | nx r' h' => exact fun μ' σ' H' g' s => h μ' σ' H' (g.trans (ec ▸ g')) s
  | rt d h' => exact fun μ' σ' H' r' v e g' s q => h μ' σ' H' r' v (e.trans ec) (g.trans (ec ▸ g')) s q
  | bk r' h' => exact fun μ' σ' H' g' s => h μ' σ' H' (g.trans (ec ▸ g')) s
  | ct r' h' => exact fun μ' σ' H' g' s => h μ' σ' H' (g.trans (ec ▸ g')) s
  | exn c fs r' h' => exact fun μ' σ' H' cls dd g' s q => h μ' σ' H' cls dd (g.trans (ec ▸ g')) s q
  | bad => exact h
/-- an expression ahead of the rest -/
theorem AftS.thn {α β : Type} {R : List Addr → Hp → α → β → Prop} {D : Ends} {μ : List Addr} {r : Rho} {σ : L2.St} {H : Hp} {m : Res α} {f : α → Hh → SR} (h : AftS C D μ r σ H (thenS m r f)) :
    Aft C R μ r σ H m fun b H1 => ∃ μ1 a h1, Gr r.cl μ H μ1 H1 ∧ Sr C.G C.oc μ1 r h1 σ H1 ∧ R μ1 H1 a b ∧ AftS C D μ1 r σ H1 (f a h1) := by
  cases m with
  | ok a h' => exact fun μ' b H' g s q => ⟨μ', a, h', g, s, q, AftS.mono g rfl h⟩
  | exn c fs h' => exact fun μ' cls dd H' g s rx => h μ' σ H' cls dd g s rx
  | bad => exact h
theorem AftS.thn0 {α β : Type} {R : List Addr → Hp → α → β → Prop} {D : Ends} {μ : List Addr} {r : Rho} {σ : L2.St} {H : Hp} {m : Res α} {f : α → Hh → SR} (h : AftS C D μ r σ H (thenS m r f)) :
    Aft C R μ r σ H m fun b H1 => ∃ μ1 a h1, Gr r.cl μ H μ1 H1 ∧ Sr C.G C.oc μ1 r h1 σ H1 ∧ R μ1 H1 a b ∧ AftS C D μ r σ H (f a h1) := by
  cases m with
  | ok a h' => exact fun μ' b H' g s q => ⟨μ', a, h', g, s, q, h⟩
  | exn c fs h' => exact fun μ' cls dd H' g s rx => h μ' σ H' cls dd g s rx
  | bad => exact h

/-! ### blocks -/
theorem y_snil : PSs X [] (tS C sSkip) := PSs.w pss_nil fun D σ H h => by
  obtain ⟨μ, r, h, s, a⟩ := h
  exact a μ σ H (Gr.refl _ _) s
theorem y_scons {st : Stmt} {rest : List Stmt} {ma mb : SS} (ck : Clk ma) (h1 : PS X st (tS C ma)) (h2 : PSs X rest (tS C mb)) : PSs X (st :: rest) (tS C (sSeq ma mb)) := by
  refine PSs.w (pss_cons h1 h2) fun D σ H h => ?_
  obtain ⟨μ, r, h, s, a⟩ := h
  refine ⟨μ, r, h, s, ?_⟩
  have hk := ck C.cs r h
  unfold sSeq at a
  cases q : ma C.cs r h with
  | nx r1 h1 =>
    rw [q] at a hk
    exact fun μ' σ' H' g s' => ⟨μ', r1, h1, s', AftS.mono g hk a⟩
  | rt d h1 => rw [q] at a; exact a
  | bk r1 h1 => rw [q] at a; exact a
  | ct r1 h1 => rw [q] at a; exact a
  | exn c fs r1 h1 => rw [q] at a; exact a
  | bad => rw [q] at a; exact a
/-- a ghost step ahead of the rest: the list of a slot is locked for good -/
theorem y_frz {sts : List Stmt} {i : Nat} {mb : SS} (no : i ∉ C.oc.map (·.1)) (h : PSs X sts (tS C mb)) : PSs X sts (tS C (sSeq (sFrz i) mb)) := by
  refine ⟨fun pins s σ H D I hh => ?_⟩
  obtain ⟨μ, r, hh, sr, a⟩ := hh
  unfold sSeq sFrz at a
  cases qf : frzV i r hh with
  | none => rw [qf] at a; exact a.elim
  | some z =>
  obtain ⟨r', h'⟩ := z
  rw [qf] at a
  replace a : AftS C D μ r σ H (mb C.cs r' h') := a
  unfold frzV at qf
  rw [nth_eq] at qf
  split at qf
  case h_2 =>
    cases qf
    exact h.run pins s σ _ D I ⟨μ, _, _, sr, a⟩
  case h_3 => cases qf
  rename_i l e1
  rw [nth_eq] at qf
  split at qf
  case h_2 => cases qf
  rename_i ds e2
  simp only [Option.some.injEq, Prod.mk.injEq] at qf
  obtain ⟨rfl, rfl⟩ := qf
  obtain ⟨v, e3, rd⟩ := sr.sl i _ e1 no
  obtain ⟨p, vs, rfl, e4, nl, e5, rs⟩ := sr.lst e2 rd
  obtain ⟨od, I2⟩ := I.lock e5 trivial
  have ni := notImm_lst e5
  have kp : Kp μ H μ (upd H p (.frz od (.lst vs))) := Kp.write ni
  have g : Gr r.cl μ H μ (upd H p (.frz od (.lst vs))) := Gr.write ⟨l, nl, e4⟩ ni
  have s2 : Sr C.G C.oc μ r (hh.set l .dead) σ (upd H p (.frz od (.lst vs))) := sr.write e4 nl ni (show HR C.G _ _ .dead (.frz od (.lst vs)) from True.intro)
  have hl : i < σ.length := (List.getElem?_eq_some_iff.mp e3).1
  have s3 : Sr C.G C.oc μ ⟨r.sl.set i (some (mkLst ds)), r.cl⟩ (hh.set l .dead) (σ.set i (some (.ref p))) (upd H p (.frz od (.lst vs))) := s2.store (RD.mkLst upd_same (rs.mono kp)) hl fun j a e => no (List.mem_map.mpr ⟨_, List.mem_of_getElem? e, rfl⟩)
  have es : σ.set i (some (.ref p)) = σ := by
    apply List.ext_getElem?
    intro j
    by_cases hj : i = j
    · subst hj; rw [List.getElem?_set_self hl, e3]
    · rw [List.getElem?_set_ne hj]
  rw [es] at s3
  exact h.run pins s σ _ D I2 ⟨μ, _, _, s3, AftS.mono (r := r) g rfl a⟩

/-! ### small statements -/
theorem y_pass : PS X (.Pass pos) (tS C sSkip) := PS.w ps_pass fun D σ H h => by
  obtain ⟨μ, r, h, s, a⟩ := h
  exact a μ σ H (Gr.refl _ _) s
theorem y_brk : PS X (.Break pos) (tS C sBrk) := PS.w ps_break fun D σ H h => by
  obtain ⟨μ, r, h, s, a⟩ := h
  exact a μ σ H (Gr.refl _ _) s
theorem y_cnt : PS X (.Continue pos) (tS C sCnt) := PS.w ps_continue fun D σ H h => by
  obtain ⟨μ, r, h, s, a⟩ := h
  exact a μ σ H (Gr.refl _ _) s
theorem y_ex {e : Expr} {m : SE} (he : PE X e (tE C m)) (hs : swapsWith e none pos.line X.env = pure false) : PS X (.Expr e pos) (tS C (sEx m)) := PS.w (ps_expr he hs) fun D σ H h => by
  obtain ⟨μ, r, h, s, a⟩ := h
  refine ⟨μ, r, h, s, (AftS.thn (R := RV C) a).imp fun x H1 z => ?_⟩
  obtain ⟨μ1, d, h1, g1, s1, rd1, a1⟩ := z
  exact a1 μ1 σ H1 (Gr.refl _ _) s1
theorem y_ret {e : Expr} {m : SE} (he : PE X e (tE C m)) : PS X (.Return (some e) pos) (tS C (sRet m)) := PS.w (ps_ret he) fun D σ H h => by
  obtain ⟨μ, r, h, s, a⟩ := h
  refine ⟨μ, r, h, s, (AftS.thn (R := RV C) a).imp fun x H1 z => ?_⟩
  obtain ⟨μ1, d, h1, g1, s1, rd1, a1⟩ := z
  exact a1 μ1 σ H1 r x rfl (Gr.refl _ _) s1 rd1
theorem y_retn : PS X (.Return none pos) (tS C sRetn) := PS.w ps_retN fun D σ H h => by
  obtain ⟨μ, r, h, s, a⟩ := h
  exact a μ σ H r .non rfl (Gr.refl _ _) s (.p .non)
theorem y_ite {c : Expr} {sa sb : List Stmt} {mc : SE} {ma mb : SS} (hc : PT X c (tT C (tst mc))) (ha : PSs X sa (tS C ma)) (hb : PSs X sb (tS C mb)) : PS X (.If c sa sb pos) (tS C (sIte mc ma mb)) := PS.w (ps_if hc ha hb) fun D σ H h => by
  obtain ⟨μ, r, h, s, a⟩ := h
  refine ⟨μ, r, h, s, (AftS.thn (R := RB) a).imp fun x H1 z => ?_⟩
  obtain ⟨μ1, d, h1, g1, s1, rfl, a1⟩ := z
  cases d with
  | true => rw [if_pos rfl]; exact ⟨μ1, r, h1, s1, a1⟩
  | false => rw [if_neg (by decide)]; exact ⟨μ1, r, h1, s1, a1⟩

/-! ### targets -/
theorem y_asg {tg e : Expr} {t : Tg} {m : SE} (he : PE X e (tE C m)) (hg : PG X tg (gY C t)) (hs : swapsWithSole [tg] e pos.line X.env = pure false) (hw : swappedStores [tg] e X.env = pure none)
    (h1 : (assignEach [tg] X.env).map (·.2) = [assign tg X.env]) : PS X (.Assign [tg] e pos) (tS C (sAsg t m)) := PS.w (ps_asg he hg hs hw h1) fun D σ H h => by
  obtain ⟨μ, r, h, s, a⟩ := h
  refine ⟨μ, r, h, s, (AftS.thn (R := RV C) a).imp fun x H1 z => ?_⟩
  obtain ⟨μ1, d, h1, g1, s1, rd1, a1⟩ := z
  unfold asgS at a1
  split at a1
  · rename_i r2 h2 e2
    exact ⟨μ1, r, h1, d, s1, rd1, r2, h2, e2, fun σ' s' l k => a1 μ1 σ' H1 (Gr.refl _ _) s'⟩
  · exact a1.elim
theorem seqT_mkTup {ds : List D} : seqT (mkTup ds) = some ds := by
  unfold mkTup
  cases q : allP ds with
  | none => rfl
  | some ps => rw [allP_some q]; rfl
/-- a, b = x, y -/
theorem y_par {i j : Nat} {x y : Str} {a b : Expr} {mes : SL} {px py pt : Pos} {kt k2 pt2} (hc : X.calm = true) (hN : X.N.Nodup) (hi : X.N[i]? = some x) (hj : X.N[j]? = some y) (hij : i ≠ j) (ni : i ∉ C.oc.map (·.1)) (nj : j ∉ C.oc.map (·.1))
    (hx : X.env.scope.names.lookup x = some .local) (hy : X.env.scope.names.lookup y = some .local) (ha : PA X [a, b] (tA C mes))
    (hw : swappedStores [.Tuple [.Name x px, .Name y py] kt pt] (.Tuple [a, b] k2 pt2) X.env = pure (some [x, y]))
    (hs : swapsWithSole [.Tuple [.Name x px, .Name y py] kt pt] (.Tuple [a, b] k2 pt2) pos.line X.env = pure false) :
    PS X (.Assign [.Tuple [.Name x px, .Name y py] kt pt] (.Tuple [a, b] k2 pt2) pos) (tS C (sAsg (.tup (.cons (.nm i) (.cons (.nm j) .nil))) (kTup mes))) := by
  refine ⟨fun pins s σ H D I h => (ps_par hc hN hi hj hij hx hy ha hw hs).run pins s σ H D I ?_⟩
  have li : i < σ.length := by rw [I.len]; exact (List.getElem?_eq_some_iff.mp hi).1
  have lj : j < σ.length := by rw [I.len]; exact (List.getElem?_eq_some_iff.mp hj).1
  obtain ⟨μ, r, h, s, a⟩ := h
  have a' : AftS C D μ r σ H (thenS (mes C.cs r h) r fun ds h1 => if Nat.ble ds.length LINE then asgS (.tup (.cons (.nm i) (.cons (.nm j) .nil))) (mkTup ds) r h1 else .bad) := by
    unfold sAsg kTup at a
    cases q : mes C.cs r h with
    | bad => rw [q] at a; exact a
    | exn c fs h1 => rw [q] at a; exact a
    | ok ds h1 =>
      rw [q] at a
      simp only [Res.bind, thenS] at a ⊢
      split
      · rename_i hl; rw [if_pos hl] at a; exact a
      · rename_i hl; rw [if_neg hl] at a; exact a
  refine ⟨μ, r, h, s, (AftS.thn (R := RVs C) a').imp fun xs H1 z => ?_⟩
  obtain ⟨μ1, ds, h1, g1, s1, rs, a1⟩ := z
  split at a1
  case isFalse => exact a1.elim
  unfold asgS at a1
  simp only [asgT, seqT_mkTup] at a1
  cases rs with
  | nil => simp [asgTs] at a1; exact a1.elim
  | cons rd rs =>
    cases rs with
    | nil => simp [asgTs, asgT] at a1; exact a1.elim
    | cons rd2 rs =>
      cases rs with
      | cons _ _ => simp [asgTs, asgT] at a1; exact a1.elim
      | nil =>
        simp only [asgTs, asgT] at a1
        have no : ∀ {k : Nat}, k ∉ C.oc.map (·.1) → ∀ (j' : Nat) (a : Addr), C.oc[j']? ≠ some (k, a) := fun {k} nk j' a e => nk (List.mem_map.mpr ⟨_, List.mem_of_getElem? e, rfl⟩)
        have s2 := s1.store rd li (no ni)
        have s3 := s2.store rd2 (by rw [List.length_set]; exact lj) (no nj)
        exact ⟨_, _, rfl, a1 μ1 _ H1 (Gr.refl _ _) s3⟩
theorem y_par3 {i j l : Nat} {x y z : Str} {a b c : Expr} {mes : SL} {px py pz pt : Pos} {kt k2 pt2} (hc : X.calm = true) (hN : X.N.Nodup) (hi : X.N[i]? = some x) (hj : X.N[j]? = some y) (hl : X.N[l]? = some z) (hij : i ≠ j) (hil : i ≠ l) (hjl : j ≠ l) (ni : i ∉ C.oc.map (·.1)) (nj : j ∉ C.oc.map (·.1)) (nl : l ∉ C.oc.map (·.1))
    (hx : X.env.scope.names.lookup x = some .local) (hy : X.env.scope.names.lookup y = some .local) (hz : X.env.scope.names.lookup z = some .local) (ha : PA X [a, b, c] (tA C mes))
    (hw : swappedStores [.Tuple [.Name x px, .Name y py, .Name z pz] kt pt] (.Tuple [a, b, c] k2 pt2) X.env = pure (some [x, y, z]))
    (hs : swapsWithSole [.Tuple [.Name x px, .Name y py, .Name z pz] kt pt] (.Tuple [a, b, c] k2 pt2) pos.line X.env = pure false) :
    PS X (.Assign [.Tuple [.Name x px, .Name y py, .Name z pz] kt pt] (.Tuple [a, b, c] k2 pt2) pos) (tS C (sAsg (.tup (.cons (.nm i) (.cons (.nm j) (.cons (.nm l) .nil)))) (kTup mes))) := by
  refine ⟨fun pins s σ H D I h => (ps_par3 hc hN hi hj hl hij hil hjl hx hy hz ha hw hs).run pins s σ H D I ?_⟩
  have li : i < σ.length := by rw [I.len]; exact (List.getElem?_eq_some_iff.mp hi).1
  have lj : j < σ.length := by rw [I.len]; exact (List.getElem?_eq_some_iff.mp hj).1
  have ll : l < σ.length := by rw [I.len]; exact (List.getElem?_eq_some_iff.mp hl).1
  obtain ⟨μ, r, h, s, a⟩ := h
  have a' : AftS C D μ r σ H (thenS (mes C.cs r h) r fun ds h1 => if Nat.ble ds.length LINE then asgS (.tup (.cons (.nm i) (.cons (.nm j) (.cons (.nm l) .nil)))) (mkTup ds) r h1 else .bad) := by
    unfold sAsg kTup at a
    cases q : mes C.cs r h with
    | bad => rw [q] at a; exact a
    | exn c fs h1 => rw [q] at a; exact a
    | ok ds h1 =>
      rw [q] at a
      simp only [Res.bind, thenS] at a ⊢
      split
      · rename_i hl; rw [if_pos hl] at a; exact a
      · rename_i hl; rw [if_neg hl] at a; exact a
  refine ⟨μ, r, h, s, (AftS.thn (R := RVs C) a').imp fun xs H1 z => ?_⟩
  obtain ⟨μ1, ds, h1, g1, s1, rs, a1⟩ := z
  split at a1
  case isFalse => exact a1.elim
  unfold asgS at a1
  simp only [asgT, seqT_mkTup] at a1
  cases rs with
  | nil => simp [asgTs] at a1; exact a1.elim
  | cons rd rs =>
    cases rs with
    | nil => simp [asgTs, asgT] at a1; exact a1.elim
    | cons rd2 rs =>
      cases rs with
      | nil => simp [asgTs, asgT] at a1; exact a1.elim
      | cons rd3 rs =>
        cases rs with
        | cons _ _ => simp [asgTs, asgT] at a1; exact a1.elim
        | nil =>
          simp only [asgTs, asgT] at a1
          have no : ∀ {k : Nat}, k ∉ C.oc.map (·.1) → ∀ (j' : Nat) (a : Addr), C.oc[j']? ≠ some (k, a) := fun {k} nk j' a e => nk (List.mem_map.mpr ⟨_, List.mem_of_getElem? e, rfl⟩)
          have s2 := s1.store rd li (no ni)
          have s3 := s2.store rd2 (by rw [List.length_set]; exact lj) (no nj)
          have s4 := s3.store rd3 (by rw [List.length_set, List.length_set]; exact ll) (no nl)
          exact ⟨_, _, _, rfl, a1 μ1 _ H1 (Gr.refl _ _) s4⟩

/-! ### name op= value -/
def bopA : Bop → Bool
  | .add => true
  | .sub => true
  | _ => false
theorem augV_ok {o : Bop} {a b d : D} (e : augV o a b = some d) : ∃ i j k : Int, a = .p (.int i) ∧ b = .p (.int j) ∧ d = .p (.int k) ∧ ((o = .add ∧ k = i + j) ∨ (o = .sub ∧ k = i - j)) := by
  unfold augV at e
  split at e
  case h_2 => cases e
  split at e
  case h_2 => cases e
  split at e <;> first | cases e | skip
  · exact ⟨_, _, _, rfl, rfl, rfl, .inl ⟨rfl, rfl⟩⟩
  · exact ⟨_, _, _, rfl, rfl, rfl, .inr ⟨rfl, rfl⟩⟩
/-- a op= b by the evaluator's values -/
def rAug (C : Cfg) (o : Bop) : TIp := fun x y H Q => ∃ μ a b d, RD C.G μ H a x ∧ RD C.G μ H b y ∧ augV o a b = some d ∧ ∀ z, cstV (match d with | .p q => q | _ => .none) = some z → (∃ k, d = .p (.int k) ∧ z = .int k) → Q z H
theorem ip_aug (o : Bop) : PIp X (bopOf o) (rAug C o) := by
  intro pins s σ H x y v u Q I rx ry h
  obtain ⟨μ, a, b, d, ra, rb, e, q⟩ := h
  obtain ⟨i, j, k, rfl, rfl, rfl, z⟩ := augV_ok e
  obtain rfl := ra.int'
  obtain rfl := rb.int'
  have q' := q (.int k) rfl ⟨k, rfl, rfl⟩
  rcases z with ⟨rfl, rfl⟩ | ⟨rfl, rfl⟩
  · exact ip_add pins s σ H _ _ v u Q I rx ry ⟨i, j, rfl, rfl, q'⟩
  · exact ip_sub pins s σ H _ _ v u Q I rx ry ⟨i, j, rfl, rfl, q'⟩
theorem y_aug {i : Nat} {x : Str} {e : Expr} {m : SE} {o : Bop} {pos' : Pos} (no : i ∉ C.oc.map (·.1)) (hN : X.N.Nodup) (hi : X.N[i]? = some x) (hx : Loc X.env.scope x) (hf : X.fn x = true ∨ X.env.scope.names.lookup x = some .local) (he : PE X e (tE C m)) : PS X (.AugAssign (.Name x pos') (bopOf o) e pos) (tS C (sAug (.nm i) o m)) := by
  refine ⟨fun pins s σ H D I h => (ps_aug hN hi hx he (ip_aug (C := C) o) hf).run pins s σ H D I ?_⟩
  have li : i < σ.length := by rw [I.len]; exact (List.getElem?_eq_some_iff.mp hi).1
  obtain ⟨μ, r, h, s, a⟩ := h
  unfold sAug at a
  cases qd : readT (.nm i) r h with
  | none => rw [qd] at a; exact a.elim
  | some d =>
  rw [qd] at a
  replace a : AftS C D μ r σ H (thenS (m C.cs r h) r fun x h1 => match augV o d x with
    | some y => asgS (.nm i) y r h1
    | none => .bad) := a
  have e1 : r.sl[i]? = some (some d) := by
    replace qd : (match nth r.sl i with | some (some d) => some d | _ => none) = some d := qd
    rw [nth_eq] at qd
    split at qd
    · cases qd; assumption
    · cases qd
  obtain ⟨v, e2, rd⟩ := s.sl i _ e1 no
  refine ⟨v, e2, μ, r, h, s, (AftS.thn (R := RV C) a).imp fun y H1 z => ?_⟩
  obtain ⟨μ1, b, h1, g1, s1, rb, a1⟩ := z
  split at a1
  case h_2 => exact a1.elim
  rename_i k ek
  refine ⟨μ1, d, b, k, rd.mono g1.kp, rb, ek, fun z _ ⟨n, hn, hz⟩ => ?_⟩
  subst hn hz
  have s2 := s1.store (i := i) (.p (.int n)) li fun j a e => no (List.mem_map.mpr ⟨_, List.mem_of_getElem? e, rfl⟩)
  exact a1 μ1 _ H1 (Gr.refl _ _) s2
end
end Y

/-! Y14: stores into lists and dicts; loops. -/
namespace Y
open PySem PySem.Spec PyProof.Rows L2
section
variable {X : Cx} {C : Cfg} {pos : Pos}
/-! ### o[i] = d -/
theorem any_fst {κ : Type} [DecidableEq κ] {G : Gd} {μ : List Addr} {H : Hp} {k : κ} : ∀ {kvs : List (κ × D)} {ws : List (κ × V)}, KR G μ H kvs ws → (kvs.any fun p => decide (p.1 = k)) = (ws.any fun p => decide (p.1 = k))
  | _, _, .nil => rfl
  | _, _, .cons a b => by
    rw [List.any_cons, List.any_cons, any_fst b, a.1]
theorem KR.app {κ : Type} {G : Gd} {μ : List Addr} {H : Hp} : ∀ {kvs : List (κ × D)} {ws : List (κ × V)} {p : κ × D} {q : κ × V}, KR G μ H kvs ws → p.1 = q.1 ∧ RD G μ H p.2 q.2 → KR G μ H (kvs ++ [p]) (ws ++ [q])
  | _, _, _, _, .nil, h => .cons h .nil
  | _, _, _, _, .cons a b, h => .cons a (KR.app b h)
theorem KR.rep {κ : Type} [DecidableEq κ] {G : Gd} {μ : List Addr} {H : Hp} {k : κ} {d : D} {v : V} (rd : RD G μ H d v) : ∀ {kvs : List (κ × D)} {ws : List (κ × V)}, KR G μ H kvs ws → KR G μ H (kvs.map fun p => if p.1 = k then (p.1, d) else p) (ws.map fun p => if p.1 = k then (p.1, v) else p)
  | _, _, .nil => .nil
  | _, _, .cons (a := p) (b := q) a b => by
    refine .cons ?_ (KR.rep rd b)
    show (if p.1 = k then (p.1, d) else p).1 = (if q.1 = k then (q.1, v) else q).1 ∧ RD G μ H (if p.1 = k then (p.1, d) else p).2 (if q.1 = k then (q.1, v) else q).2
    rw [a.1]
    by_cases hk : q.1 = k
    · rw [if_pos hk, if_pos hk]; exact ⟨rfl, rd⟩
    · rw [if_neg hk, if_neg hk]; exact ⟨a.1, a.2⟩
theorem KR.put {κ : Type} [DecidableEq κ] {G : Gd} {μ : List Addr} {H : Hp} {kvs : List (κ × D)} {ws : List (κ × V)} {k : κ} {d : D} {v : V} (r : KR G μ H kvs ws) (rd : RD G μ H d v) : KR G μ H (Y.put kvs k d) (L2.putK ws k v) := by
  unfold Y.put L2.putK
  rw [any_fst r]
  split
  · exact KR.rep rd r
  · exact KR.app r ⟨rfl, rd⟩
theorem KR.len {κ : Type} {G : Gd} {μ : List Addr} {H : Hp} : ∀ {kvs : List (κ × D)} {ws : List (κ × V)}, KR G μ H kvs ws → kvs.length = ws.length
  | _, _, .nil => rfl
  | _, _, .cons _ b => by rw [List.length_cons, List.length_cons, KR.len b]
/-- an object of the evaluator's heap, not a cell -/
theorem Sr.objAt {oc : List (Nat × Addr)} {μ : List Addr} {r : Rho} {h : Hh} {σ : L2.St} {H : Hp} {G : Gd} (s : Sr G oc μ r h σ H) {l : Nat} {ob : Ob} {v : V} (e : h[l]? = some ob) (rd : RD G μ H (.ref l) v) (nc : ∀ c, ob ≠ .cell c) : ∃ a u, v = .ref a ∧ μ[l]? = some a ∧ l ∉ r.cl ∧ H a = some u ∧ HR G μ H ob u := by
  cases rd with
  | ref q =>
    have nl : l ∉ r.cl := fun m => by
      obtain ⟨d, e'⟩ := s.mem_own m
      rw [e] at e'; cases e'; exact nc _ rfl
    obtain ⟨u, a1, a2⟩ := s.ob l _ _ e q nl
    exact ⟨_, u, rfl, q, nl, a1, a2⟩
def rSet (C : Cfg) : TSet := fun o i v H Q => ∃ μ ρ h σ a b d, Sr C.G C.oc μ ρ h σ H ∧ RD C.G μ H a o ∧ RD C.G μ H b i ∧ RD C.G μ H d v ∧ ∃ h', setV h a b d = some h' ∧ ∀ H', Gr ρ.cl μ H μ H' → Sr C.G C.oc μ ρ h' σ H' → Q H'
theorem set_any (hu : X.A.units + 200 < cLine) : PSet X (rSet C) := by
  intro pins s σ0 H o i v ov iv u Q I ro ri rv h
  obtain ⟨μ, ρ, h, σ, a, b, d, sr, ra, rb, rd, h', e, q⟩ := h
  unfold setV at e
  split at e
  case h_2 => cases e
  rename_i l
  rw [nth_eq] at e
  split at e
  · rename_i xs e1
    split at e
    case h_2 => cases e
    rename_i k
    split at e
    case h_2 => cases e
    rename_i j ej
    cases e
    obtain ⟨p, vs, rfl, e2, nl, e3, rs⟩ := sr.lst e1 ra
    obtain rfl := rb.int'
    rw [rs.length] at ej
    obtain ⟨g, s3, _⟩ := sr.wl e2 nl e3 (rs.set rd j)
    exact set_list pins s σ0 H _ _ v ov iv u Q I ro ri rv ⟨p, vs, k, j, rfl, rfl, e3, ej, q _ g s3⟩
  · rename_i kvs e1
    split at e
    case h_2 => cases e
    rename_i k ek
    split at e
    case isFalse => cases e
    rename_i hl
    cases e
    obtain ⟨p, u2, rfl, e2, nl, e3, rel⟩ := sr.objAt e1 ra (fun c z => by cases z)
    cases u2 <;> first | exact rel.elim | skip
    rename_i ws
    have rel : KR C.G μ H kvs ws := rel
    have hl := Nat.ble_eq.mp hl
    have hl2 := rel.len
    have := LINE_le
    have ni : ∀ o, H p = some o → ¬ Stay o := fun o e => by rw [e3] at e; cases e; exact fun z => z
    have kp : Kp μ H μ (upd H p (.dK (L2.putK ws k v))) := Kp.write ni
    exact set_dict (by omega) pins s σ0 H _ _ v ov iv u Q I ro ri rv ⟨p, _, rfl, .inl ⟨ws, k, e3, keyOf_v ek rb, by omega, rfl⟩, q _ (Gr.write ⟨l, nl, e2⟩ ni) (sr.write e2 nl ni (show KR C.G _ _ (Y.put kvs k d) (L2.putK ws k v) from (rel.put rd).mono kp))⟩
  · rename_i kvs e1
    split at e
    case h_2 => cases e
    rename_i k ek
    split at e
    case isFalse => cases e
    rename_i hl
    cases e
    obtain ⟨p, u2, rfl, e2, nl, e3, rel⟩ := sr.objAt e1 ra (fun c z => by cases z)
    cases u2 <;> first | exact rel.elim | skip
    rename_i ws
    have rel : KR C.G μ H kvs ws := rel
    have hl := Nat.ble_eq.mp hl
    have hl2 := rel.len
    have := LINE_le
    obtain ⟨tb, e4, e5⟩ := tkeyOf_v ek rb
    have ni : ∀ o, H p = some o → ¬ Stay o := fun o e => by rw [e3] at e; cases e; exact fun z => z
    have kp : Kp μ H μ (upd H p (.dT (L2.putK ws k v))) := Kp.write ni
    exact set_dict (by omega) pins s σ0 H _ _ v ov iv u Q I ro ri rv ⟨p, _, rfl, .inr ⟨ws, k, tb, e3, e4, e5, by omega, rfl⟩, q _ (Gr.write ⟨l, nl, e2⟩ ni) (sr.write e2 nl ni (show KR C.G _ _ (Y.put kvs k d) (L2.putK ws k v) from (rel.put rd).mono kp))⟩
  · cases e
theorem y_set (hu : X.A.units + 200 < cLine) {o i e : Expr} {mo mi me : SE} {tpos : Pos} (he : PE X e (tE C me)) (ho : PE X o (tE C mo)) (hi : PE X i (tE C mi)) (hs : swapsWithSole [.Subscript o i tpos] e pos.line X.env = pure false) (hw : swappedStores [.Subscript o i tpos] e X.env = pure none)
    (h1 : (assignEach [.Subscript o i tpos] X.env).map (·.2) = [assign (.Subscript o i tpos) X.env])
    (ha : ∀ v, assign (.Subscript o i tpos) X.env v = (do
      let ov ← holding [v] (eval o X.env)
      let iv ← holding [v, ov] (eval i X.env)
      standAt tpos
      holding [v, ov, iv] (setItem ov iv v)
      release [v, ov, iv] [])) : PS X (.Assign [.Subscript o i tpos] e pos) (tS C (sSet mo mi me)) := by
  refine PS.w (ps_asg he (pg_sub ho hi (set_any (C := C) hu) ha) hs hw h1) fun D σ H h => ?_
  obtain ⟨μ, r, h, s, a⟩ := h
  refine ⟨μ, r, h, s, (AftS.thn (R := RV C) a).imp fun x H1 z => ?_⟩
  obtain ⟨μ1, d, h1, g1, s1, rd1, a1⟩ := z
  refine ⟨μ1, r, h1, s1, (AftS.thn (R := RV C) a1).imp fun y H2 z => ?_⟩
  obtain ⟨μ2, d2, h2, g2, s2, rd2, a2⟩ := z
  refine ⟨μ2, r, h2, s2, (AftS.thn (R := RV C) a2).imp fun z H3 zz => ?_⟩
  obtain ⟨μ3, d3, h3, g3, s3, rd3, a3⟩ := zz
  unfold nxO at a3
  split at a3
  · rename_i h' eh
    refine ⟨μ3, r, h3, σ, d2, d3, d, s3, rd2.mono g3.kp, rd3, rd1.mono (g2.trans g3).kp, h', eh, fun H' g4 s4 => a3 μ3 σ H' g4 s4⟩
  · exact a3.elim
/-! ### o[i] op= e -/
def rGet (C : Cfg) : V → V → Hp → VK → Prop := fun o i H Q => ∃ μ ρ h σ a b d, Sr C.G C.oc μ ρ h σ H ∧ RD C.G μ H a o ∧ RD C.G μ H b i ∧ getV h a b = some d ∧ ∀ v, RD C.G μ H d v → Q v H
theorem get_any (hK : C.G.K = X.K) (hu : X.A.units + 200 < cLine) : PGet X (rGet C) := by
  intro pins s σ0 H o i ov iv Q I ro ri h
  obtain ⟨μ, ρ, h, σ, a, b, d, sr, ra, rb, e, q⟩ := h
  unfold getV at e
  split at e
  case h_2 => cases e
  rename_i l
  rw [nth_eq] at e
  split at e
  · rename_i xs e1
    split at e
    case h_2 => cases e
    rename_i k
    obtain ⟨p, vs, rfl, e2, nl, e3, rs⟩ := sr.lst e1 ra
    obtain rfl := rb.int'
    obtain ⟨w, ew, rd⟩ := rs.at e
    cases ro
    obtain ⟨t, rfl⟩ := ri
    obtain ⟨its, r, pl, hz⟩ := I.list (.inl (.inl e3))
    obtain ⟨j, h1, h2, h3, h4, h5⟩ := atI_get ew
    obtain ⟨u, eu, ru⟩ := r.get h2
    have hl := r.length
    have hn := line63
    by_cases h0 : 0 ≤ k
    · have hj : k.toNat = j := by
        rw [seqIndex_of h0 h5] at h1
        exact Option.some.inj h1
      exact PySem.wpAny_getItem_list pl.isList h0 (by omega) (by rw [hj]; simpa using eu) ⟨w, H, I, ru, q w rd⟩
    · have hj : (k + (its.toArray.size : Int)).toNat = j := by
        rw [seqIndex_neg (by omega) h4] at h1
        rw [List.size_toArray, ← hl]
        exact Option.some.inj h1
      exact PySem.wpAny_getItem_list_neg pl.isList (by omega) (by rw [List.size_toArray] <;> omega) (by omega) (by rw [hj]; simpa using eu) ⟨w, H, I, ru, q w rd⟩
  · split at e
    case h_2 => cases e
    rename_i d' e1
    cases e
    obtain ⟨p, rfl, _, w, g, g2⟩ := sr.dget ra rb e1
    cases ro
    rcases g2 with ⟨z, _⟩ | ⟨d2, v, z, rfl, rd⟩
    · cases z
    · cases z
      exact d_getItem (by omega) I g ri fun w' s' I' rw' => ⟨v, H, I', rw', q v rd⟩
theorem y_augs (hK : C.G.K = X.K) (hu : X.A.units + 200 < cLine) {o i e : Expr} {mo mi me : SE} {op : Bop} {tpos : Pos} (ho : PE X o (tE C mo)) (hi : PE X i (tE C mi)) (he : PE X e (tE C me))
    (ha : ∀ ov iv new, augStore i ov iv new = (do holding [new, ov, iv] (setItem ov iv new); release [new, ov, iv] []; pure .next)) : PS X (.AugAssign (.Subscript o i tpos) (bopOf op) e pos) (tS C (sAugs mo mi op me)) := by
  refine PS.w (ps_augS ho hi (get_any (C := C) hK hu) he (ip_aug (C := C) op) (set_any (C := C) hu) ha) fun D σ H h => ?_
  obtain ⟨μ, r, h, s, a⟩ := h
  refine ⟨μ, r, h, s, (AftS.thn (R := RV C) a).imp fun y H1 z => ?_⟩
  obtain ⟨μ1, d1, h1, g1, s1, rd1, a1⟩ := z
  refine ⟨μ1, r, h1, s1, (AftS.thn (R := RV C) a1).imp fun z H2 zz => ?_⟩
  obtain ⟨μ2, d2, h2, g2, s2, rd2, a2⟩ := zz
  split at a2
  case h_2 => exact a2.elim
  rename_i dg eg
  refine ⟨μ2, r, h2, σ, d1, d2, dg, s2, rd1.mono g2.kp, rd2, eg, fun v rv => ?_⟩
  refine ⟨μ2, r, h2, s2, (AftS.thn (R := RV C) a2).imp fun x H3 zz => ?_⟩
  obtain ⟨μ3, d3, h3, g3, s3, rd3, a3⟩ := zz
  split at a3
  case h_2 => exact a3.elim
  rename_i db eb
  refine ⟨μ3, dg, d3, db, rv.mono g3.kp, rd3, eb, fun z _ ⟨n, hn, hz⟩ => ?_⟩
  subst hn hz
  unfold nxO at a3
  split at a3
  · rename_i h' eh
    exact ⟨μ3, r, h3, σ, d1, d2, _, s3, rd1.mono (g2.trans g3).kp, rd2.mono g3.kp, .p (.int n), h', eh, fun H' g4 s4 => a3 μ3 σ H' g4 s4⟩
  · exact a3.elim

/-! ### for -/
theorem forW_fx {body : Rho → Hh → SR} {t : Tg} {ds : List D} : ∀ (k i : Nat) (r : Rho) (h : Hh), i + k = ds.length → forW (.fx ds) body t k i r h = forL body t (ds.drop i) r h
  | 0, i, r, h, e => by
    rw [List.drop_eq_nil_of_le (by omega)]
    rfl
  | k + 1, i, r, h, e => by
    have hi : i < ds.length := by omega
    rw [List.drop_eq_getElem_cons hi]
    have e1 : Wk.at (.fx ds) i h = some ds[i] := by
      show nth ds i = _
      rw [nth_eq, List.getElem?_eq_getElem hi]
    simp only [forW, forL, e1]
    cases asgT t ds[i] r h with
    | none => rfl
    | some z =>
      obtain ⟨r1, h1⟩ := z
      simp only
      congr 1
      funext r2 h2
      rw [forW_fx k (i + 1) r2 h2 (by omega)]
theorem forV_W {w : Wk} {body : Rho → Hh → SR} {t : Tg} {r : Rho} {h : Hh} : forV w body t r h = forW w body t w.len 0 r h := by
  cases w with
  | fx ds =>
    show forL body t ds r h = forW (.fx ds) body t ds.length 0 r h
    rw [forW_fx (ds := ds) ds.length 0 r h (by omega)]; rfl
  | rd l n => rfl
theorem AftS.turn {D D' : Ends} {μ μ1 : List Addr} {r r1 : Rho} {σ σ1 : L2.St} {H H1 : Hp} {m : SR} {f : Rho → Hh → SR} (g : Gr r.cl μ H μ1 H1) (ec : r1.cl = r.cl) (hk : m.keeps r1)
    (h : AftS C D μ r σ H (turnS m f)) (w : ∀ μ' r' h' σ' H', r'.cl = r.cl → Gr r.cl μ H μ' H' → Gr r.cl μ1 H1 μ' H' → Sr C.G C.oc μ' r' h' σ' H' → AftS C D μ r σ H (f r' h') → D'.nx σ' H')
    (e1 : D'.ct = D'.nx) (e2 : D'.bk = D.nx) (e3 : D'.rt = D.rt) : AftS C D' μ1 r1 σ1 H1 m := by
  cases m with
  | nx r' h' => exact fun μ' σ' H' g' s => w μ' r' h' σ' H' (hk.trans ec) (g.trans (ec ▸ g')) (ec ▸ g') s h
  | rt d h' => exact fun μ' σ' H' r' v e g' s q => by rw [e3]; exact h μ' σ' H' r' v (e.trans ec) (g.trans (ec ▸ g')) s q
  | bk r' h' => exact fun μ' σ' H' g' s => by rw [e2]; exact h μ' σ' H' (g.trans (ec ▸ g')) s
  | ct r' h' => exact fun μ' σ' H' g' s => by rw [e1]; exact w μ' r' h' σ' H' (hk.trans ec) (g.trans (ec ▸ g')) (ec ▸ g') s h
  | exn c fs r' h' => exact fun μ' σ' H' cls dd g' s q => h μ' σ' H' cls dd (g.trans (ec ▸ g')) s q
  | bad => exact h
theorem y_for {tg iter : Expr} {body : List Stmt} {t : Tg} {mi : SI} {mb : SS} (ck : Clk mb) (hp : PassesOwn (model X.prog X.w) X.A X.env X.xe) (hc : X.calm = true) (hi : PI X tg iter (tI C mi)) (hg : PG X tg (gY C t)) (hb : PSs X body (tS C mb))
    (hs : ∀ x, foldedSetIterable iter X.env x = pure x) : PS X (.For tg iter body [] pos) (tS C (sFor t mi mb)) := by
  refine PS.w (ps_for hp hc hi hg hb hs) fun D σ H h => ?_
  obtain ⟨μ, r, h, s, a⟩ := h
  refine ⟨μ, r, h, s, (AftS.thn0 (R := RWk C) a).imp fun J H1 z => ?_⟩
  obtain ⟨μ1, w, h1, g1, s1, wk, a1⟩ := z
  rw [forV_W] at a1
  refine ⟨fun i m σc Hc => i + m = w.len ∧ ∃ μc rc hc, rc.cl = r.cl ∧ Gr r.cl μ H μc Hc ∧ Kp μ1 H1 μc Hc ∧ Sr C.G C.oc μc rc hc σc Hc ∧ AftS C D μ r σ H (forW w (mb C.cs) t m i rc hc),
    ⟨w.len, by omega, μ1, r, h1, rfl, g1, (Gr.refl (cl := []) _ _).kp, s1, a1⟩, ?_⟩
  rintro i m σc Hc ⟨him, μc, rc, hc', ec, g, kp, sc, ac⟩
  cases m with
  | zero =>
    simp only [forW] at ac
    split at ac
    · rename_i hf
      refine .inl ⟨?_, ac μc σc Hc g sc⟩
      have := wk.stop _ _ _ _ _ _ kp sc hf
      rw [show i = w.len by omega]; exact this
    · exact ac.elim
  | succ k =>
    simp only [forW] at ac
    split at ac
    case h_2 => exact ac.elim
    rename_i x ex
    have hgo := wk.go i x _ _ _ _ _ _ kp sc ex
    split at ac
    case h_1 => exact ac.elim
    rename_i r' h3 ea
    have ecl := asgT_cl t x rc hc' r' h3 ea
    refine .inr ⟨hgo.1, fun σ' H' => i + 1 + k = w.len ∧ ∃ μc rc hc, rc.cl = r.cl ∧ Gr r.cl μ H μc H' ∧ Kp μ1 H1 μc H' ∧ Sr C.G C.oc μc rc hc σ' H' ∧ AftS C D μ r σ H (forW w (mb C.cs) t k (i + 1) rc hc), fun H' σ' n => ⟨k, Nat.lt_succ_self k, n⟩, fun x' H' yl => ?_⟩
    obtain ⟨ka, rd⟩ := hgo.2 x' H' yl
    refine ⟨μc, rc, hc', x, sc.grow ka, rd, r', h3, ea, fun σ2 s2 l2 k2 => ⟨μc, r', h3, s2, ?_⟩⟩
    have gH' : Gr r.cl μ H μc H' := g.trans (Gr.of_keep ka)
    refine AftS.turn (D := D) gH' (ecl.trans ec) (ck C.cs r' h3) ac (fun μ' r2 h2 σ' H2 e2 g2 g3 s2 a2 => ⟨by omega, μ', r2, h2, e2, g2, (kp.trans (keep_kp ka)).trans g3.kp, s2, a2⟩) rfl rfl rfl
/-! ### while -/
theorem y_while {c : Expr} {body : List Stmt} {mc : SE} {mb : SS} (ck : Clk mb) (hp : PassesOwn (model X.prog X.w) X.A X.env X.xe) (hc : PT X c (tT C (tst mc))) (hb : PSs X body (tS C mb)) : PS X (.While c body [] pos) (tS C (sWhile mc mb)) := by
  refine PS.w (ps_while hp hc hb) fun D σ H h => ?_
  obtain ⟨μ, r, h, s, a⟩ := h
  refine ⟨fun m σc Hc => ∃ μc rc hc, rc.cl = r.cl ∧ Gr r.cl μ H μc Hc ∧ Sr C.G C.oc μc rc hc σc Hc ∧ AftS C D μ r σ H (whileF (testE C.cs mc) (mb C.cs) m rc hc), ⟨FUEL, μ, r, h, rfl, Gr.refl _ _, s, a⟩, ?_⟩
  rintro m σc Hc ⟨μc, rc, hc', ec, g, sc, ac⟩
  cases m with
  | zero => exact ac.elim
  | succ k =>
    refine ⟨μc, rc, hc', sc, ?_⟩
    simp only [whileF] at ac
    show Aft C RB μc rc σc Hc (testE C.cs mc rc hc') _
    cases q : testE C.cs mc rc hc' with
    | bad => rw [q] at ac; exact ac
    | exn c fs h1 =>
      rw [q] at ac
      exact fun μ' cls dd H' g' s' rx => ac μ' σc H' cls dd (g.trans (ec ▸ g')) s' rx
    | ok b h1 =>
      rw [q] at ac
      intro μ1 b' H1 g1 s1 eb
      subst eb
      cases b with
      | false =>
        rw [if_neg (by decide)]
        exact ac μ1 σc H1 (g.trans (ec ▸ g1)) s1
      | true =>
        rw [if_pos rfl]
        refine ⟨fun σ' H' => ∃ μc rc hc, rc.cl = r.cl ∧ Gr r.cl μ H μc H' ∧ Sr C.G C.oc μc rc hc σ' H' ∧ AftS C D μ r σ H (whileF (testE C.cs mc) (mb C.cs) k rc hc), fun σ' H' n => ⟨k, Nat.lt_succ_self k, n⟩, μ1, rc, h1, s1, ?_⟩
        have ac' : AftS C D μ r σ H (turnS (mb C.cs rc h1) (whileF (testE C.cs mc) (mb C.cs) k)) := by
          cases q2 : mb C.cs rc h1 <;> (simp only [q2] at ac; exact ac)
        exact AftS.turn (D := D) (g.trans (ec ▸ g1)) ec (ck C.cs rc h1) ac' (fun μ' r2 h2 σ' H2 e2 g2 g3 s2 a2 => ⟨μ', r2, h2, e2, g2, s2, a2⟩) rfl rfl rfl

/-! ### name = [.. for ..] on one line -/
noncomputable def lcEnd (im : Bool) (i : Nat) (ds : List D) (r : Rho) (h1 : Hh) : SR := match im with
  | true => asgS (.nm i) (mkLst ds) r h1
  | false => asgS (.nm i) (.ref h1.length) r (h1 ++ [.lst ds])
theorem tLc_imp {mi : SI} {g : TG} {tt : TT} {te : TE} {vs : List Nat} {σ : L2.St} {H : Hp} {Q Q' : VK} (h : tLc (tI C mi) g tt te vs σ H Q) (w : ∀ x H', Q x H' → Q' x H') : tLc (tI C mi) g tt te vs σ H Q' := by
  obtain ⟨μ, r, h, s, a⟩ := h
  refine ⟨μ, r, h, s, a.imp fun J H1 z D nD => ?_⟩
  obtain ⟨W, w0, turn⟩ := z D nD
  refine ⟨W, w0, fun i m Hc hw => ?_⟩
  rcases turn i m Hc hw with ⟨st, q⟩ | z
  · exact .inl ⟨st, w _ _ q⟩
  · exact .inr z
theorem y_setLc {i : Nat} {y : Str} {py : Pos} {elt tg iter : Expr} {ifs : List Expr} {scope : Scope} {own : List (Str × Nat)} {t : Tg} {mi : SI} {mo : SO} {me : SE} {p2 : Pos} (im : Bool) (hc : X.calm = true) (hN : X.N.Nodup) (hy : X.N[i]? = some y) (hyl : X.env.scope.names.lookup y = some .local) (no : i ∉ C.oc.map (·.1))
    (hsw : swapsWith (.ListComp elt [⟨tg, iter, ifs, 0⟩] scope p2) (some (.Name y py)) pos.line X.env = pure true) (hi : PI X tg iter (tI C mi)) (ok : BlkOk X.N X.env.scope scope own)
    (hg : ∀ (s : Shared) (H : Hp) (A : Addr) (cl : List (Str × Addr)) (fp : List Addr), PG (X.blk s H scope (compEnvC scope cl A X.env) fp) tg (gY C.calm t))
    (ht : ∀ (s : Shared) (H : Hp) (A : Addr) (cl : List (Str × Addr)) (fp : List Addr), PTs (X.blk s H scope (compEnvC scope cl A X.env) fp) ifs (tT C.calm (tCond mo)))
    (he : ∀ (s : Shared) (H : Hp) (A : Addr) (cl : List (Str × Addr)) (fp : List Addr), PE (X.blk s H scope (compEnvC scope cl A X.env) fp) elt (tE C.calm me)) (hs : ∀ x, foldedSetIterable iter X.env x = pure x)
    (h1 : ∀ i ∈ own.map (·.2), i ∈ tgN [] t) (h2 : ∀ i ∈ tgN C.oc t, i ∈ own.map (·.2)) (h3 : ∀ i ∈ own.map (·.2), i ∉ C.oc.map (·.1)) :
    PS X (.Assign [.Name y py] (.ListComp elt [⟨tg, iter, ifs, 0⟩] scope p2) pos) (tS C (sAsg (.nm i) (if im then kImm (lComp t mi mo me) else kMut (lComp t mi mo me)))) := by
  refine ⟨fun pins s σ H D I hh => ?_⟩
  have li : i < σ.length := by rw [I.len]; exact (List.getElem?_eq_some_iff.mp hy).1
  obtain ⟨μ, r, h, sr, a⟩ := hh
  have no' : ∀ (j : Nat) (a : Addr), C.oc[j]? ≠ some (i, a) := fun j a e => no (List.mem_map.mpr ⟨_, List.mem_of_getElem? e, rfl⟩)
  -- the list, then the rest
  have a' : AftS C D μ r σ H (thenS (lComp t mi mo me C.cs r h) r fun ds h1 => lcEnd im i ds r h1) := by
    unfold sAsg at a
    cases im with
    | true =>
      simp only [if_true, kImm] at a
      cases q : lComp t mi mo me C.cs r h <;> (rw [q] at a; exact a)
    | false =>
      simp only [Bool.false_eq_true, if_false, kMut] at a
      cases q : lComp t mi mo me C.cs r h <;> (rw [q] at a; exact a)
  have rl : tL C (lComp t mi mo me) σ H fun x H1 => ∃ μ1 ds h1, Gr r.cl μ H μ1 H1 ∧ Sr C.G C.oc μ1 r h1 σ H1 ∧ RL C H r.cl μ1 H1 ds x ∧ AftS C D μ r σ H (lcEnd im i ds r h1) := ⟨μ, r, h, sr, AftS.thn0 a'⟩
  refine thn ((ps_setLc hc hN hy hyl hsw hi ok hg ht he hs).run pins s σ H ⟨fun σ' H1 => ∃ x, σ' = σ.set i (some x) ∧ ∃ μ1 ds h1, Gr r.cl μ H μ1 H1 ∧ Sr C.G C.oc μ1 r h1 σ H1 ∧ RL C H r.cl μ1 H1 ds x ∧ AftS C D μ r σ H (lcEnd im i ds r h1), fun _ _ => False, fun _ _ => False, fun _ _ => False⟩ I (tLc_imp (lcomp_r h1 h2 h3 rl) fun x H1 q => ⟨x, rfl, q⟩)) fun f s1 q => ?_
  cases f with
  | ret v => obtain ⟨_, _, _, _, _, q⟩ := q; exact q.elim
  | brk => obtain ⟨_, _, _, q⟩ := q; exact q.elim
  | cont => obtain ⟨_, _, _, q⟩ := q; exact q.elim
  | next =>
    obtain ⟨σ', H1, I1, x, es, μ1, ds, h1, g, s1', ⟨p, vs, ep, n, na, e1, rs⟩, a1⟩ := q
    subst es ep
    cases im with
    | true =>
      obtain ⟨od, I2⟩ := I1.lock e1 trivial
      have i' := notImm_lst e1
      have s2 := s1'.but (H' := upd H1 p (.frz od (.lst vs))) (fun b o ne e => by rw [upd_ne ne]; exact e) i' fun l nl e => na ⟨l, nl, e⟩
      have kp : Kp μ1 H1 μ1 (upd H1 p (.frz od (.lst vs))) := Kp.write i'
      have s3 := s2.store (RD.mkLst upd_same (rs.mono kp)) li no'
      exact ⟨_, _, I2, a1 μ1 _ _ (g.upd_new n _) s3⟩
    | false =>
      have kp : Kp μ1 H1 (μ1 ++ [p]) H1 := ⟨⟨[p], rfl⟩, fun _ _ z _ => z⟩
      have s2 : Sr C.G C.oc (μ1 ++ [p]) r (h1 ++ [.lst ds]) σ H1 := s1'.adopt e1 (fun l nl e => na ⟨l, nl, e⟩) (show HR C.G (μ1 ++ [p]) H1 (.lst ds) (.lst vs) from rs.mono kp)
      obtain ⟨t, et⟩ := g.pre
      have g2 : Gr r.cl μ H (μ1 ++ [p]) H1 := ⟨⟨t ++ [p], by rw [et, List.append_assoc]⟩, fun b hb => by
        rcases hb.push with z | z
        · exact g.fresh b z
        · subst z; exact .inr n, g.keep, g.tbl⟩
      have rp : RD C.G (μ1 ++ [p]) H1 (.ref h1.length) (.ref p) := .ref (by
        rw [← s1'.len, List.getElem?_append_right (Nat.le_refl _), Nat.sub_self]
        rfl)
      exact ⟨_, _, I1, a1 _ _ _ g2 (s2.store rp li no')⟩
end
end Y

/-! Y15: calls. -/
namespace Y
open PySem PySem.Spec PyProof.Rows L2
/-! ### own cells frozen, thawed -/
open Classical in
noncomputable def frzH (H : Hp) (h : Heap) (as : List Addr) : Hp := fun b => if b ∈ as then (h.get? b).map fun o => .frz o (.own 0) else H b
open Classical in
noncomputable def thaw (H : Hp) (as : List Addr) : Hp := fun b => if b ∈ as then none else H b
section
variable {H H' : Hp} {h : Heap} {as : List Addr} {b : Addr} {P : Program} {w : World}
theorem frzH_in {o : Obj} (m : b ∈ as) (e : h.get? b = some o) : frzH H h as b = some (.frz o (.own 0)) := by unfold frzH; rw [if_pos m, e]; rfl
theorem frzH_out (m : b ∉ as) : frzH H h as b = H b := by unfold frzH; rw [if_neg m]
theorem thaw_in (m : b ∈ as) : thaw H as b = none := by unfold thaw; rw [if_pos m]
theorem thaw_out (m : b ∉ as) : thaw H as b = H b := by unfold thaw; rw [if_neg m]
/-- what stood there stands -/
theorem frzH_keep (n : ∀ a ∈ as, H a = none) {u : HO} (e : H b = some u) : frzH H h as b = some u := by
  rw [frzH_out fun m => by rw [n b m] at e; cases e]; exact e
theorem frzH_ok (n : ∀ a ∈ as, H a = none) (ok : HOk P w H h) : HOk P w (frzH H h as) h := fun b u e => by
  by_cases m : b ∈ as
  · cases q : h.get? b with
    | none => unfold frzH at e; rw [if_pos m, q] at e; cases e
    | some o =>
      rw [frzH_in m q] at e
      cases e
      exact ⟨q, o, q⟩
  · rw [frzH_out m] at e
    exact (ok b u e).stay (fun _ _ _ q => q) (fun _ q => frzH_keep n q) fun _ _ q => frzH_keep n q
theorem thaw_ok (n : ∀ a ∈ as, ∃ o, H a = some (.frz o (.own 0))) (ok : HOk P w H h) : HOk P w (thaw H as) h := fun b u e => by
  by_cases m : b ∈ as
  · rw [thaw_in m] at e; cases e
  · rw [thaw_out m] at e
    have k : ∀ c v, H c = some v → (∀ o, v ≠ .frz o (.own 0)) → thaw H as c = some v := fun c v q ne => by
      rw [thaw_out fun m => by obtain ⟨o, z⟩ := n c m; rw [z] at q; cases q; exact ne o rfl]; exact q
    exact (ok b u e).stay (fun _ _ _ q => q) (fun _ q => k _ _ q (fun _ z => by cases z)) fun _ _ q => k _ _ q (fun _ z => by cases z)
end
section
variable {P : Program} {w : World} {K : PySem.W.Frag} {mg : Str → Option Value} {base : Heap} {A : Around} {outer : List Env} {s : Shared} {H : Hp} {as : List Addr}
theorem Env0.frz (e : Env0 P w K mg base A outer s H) (n : ∀ a ∈ as, H a = none) (nb : ∀ a ∈ as, base.get? a = none) (nf : ∀ a ∈ as, a ∉ frs outer) : Env0 P w K mg base A outer s (frzH H s.heap as) :=
  ⟨e.frames, e.mod, fun b o q => ⟨(e.bs b o q).1, by rw [frzH_out fun m => by rw [nb b m] at q; cases q]; exact (e.bs b o q).2⟩, e.bsz, e.funs, fun b hb => by rw [frzH_out fun m => nf b m hb]; exact e.frf b hb, frzH_ok n e.hok, e.bare⟩
theorem Env0.thaw (e : Env0 P w K mg base A outer s H) (n : ∀ a ∈ as, ∃ o, H a = some (.frz o (.own 0))) : Env0 P w K mg base A outer s (thaw H as) :=
  have t : ∀ b, H b = none → Y.thaw H as b = none := fun b q => by
    by_cases m : b ∈ as
    · exact thaw_in m
    · rw [thaw_out m]; exact q
  ⟨e.frames, e.mod, fun b o q => ⟨(e.bs b o q).1, t b (e.bs b o q).2⟩, e.bsz, e.funs, fun b hb => t b (e.frf b hb), thaw_ok n e.hok, e.bare⟩
/-- behind a call with the cells frozen -/
theorem un_thaw {fs : List Addr} {H' : Hp} {h h' : Heap} (n : ∀ a ∈ as, H a = none) (hc : ∀ a ∈ as, ∃ o, h.get? a = some o) (ok : HOk P w H' h') (u : Un fs [] (frzH H h as) H' h h') : Un fs [] H (Y.thaw H' as) h h' where
  keep := fun b o e z hf hx => by
    by_cases m : b ∈ as
    · have q := u.frzs b o (.own 0) (frzH_in m e)
      exact (ok b _ q).1
    · exact u.keep b o e (by rw [frzH_out m]; exact z) hf hx
  slot := fun b o e z hf hx => by
    by_cases m : b ∈ as
    · have q := u.frzs b o (.own 0) (frzH_in m e)
      exact ⟨o.slots, (ok b _ q).1⟩
    · exact u.slot b o e (by rw [frzH_out m]; exact z) hf hx
  free := fun b o e z hx => by
    by_cases m : b ∈ as
    · exact thaw_in m
    · rw [thaw_out m]; exact u.free b o e (by rw [frzH_out m]; exact z) hx
  there := u.there
  tups := fun b xs e => by
    have m : b ∉ as := fun m => by rw [n b m] at e; cases e
    rw [thaw_out m]; exact u.tups b xs (by rw [frzH_out m]; exact e)
  frzs := fun b o x e => by
    have m : b ∉ as := fun m => by rw [n b m] at e; cases e
    rw [thaw_out m]; exact u.frzs b o x (by rw [frzH_out m]; exact e)
  tbls := fun b ps e => by
    have m : b ∉ as := fun m => by rw [n b m] at e; cases e
    rw [thaw_out m]; exact u.tbls b ps (by rw [frzH_out m]; exact e)
theorem ub_thaw {fs : List Addr} {H' : Hp} {h B h' : Heap} (n : ∀ a ∈ as, H a = none) (ok : HOk P w H' B) (u : UB fs (frzH H h as) H' h B h') : UB fs H (Y.thaw H' as) h B h' where
  keep := fun b o e z hf => by
    by_cases m : b ∈ as
    · have q := u.frzs b o (.own 0) (frzH_in m e)
      exact (ok b _ q).1
    · exact u.keep b o e (by rw [frzH_out m]; exact z) hf
  slot := u.slot
  free := fun b o e z => by
    by_cases m : b ∈ as
    · exact thaw_in m
    · rw [thaw_out m]; exact u.free b o e (by rw [frzH_out m]; exact z)
  there := u.there
  tups := fun b xs e => by
    have m : b ∉ as := fun m => by rw [n b m] at e; cases e
    rw [thaw_out m]; exact u.tups b xs (by rw [frzH_out m]; exact e)
  frzs := fun b o x e => by
    have m : b ∉ as := fun m => by rw [n b m] at e; cases e
    rw [thaw_out m]; exact u.frzs b o x (by rw [frzH_out m]; exact e)
  tbls := fun b ps e => by
    have m : b ∉ as := fun m => by rw [n b m] at e; cases e
    rw [thaw_out m]; exact u.tbls b ps (by rw [frzH_out m]; exact e)
/-- an end's wish, told of the frozen heap -/
theorem cr_thaw {Q Q2 : VK} {E E2 : XK} {rs : Result} {s' : Shared} (n : ∀ a ∈ as, H a = none) (hc : ∀ a ∈ as, ∃ o, s.heap.get? a = some o)
    (hQ : ∀ v H', (∀ a ∈ as, ∃ o, s.heap.get? a = some o ∧ H' a = some (.frz o (.own 0))) → Q2 v H' → Q v (Y.thaw H' as)) (hE : ∀ c d H', (∀ a ∈ as, ∃ o, s.heap.get? a = some o ∧ H' a = some (.frz o (.own 0))) → E2 c d H' → E c d (Y.thaw H' as))
    (h : CR (L2.CX P w) outer P w (frzH H s.heap as) s Q2 E2 rs s') : CR (L2.CX P w) outer P w H s Q E rs s' := by
  cases rs with
  | ok fl =>
    cases fl with
    | ret u =>
      obtain ⟨v, H', os, bare, un, hok, r, q⟩ := h
      have kept : ∀ a ∈ as, ∃ o, s.heap.get? a = some o ∧ H' a = some (.frz o (.own 0)) := fun a m => by
        obtain ⟨o, e⟩ := hc a m
        exact ⟨o, e, un.frzs a o _ (frzH_in m e)⟩
      exact ⟨v, _, os, bare, un_thaw n hc hok un, thaw_ok (fun a m => by obtain ⟨o, _, z⟩ := kept a m; exact ⟨o, z⟩) hok, r, hQ v H' kept q⟩
    | next => exact h
    | brk => exact h
    | cont => exact h
  | error e =>
    obtain ⟨a, B, H', cls, d, ea, fl, hok, ub, na, os, ag, q⟩ := h
    have kept : ∀ a ∈ as, ∃ o, s.heap.get? a = some o ∧ H' a = some (.frz o (.own 0)) := fun a m => by
      obtain ⟨o, e⟩ := hc a m
      exact ⟨o, e, ub.frzs a o _ (frzH_in m e)⟩
    refine ⟨a, B, _, cls, d, ea, fl, thaw_ok (fun a m => by obtain ⟨o, _, z⟩ := kept a m; exact ⟨o, z⟩) hok, ub_thaw n hok ub, ?_, os, ag, hE cls d H' kept q⟩
    by_cases m : a ∈ as
    · exact thaw_in m
    · rw [thaw_out m]; exact na
end

/-! ### states without a frame -/
abbrev HRel (G : Gd) (μ : List Addr) (h : Hh) (H : Hp) : Prop := Sr G [] μ ⟨[], []⟩ h [] H
section
variable {G : Gd} {oc : List (Nat × Addr)} {μ μ' : List Addr} {r : Rho} {h h' : Hh} {σ : L2.St} {H H' : Hp}
theorem Sr.hrel (s : Sr G [] μ r h σ H) : HRel G μ h H := by
  have ec : r.cl = [] := List.length_eq_zero_iff.mp s.ocl
  have e := s.inj
  have e2 := s.ob
  rw [ec] at e e2
  exact ⟨s.len, e, e2, rfl, fun j l i a e1 _ => by simp at e1, Nat.zero_le _, fun i d e => by simp at e, List.nodup_nil, s.tab⟩
/-- the frame's cells frozen -/
theorem Sr.freeze (s : Sr G oc μ r h σ H) {hp : Heap} (cf : ∀ (j i : Nat) (a : Addr), oc[j]? = some (i, a) → H a = none ∧ ∃ o u, hp.get? a = some o ∧ o.data = .cell u ∧ ∀ v, σ[i]? = some (some v) → ∃ w, u = some w ∧ RelV v w)
    (ci : ∀ (j j' i i' : Nat) (a : Addr), oc[j]? = some (i, a) → oc[j']? = some (i', a) → j = j') : HRel G μ h (frzH H hp (oc.map (·.2))) := by
  have na : ∀ a ∈ oc.map (·.2), H a = none := fun a m => by
    obtain ⟨p, hp, e⟩ := List.mem_map.mp m
    obtain ⟨j, hj⟩ := List.mem_iff_getElem?.mp hp
    rw [← e]
    exact (cf j p.1 p.2 hj).1
  have kp : Kp μ H μ (frzH H hp (oc.map (·.2))) := keep_kp fun b o e => frzH_keep na e
  have own : ∀ {l : Nat}, l ∈ r.cl → ∃ j i a, r.cl[j]? = some l ∧ oc[j]? = some (i, a) ∧ μ[l]? = some a ∧ a ∈ oc.map (·.2) := fun {l} m => by
    obtain ⟨j, hj, e⟩ := List.mem_iff_getElem.mp m
    have hj' : j < oc.length := by rw [← s.ocl]; exact hj
    have e1 : r.cl[j]? = some l := by rw [List.getElem?_eq_getElem hj, e]
    have e2 : oc[j]? = some ((oc[j]).1, (oc[j]).2) := by rw [List.getElem?_eq_getElem hj']
    exact ⟨j, _, _, e1, e2, (s.own j l _ _ e1 e2).1, List.mem_map.mpr ⟨_, List.mem_of_getElem? e2, rfl⟩⟩
  have notown : ∀ {l : Nat} {a : Addr}, l ∉ r.cl → μ[l]? = some a → a ∉ oc.map (·.2) := fun {l a} nl e m => s.notAt (na a m) ⟨l, nl, e⟩
  refine ⟨s.len, fun l l' a _ _ e1 e2 => ?_, fun l o a e1 e2 _ => ?_, rfl, fun j l i a e1 _ => by simp at e1, Nat.zero_le _, fun i d e => by simp at e, List.nodup_nil, s.tab.ext fun b o e => frzH_keep na e⟩
  · by_cases m : l ∈ r.cl
    · obtain ⟨j, i, a1, c1, c2, c3, c4⟩ := own m
      rw [e1] at c3
      cases c3
      by_cases m' : l' ∈ r.cl
      · obtain ⟨j', i', a2, d1, d2, d3, d4⟩ := own m'
        rw [e2] at d3
        cases d3
        have := ci j j' i i' a c2 d2
        subst this
        rw [c1] at d1
        exact Option.some.inj d1
      · exact absurd c4 (notown m' e2)
    · by_cases m' : l' ∈ r.cl
      · obtain ⟨j', i', a2, d1, d2, d3, d4⟩ := own m'
        rw [e2] at d3
        cases d3
        exact absurd d4 (notown m e1)
      · exact s.inj l l' a m m' e1 e2
  · by_cases m : l ∈ r.cl
    · obtain ⟨j, i, a1, c1, c2, c3, c4⟩ := own m
      rw [e2] at c3
      cases c3
      obtain ⟨_, d, f1, f2⟩ := s.own j l i a c1 c2
      rw [e1] at f1
      cases f1
      obtain ⟨_, ob, u, g1, g2, g3⟩ := cf j i a c2
      refine ⟨_, frzH_in c4 g1, rfl, u, g2, fun x ex => ?_⟩
      obtain ⟨v, h1, h2⟩ := f2 x ex
      obtain ⟨w, k1, k2⟩ := g3 v h1
      exact ⟨v, w, k1, k2, h2.mono kp⟩
    · obtain ⟨u, a1, a2⟩ := s.ob l o a e1 e2 m
      exact ⟨u, frzH_keep na a1, a2.mono kp⟩
theorem back_len : ∀ (cl : List Nat) (h h' : Hh), (back cl h h').length = h'.length
  | [], _, _ => rfl
  | l :: ls, h, h' => by
    unfold back
    split
    · rw [back_len ls, List.length_set]
    · exact back_len ls h h'
theorem back_out : ∀ {cl : List Nat} {h h' : Hh} {k : Nat}, k ∉ cl → (back cl h h')[k]? = h'[k]?
  | [], _, _, _, _ => rfl
  | l :: ls, h, h', k, m => by
    rw [List.mem_cons, not_or] at m
    unfold back
    split
    · rw [back_out m.2, List.getElem?_set_ne (Ne.symm m.1)]
    · exact back_out m.2
theorem back_in : ∀ {cl : List Nat} {h h' : Hh} {k : Nat} {o : Ob}, k ∈ cl → h[k]? = some o → k < h'.length → (back cl h h')[k]? = some o
  | l :: ls, h, h', k, o, m, e, hl => by
    unfold back
    rw [nth_eq]
    by_cases mk : k ∈ ls
    · split
      · exact back_in mk e (by rw [List.length_set]; exact hl)
      · exact back_in mk e hl
    · have ek : k = l := (List.mem_cons.mp m).resolve_right mk
      subst ek
      rw [e]
      simp only
      rw [back_out mk, List.getElem?_set_self hl]
/-- the frame's cells thawed -/
theorem Sr.unfreeze (s : Sr G oc μ r h σ H) {hp : Heap} (na : ∀ a ∈ oc.map (·.2), H a = none) (g : Gr [] μ (frzH H hp (oc.map (·.2))) μ' H') (s' : HRel G μ' h' H') (kept : ∀ a ∈ oc.map (·.2), ∃ o, hp.get? a = some o ∧ H' a = some (.frz o (.own 0))) :
    Sr G oc μ' r (Y.back r.cl h h') σ (thaw H' (oc.map (·.2))) ∧ Gr r.cl μ H μ' (thaw H' (oc.map (·.2))) := by
  have ki : ∀ b o, H' b = some o → (∀ x, o ≠ .frz x (.own 0)) → thaw H' (oc.map (·.2)) b = some o := fun b o e ne => by
    rw [thaw_out fun m => by obtain ⟨x, _, z⟩ := kept b m; rw [z] at e; cases e; exact ne x rfl]; exact e
  have kt : Kp μ' H' μ' (thaw H' (oc.map (·.2))) := ⟨⟨[], by simp⟩, fun b o e i => ki b o e fun x z => by subst z; exact i⟩
  have k0 : Kp μ H μ (frzH H hp (oc.map (·.2))) := keep_kp fun b o e => frzH_keep na e
  have kall : Kp μ H μ' (thaw H' (oc.map (·.2))) := (k0.trans g.kp).trans kt
  have pre := g.pre
  have notown : ∀ {l : Nat} {a : Addr}, l < μ.length → l ∉ r.cl → μ[l]? = some a → a ∉ oc.map (·.2) := fun {l a} _ nl e m => s.notAt (na a m) ⟨l, nl, e⟩
  have ownA : ∀ {l : Nat}, l ∈ r.cl → ∃ j i a d, r.cl[j]? = some l ∧ oc[j]? = some (i, a) ∧ μ[l]? = some a ∧ a ∈ oc.map (·.2) ∧ h[l]? = some (Ob.cell d) ∧ ∀ x, d = some x → ∃ v, σ[i]? = some (some v) ∧ RD G μ H x v := fun {l} m => by
    obtain ⟨j, hj, e⟩ := List.mem_iff_getElem.mp m
    have hj' : j < oc.length := by rw [← s.ocl]; exact hj
    have e1 : r.cl[j]? = some l := by rw [List.getElem?_eq_getElem hj, e]
    have e2 : oc[j]? = some ((oc[j]).1, (oc[j]).2) := by rw [List.getElem?_eq_getElem hj']
    obtain ⟨c1, d, c2, c3⟩ := s.own j l _ _ e1 e2
    exact ⟨j, _, _, d, e1, e2, c1, List.mem_map.mpr ⟨_, List.mem_of_getElem? e2, rfl⟩, c2, c3⟩
  have lt : ∀ {l : Nat}, l ∈ r.cl → l < h'.length := fun {l} m => by
    obtain ⟨_, _, a, _, _, _, e, _⟩ := ownA m
    have e2 : μ'[l]? = some a := Kp.get g.kp e
    rw [← s'.len]
    exact (List.getElem?_eq_some_iff.mp e2).1
  -- places of cells alone bear the cells' addresses
  have cellAt : ∀ {l : Nat} {a : Addr}, μ'[l]? = some a → a ∈ oc.map (·.2) → l ∈ r.cl := fun {l a} e m => by
    obtain ⟨p, hp', ep⟩ := List.mem_map.mp m
    obtain ⟨j, hj⟩ := List.mem_iff_getElem?.mp hp'
    have hjl : j < r.cl.length := by rw [s.ocl]; exact (List.getElem?_eq_some_iff.mp hj).1
    have e1 : r.cl[j]? = some (r.cl[j]) := List.getElem?_eq_getElem hjl
    obtain ⟨c1, _⟩ := s.own j _ p.1 p.2 e1 hj
    have c2 : μ'[r.cl[j]]? = some p.2 := Kp.get g.kp c1
    rw [ep] at c2
    have := s'.inj l (r.cl[j]) a (by simp) (by simp) e c2
    rw [this]
    exact List.getElem_mem hjl
  refine ⟨⟨by rw [back_len]; exact s'.len, fun l l' a n1 n2 e1 e2 => s'.inj l l' a (by simp) (by simp) e1 e2, fun l o a e1 e2 nl => ?_, s.ocl, fun j l i a e1 e2 => ?_, s.sll, fun i d e ni => ?_, s.cln, ?_⟩, ⟨pre, fun b hb => ?_, fun b o e z nt => ?_, fun b ps e => ?_⟩⟩
  · rw [back_out nl] at e1
    obtain ⟨u, a1, a2⟩ := s'.ob l o a e1 e2 (by simp)
    exact ⟨u, by rw [thaw_out fun m => nl (cellAt e2 m)]; exact a1, a2.mono kt⟩
  · obtain ⟨c1, d, c2, c3⟩ := s.own j l i a e1 e2
    refine ⟨Kp.get g.kp c1, d, back_in (List.mem_of_getElem? e1) c2 (lt (List.mem_of_getElem? e1)), fun x ex => ?_⟩
    obtain ⟨v, f1, f2⟩ := c3 x ex
    exact ⟨v, f1, f2.mono kall⟩
  · obtain ⟨v, f1, f2⟩ := s.sl i d e ni
    exact ⟨v, f1, f2.mono kall⟩
  · intro p hp'
    obtain ⟨ps, h1, h2, h3⟩ := s'.tab p hp'
    refine ⟨ps, ki _ _ h1 (fun _ z => by cases z), h2, fun pos cv hc => ?_⟩
    obtain ⟨c, e1, e2⟩ := h3 pos cv hc
    exact ⟨c, e1, ki _ _ e2 (fun x z => by unfold LamX.CodeO at z; cases z)⟩
  · obtain ⟨l, nl, e⟩ := hb
    rcases g.fresh b ⟨l, by simp, e⟩ with ⟨l2, _, z⟩ | z
    · refine .inl ⟨l2, fun m => ?_, z⟩
      have := s'.inj l l2 b (by simp) (by simp) e (Kp.get g.kp z)
      exact nl (this ▸ m)
    · refine .inr ?_
      by_cases m : b ∈ oc.map (·.2)
      · exact na b m
      · rw [frzH_out m] at z; exact z
  · have m : b ∉ oc.map (·.2) := fun m => by rw [na b m] at e; cases e
    rw [thaw_out m]
    refine g.keep b o (frzH_keep na e) ?_ nt
    rcases z with z | z
    · refine .inl fun ⟨l, _, q⟩ => z ⟨l, fun ml => ?_, q⟩
      obtain ⟨_, _, a, _, _, _, q2, q3, _⟩ := ownA ml
      rw [q] at q2
      cases q2
      exact m q3
    · exact .inr z
  · have m : b ∉ oc.map (·.2) := fun m => by rw [na b m] at e; cases e
    obtain ⟨ps', z⟩ := g.tbl b ps (frzH_keep na e)
    exact ⟨ps', by rw [thaw_out m]; exact z⟩
end
end Y

/-! Y16: calls of defs and lambdas. -/
namespace Y
open PySem PySem.Spec PyProof.Rows L2
/-- the world of a run -/
structure Wd where
  P : Program
  w : World
  K : PySem.W.Frag
  mg : Str → Option Value
  base : Heap
/-- what is wanted behind a callee's run -/
def AftC (G : Gd) (μ : List Addr) (H : Hp) (Q : VK) (E : XK) (m : Res D) : Prop := match m with
  | .ok d h' => ∀ μ' v H', Gr [] μ H μ' H' → HRel G μ' h' H' → RD G μ' H' d v → Q v H'
  | .exn c fs h' => ∀ μ' cls dd H', Gr [] μ H μ' H' → HRel G μ' h' H' → RX G μ' H' c fs cls dd → E cls dd H'
  | .bad => False
/-- what calls promise: any def, any lambda, k levels deep -/
def CC (M : Wd) (G : Gd) (cs : CSem) (k : Nat) : Prop := ∀ (d : D) (a : Addr) (A : Around) (outer : List Env) (s : Shared) (H : Hp) (us : List Value) (vs : List V) (Q : VK) (E : XK) (μ : List Addr) (h : Hh) (ds : List D),
  Room k A → A.guards = some [] → Env0 M.P M.w M.K M.mg M.base A outer s H → RD G μ H d (.ref a) → Vals vs us → HRel G μ h H → RDs G μ H ds vs → AftC G μ H Q E (calV cs d ds h) →
    PySem.W.FnAt a s.heap ∧ codeAny (model M.P M.w) A (.call (.ref a) ⟨us, []⟩) (CR (L2.CX M.P M.w) outer M.P M.w H s Q E) s
abbrev wd (X : Cx) : Wd := ⟨X.prog, X.w, X.K, X.mg, X.base⟩
/-- the frame's own cells stand where the configuration says -/
structure OwnC (X : Cx) (C : Cfg) : Prop where
  at_ : ∀ (pn : List (Addr × Obj)) (xe : Value → Shared → Prop) (pins : List (Addr × Obj)) (σ : L2.St) (H : Hp) (s : Shared), Inv (X.tr pn xe) pins σ H s → ∀ (j i : Nat) (a : Addr), C.oc[j]? = some (i, a) →
    H a = none ∧ X.base.get? a = none ∧ a ∉ frs X.stack ∧ ∃ o u, s.heap.get? a = some o ∧ o.data = .cell u ∧ ∀ v, σ[i]? = some (some v) → ∃ w, u = some w ∧ RelV v w
  inj : ∀ (j j' i i' : Nat) (a : Addr), C.oc[j]? = some (i, a) → C.oc[j']? = some (i', a) → j = j'
theorem OwnC.nil {X : Cx} {C : Cfg} (e : C.oc = []) : OwnC X C := ⟨fun _ _ _ _ _ _ _ j i a q => by rw [e] at q; simp at q, fun j j' i i' a q => by rw [e] at q; simp at q⟩
theorem RX.mono {G : Gd} {μ μ' : List Addr} {H H' : Hp} {c : Nat} {fs : List D} {cls : Value} {dd : Option Addr} (k : Kp μ H μ' H') (kx : ∀ d ws, H d = some (.xd ws) → H' d = some (.xd ws)) (h : RX G μ H c fs cls dd) : RX G μ' H' c fs cls dd := by
  obtain ⟨e0, e1, d, ws, e2, e3, e4, e5⟩ := h
  refine ⟨e0, e1, d, ws, e2, kx d ws e3, e4, fun k' x f q1 q2 => ?_⟩
  obtain ⟨v, a1, a2⟩ := e5 k' x f q1 q2
  exact ⟨v, a1, a2.mono k⟩
section
variable {X : Cx} {C : Cfg} {pos : Pos} {k : Nat}
theorem ex_of {pins : List (Addr × Obj)} {σ : L2.St} {H : Hp} {s : Shared} {as : List Addr} {oc : List (Nat × Addr)} (e : as = oc.map (·.2)) {p : Addr → Prop} (h : ∀ (j i : Nat) (a : Addr), oc[j]? = some (i, a) → p a) : ∀ a ∈ as, p a := fun a m => by
  rw [e] at m
  obtain ⟨q, hq, eq⟩ := List.mem_map.mp m
  obtain ⟨j, hj⟩ := List.mem_iff_getElem?.mp hq
  exact eq ▸ h j q.1 q.2 hj
/-- what a callee does, told of a computation m -/
def CCm (M : Wd) (G : Gd) (A : Around) (outer : List Env) (a : Addr) (d : D) (ds : List D) (μ : List Addr) (h : Hh) (m : Res D) : Prop := ∀ (s : Shared) (H : Hp) (us : List Value) (vs : List V) (Q : VK) (E : XK),
  Env0 M.P M.w M.K M.mg M.base A outer s H → RD G μ H d (.ref a) → Vals vs us → HRel G μ h H → RDs G μ H ds vs → AftC G μ H Q E m →
    PySem.W.FnAt a s.heap ∧ codeAny (model M.P M.w) A (.call (.ref a) ⟨us, []⟩) (CR (L2.CX M.P M.w) outer M.P M.w H s Q E) s
/-- a call of a def, a lambda: from a body, the own cells frozen meanwhile -/
theorem run_m {m : Res D} {d : D} {a : Addr} {ds : List D} {μ : List Addr} {h : Hh} (cc : CCm (wd X) C.G X.A X.stack a d ds μ h m) (tk : Takes X C.W) (ow : OwnC X C) {pins : List (Addr × Obj)} {σ : L2.St} {H : Hp} {s : Shared} {Q : VK} {us : List Value} {vs : List V} {ρ : Rho}
    (I : Inv X pins σ H s) (r : Vals vs us) (sr : Sr C.G C.oc μ ρ h σ H) (rd : RD C.G μ H d (.ref a)) (rs : RDs C.G μ H ds vs) (af : Aft C (RV C) μ ρ σ H (m.back ρ.cl h) Q) : PySem.W.FnAt a s.heap ∧ wpAny (model X.prog X.w) X.A (call (.ref a) us) (EP X pins σ Q) X.xe s := by
  have at_ := ow.at_ X.pn X.xe pins σ H s I
  have na : ∀ a ∈ C.oc.map (·.2), H a = none := ex_of (pins := pins) (σ := σ) (H := H) (s := s) rfl fun j i a e => (at_ j i a e).1
  have nb : ∀ a ∈ C.oc.map (·.2), X.base.get? a = none := ex_of (pins := pins) (σ := σ) (H := H) (s := s) rfl fun j i a e => (at_ j i a e).2.1
  have nf : ∀ a ∈ C.oc.map (·.2), a ∉ frs X.stack := ex_of (pins := pins) (σ := σ) (H := H) (s := s) rfl fun j i a e => (at_ j i a e).2.2.1
  have hc : ∀ a ∈ C.oc.map (·.2), ∃ o, s.heap.get? a = some o := ex_of (pins := pins) (σ := σ) (H := H) (s := s) rfl fun j i a e => by
    obtain ⟨_, _, _, o, _, z, _⟩ := at_ j i a e
    exact ⟨o, z⟩
  have hrel : HRel C.G μ h (frzH H s.heap (C.oc.map (·.2))) := sr.freeze (fun j i a e => by obtain ⟨z1, _, _, z2⟩ := at_ j i a e; exact ⟨z1, z2⟩) ow.inj
  have k0 : Kp μ H μ (frzH H s.heap (C.oc.map (·.2))) := keep_kp fun b o e => frzH_keep na e
  let Kept : Hp → Prop := fun H' => ∀ a ∈ C.oc.map (·.2), ∃ o, s.heap.get? a = some o ∧ H' a = some (.frz o (.own 0))
  have kt : ∀ {μ' : List Addr} {H' : Hp}, Kept H' → Kp μ' H' μ' (thaw H' (C.oc.map (·.2))) := fun {μ' H'} kept => ⟨⟨[], by simp⟩, fun b o e i => by
    rw [thaw_out fun m => by obtain ⟨x, _, z⟩ := kept b m; rw [z] at e; cases e; exact i]; exact e⟩
  have af2 : AftC C.G μ (frzH H s.heap (C.oc.map (·.2))) (fun v H' => Kept H' → Q v (thaw H' (C.oc.map (·.2)))) (fun c dd H' => Kept H' → C.W c dd σ (thaw H' (C.oc.map (·.2)))) m := by
    cases q : m with
    | bad => rw [q] at af; exact af
    | ok d' h' =>
      rw [q] at af
      intro μ' v H' g s' rd' kept
      obtain ⟨s3, g3⟩ := sr.unfreeze na g s' kept
      exact af μ' v _ g3 s3 (RD.mono (kt kept) rd')
    | exn c fs h' =>
      rw [q] at af
      intro μ' cls dd H' g s' rx kept
      obtain ⟨s3, g3⟩ := sr.unfreeze na g s' kept
      exact af μ' cls dd _ g3 s3 (RX.mono (kt kept) (fun d ws e => by rw [thaw_out fun m => by obtain ⟨x, _, z⟩ := kept d m; rw [z] at e; cases e]; exact e) rx)
  obtain ⟨fa, run⟩ := cc s _ us vs _ _ (Y.Env0.frz I.env0 na nb nf) (rd.mono k0) r hrel (rs.mono k0) af2
  refine ⟨fa, wpAny_call (codeAny_mono run fun rs' s' hq => ?_)⟩
  have hq2 : CR (L2.CX X.prog X.w) X.stack X.prog X.w H s Q (fun c dd H' => C.W c dd σ H') rs' s' := cr_thaw na hc (fun v H' kept q => q kept) (fun c dd H' kept q => q kept) hq
  cases rs' with
  | error e => exact tk e s' (XE.of_call (W := C.W) (E := fun c dd H' => C.W c dd σ H') I (fun _ _ _ z => z) hq2)
  | ok fl =>
    cases fl with
    | ret u => exact I.after hq2
    | next => exact False.elim hq2
    | brk => exact False.elim hq2
    | cont => exact False.elim hq2
theorem run_c (cc : CC (wd X) C.G C.cs k) (hr : Room k X.A) (hgd : X.A.guards = some []) (tk : Takes X C.W) (ow : OwnC X C) {pins : List (Addr × Obj)} {σ : L2.St} {H : Hp} {s : Shared} {Q : VK} {us : List Value} {vs : List V} {μ : List Addr} {ρ : Rho} {h : Hh} {d : D} {a : Addr} {ds : List D}
    (I : Inv X pins σ H s) (r : Vals vs us) (sr : Sr C.G C.oc μ ρ h σ H) (rd : RD C.G μ H d (.ref a)) (rs : RDs C.G μ H ds vs) (af : Aft C (RV C) μ ρ σ H ((calV C.cs d ds h).back ρ.cl h) Q) : PySem.W.FnAt a s.heap ∧ wpAny (model X.prog X.w) X.A (call (.ref a) us) (EP X pins σ Q) X.xe s :=
  run_m (fun s H us vs Q E e0 rd r hrel rs af => cc d a X.A X.stack s H us vs Q E μ h ds hr hgd e0 rd r hrel rs af) tk ow I r sr rd rs af
theorem tE_call {mes : SL} {d : D} {σ : L2.St} {H : Hp} {Q : VK} {f : CSem → List D → Hh → Res D} (h : tE C (fun cs r h => (mes cs r h).bind fun ds h1 => (f cs ds h1).back r.cl h1) σ H Q) :
    tA C mes σ H fun vs H1 => ∃ μ ρ h ds, Sr C.G C.oc μ ρ h σ H1 ∧ RDs C.G μ H1 ds vs ∧ Aft C (RV C) μ ρ σ H1 ((f C.cs ds h).back ρ.cl h) Q := by
  obtain ⟨μ, r, h, s, a⟩ := h
  refine ⟨μ, r, h, s, (Aft.bind (R := RVs C) a).imp fun vs H1 z => ?_⟩
  obtain ⟨μ1, ds, h1, g1, s1, rs, a1⟩ := z
  exact ⟨μ1, r, h1, ds, s1, rs, a1⟩
section
variable {x : Str} {p : Pos} {e : Expr} {es : List Expr} {mes : SL} {f : Nat}
theorem fnAt_K {pins : List (Addr × Obj)} {σ : L2.St} {H : Hp} {s : Shared} (I : Inv X pins σ H s) {a : Addr} (h : ∃ oc od fd osl, X.K.lookup a = some ⟨oc, od, .func fd, osl⟩) : PySem.W.FnAt a s.heap := by
  obtain ⟨oc, od, fd, osl, e⟩ := h
  exact ⟨oc, od, fd, osl, I.kIn _ _ e⟩
/-- f(e, ..), f a def of the module -/
theorem y_call (cc : CC (wd X) C.G C.cs k) (hr : Room k X.A) (hgd : X.A.guards = some []) (tk : Takes X C.W) (ow : OwnC X C) (hg : Gl X x) (hm : X.mg x = some (.ref (C.G.fadr f))) (hf : ∃ oc od fd osl, X.K.lookup (C.G.fadr f) = some ⟨oc, od, .func fd, osl⟩) (ha : PA X (e :: es) (tA C mes))
    (hdb : (x == ("__debug__" : Str)) = false) (he : starEach (e :: es) X.env = (false, eval e X.env) :: starEach es X.env) (hpl : (backTo pos (starEach es X.env)).any (·.1) = false) :
    PE X (.Call (.Name x p) (e :: es) [] pos) (tE C (kCall false f mes)) := by
  refine ⟨fun pins s σ H Q I h => ?_⟩
  refine wpAny_Call_Name_kw (ld_glob I hg hm ?_ hdb)
  have h2 := tE_call (d := .fn f) (f := fun cs ds h => cs (.fn f) ds h) h
  refine PySem.W.callWith_F (fnAt_K I hf) (thn (ha.run pos pins s σ H _ I h2) fun us s1 ⟨vs, H1, I1, r, μ, ρ, h', ds, sr, rs, af⟩ => ⟨fnAt_K I1 hf, ?_⟩) he hpl
  exact (run_c (d := .fn f) cc hr hgd tk ow I1 r sr (.fn f) rs af).2
theorem y_call0 (cc : CC (wd X) C.G C.cs k) (hr : Room k X.A) (hgd : X.A.guards = some []) (tk : Takes X C.W) (ow : OwnC X C) (hg : Gl X x) (hm : X.mg x = some (.ref (C.G.fadr f))) (hf : ∃ oc od fd osl, X.K.lookup (C.G.fadr f) = some ⟨oc, od, .func fd, osl⟩) 
    (hdb : (x == ("__debug__" : Str)) = false) : PE X (.Call (.Name x p) [] [] pos) (tE C (kCall false f aNil)) := by
  refine ⟨fun pins s σ H Q I h => ?_⟩
  refine wpAny_Call_Name_kw (ld_glob I hg hm ?_ hdb)
  obtain ⟨μ, ρ, h', sr, z⟩ := tE_call (d := .fn f) (f := fun cs ds h => cs (.fn f) ds h) h
  obtain ⟨μ2, ρ2, h2, ds, sr2, rs, af⟩ := z.ok sr .nil
  refine PySem.W.callWith_F0 (fnAt_K I hf) ?_
  exact (run_c (d := .fn f) cc hr hgd tk ow I .nil sr2 (.fn f) rs af).2
/-- a callee that is a value: v(e, ..) -/
theorem cval_mid {ma : SE} {σ : L2.St} {H : Hp} {Q : VK} (h : tE C (kCval ma mes) σ H Q) :
    tE C ma σ H fun x H1 => ∃ μ1 r d h1, Sr C.G C.oc μ1 r h1 σ H1 ∧ RD C.G μ1 H1 d x ∧ isCal d = true ∧ Aft C (RVs C) μ1 r σ H1 (mes C.cs r h1) fun vs H2 => ∃ μ2 ds h2, Gr r.cl μ1 H1 μ2 H2 ∧ Sr C.G C.oc μ2 r h2 σ H2 ∧ RDs C.G μ2 H2 ds vs ∧ Aft C (RV C) μ2 r σ H2 ((calV C.cs d ds h2).back r.cl h2) Q := by
  obtain ⟨μ, r, h, s, a⟩ := h
  refine ⟨μ, r, h, s, (Aft.bind (R := RV C) a).imp fun x H1 z => ?_⟩
  obtain ⟨μ1, d, h1, g1, s1, rd1, a1⟩ := z
  split at a1
  · rename_i hc
    exact ⟨μ1, r, d, h1, s1, rd1, hc, (Aft.bind (R := RVs C) a1).imp fun vs H2 z => z⟩
  · exact a1.elim
/-- all places of defs bear defs -/
def AllF (K : PySem.W.Frag) (G : Gd) : Prop := ∀ i, ∃ oc od fd osl, K.lookup (G.fadr i) = some ⟨oc, od, .func fd, osl⟩
theorem cal_at {pins : List (Addr × Obj)} {σ : L2.St} {H : Hp} {s : Shared} (hF : AllF X.K C.G) (I : Inv X pins σ H s) {μ : List Addr} {d : D} {v : V} (rd : RD C.G μ H d v) (hc : isCal d = true) : ∃ a, v = .ref a ∧ PySem.W.FnAt a s.heap := by
  cases rd with
  | p _ => cases hc
  | ref _ => cases hc
  | fn i => exact ⟨_, rfl, fnAt_K I (hF i)⟩
  | clo h =>
    obtain ⟨_, _, cl, pm, ctv, c', e1, _⟩ := h
    obtain ⟨e2, _⟩ := I.hok _ _ e1
    exact ⟨_, rfl, _, _, _, _, e2⟩
  | tup _ _ => cases hc
  | lst _ _ => cases hc
theorem y_cval (cc : CC (wd X) C.G C.cs k) (hr : Room k X.A) (hgd : X.A.guards = some []) (tk : Takes X C.W) (ow : OwnC X C) (hF : AllF X.K C.G) {ma : SE} (hx : PE X (.Name x p) (tE C ma)) (ha : PA X (e :: es) (tA C mes))
    (he : starEach (e :: es) X.env = (false, eval e X.env) :: starEach es X.env) (hpl : (backTo pos (starEach es X.env)).any (·.1) = false) : PE X (.Call (.Name x p) (e :: es) [] pos) (tE C (kCval ma mes)) := by
  refine ⟨fun pins s σ H Q I h => ?_⟩
  refine wpAny_Call_Name_kw (thn (hx.run pins s σ H _ I (cval_mid h)) fun u s0 ⟨v, H0, I0, r0, μ1, r, d, h1, s1, rd1, hc, a1⟩ => ?_)
  obtain ⟨a, rfl, fa⟩ := cal_at hF I0 rd1 hc
  obtain rfl : u = Value.ref a := r0
  refine PySem.W.callWith_F fa (thn (ha.run pos pins s0 σ H0 _ I0 ⟨μ1, r, h1, s1, a1⟩) fun us s2 ⟨vs, H2, I2, r2, μ2, ds, h2, g2, sr2, rs, af⟩ => ?_) he hpl
  exact run_c cc hr hgd tk ow I2 r2 sr2 (rd1.mono g2.kp) rs af
theorem y_cval0 (cc : CC (wd X) C.G C.cs k) (hr : Room k X.A) (hgd : X.A.guards = some []) (tk : Takes X C.W) (ow : OwnC X C) (hF : AllF X.K C.G) {ma : SE} (hx : PE X (.Name x p) (tE C ma)) : PE X (.Call (.Name x p) [] [] pos) (tE C (kCval ma aNil)) := by
  refine ⟨fun pins s σ H Q I h => ?_⟩
  refine wpAny_Call_Name_kw (thn (hx.run pins s σ H _ I (cval_mid h)) fun u s0 ⟨v, H0, I0, r0, μ1, r, d, h1, s1, rd1, hc, a1⟩ => ?_)
  obtain ⟨a, rfl, fa⟩ := cal_at hF I0 rd1 hc
  obtain rfl : u = Value.ref a := r0
  refine PySem.W.callWith_F0 fa ?_
  obtain ⟨μ2, ds, h2, g2, sr2, rs, af⟩ := a1.ok s1 .nil
  exact (run_c cc hr hgd tk ow I0 .nil sr2 (rd1.mono g2.kp) rs af).2
end
end
end Y

/-! Y17: lambdas made. -/
namespace Y
open PySem PySem.Spec PyProof.Rows L2
/-- a lambda's object -/
abbrev lamObj (X : Cx) (params : Arguments) (body : Expr) (scope : Scope) (pm : Value) (c' : Addr) (ctv : Value) : Obj :=
  PySem.W.kla_obj "<lambda>" (X.env.qual ++ "<lambda>") params body scope (cloFrom X.env.cells scope.names []) pm c' ctv
theorem cloO_ok {P : Program} {w : World} {H : Hp} {h : Heap} {a : Addr} {o : Obj} (e : h.get? a = some o) : ObjOk P w H h a (CloO a o) := ⟨e, ⟨o, e⟩, fun h1 h2 z st => st o z⟩
section
variable {X : Cx} {C : Cfg} {pos : Pos}
/-- the lambda is made and known from now on -/
theorem lam_makeY {pins : List (Addr × Obj)} {σ : L2.St} {H : Hp} {s : Shared} {T : List (Addr × Str)} {c P : Addr} {params : Arguments} {body : Expr} {scope : Scope} {E : Value → Shared → Prop} {Q : Value → Shared → Prop} (I : Inv X pins σ H s) (TB : LamX.TabB X.base X.mg c P) (hcode : X.env.code = .ref c)
    (hm : (P, X.env.qual ++ "<lambda>") ∈ T) (hu : ∀ p ∈ T, p.1 = P → p.2 = X.env.qual ++ "<lambda>") (hT : LamX.Tabs T H) (hdef : defaultsOf params X.env = ([], [])) (hfree : ∀ y ∈ scope.names, y.2 = .free → ∃ c, X.env.cells.lookup y.1 = some c)
    (hQ : ∀ (f c' : Addr) (pm ctv : Value) (H1 : Hp) (s' : Shared), Inv X pins σ H1 s' → LamX.ExtN H H1 → (∀ b ps, H b = some (.tbl ps) → ∃ ps', H1 b = some (.tbl ps')) → LamX.Tabs T H1 → H1 f = some (CloO f (lamObj X params body scope pm c' ctv)) → H1 c' = some (LamX.CodeO c' (X.env.qual ++ "<lambda>")) → Q (.ref f) s') :
    wpAny (model X.prog X.w) X.A (eval (.Lambda params body scope pos) X.env) Q E s := by
  have told := hT _ hm
  obtain ⟨ps, hP, ht, ha⟩ := told
  refine PySem.W.kla_eval hdef ?_
  have blt : s.heap.BuiltinsAt X.mg P := TB.bm.keeps I.bk
  have tabP : s.heap.get? P = some { cls := .none, data := .fields ps } := I.hok P _ hP
  -- the object laid behind a state
  have lay : ∀ {H1 : Hp} {h' : Heap} {tk : Nat} {c' : Addr} {ctv : Value}, Inv X pins σ H1 { s with heap := h', toks := tk } → s.heap.objs.size ≤ h'.objs.size → LamX.ExtN H H1 → (∀ b ps, H b = some (.tbl ps) → ∃ ps', H1 b = some (.tbl ps')) → LamX.Tabs T H1 → H1 c' = some (LamX.CodeO c' (X.env.qual ++ "<lambda>")) →
      Q (.ref h'.objs.size) { s with heap := h'.push (lamObj X params body scope ((X.mg "__name__").getD .none) c' ctv), toks := tk } := fun {H1 h' tk c' ctv} J hs ex tb ts hc' => by
    have nf : H1 h'.objs.size = none := J.hok.fresh (Nat.le_refl _)
    have keep : ∀ b o, H1 b = some o → upd H1 h'.objs.size (CloO h'.objs.size (lamObj X params body scope ((X.mg "__name__").getD .none) c' ctv)) b = some o := keep_laid nf
    have J2 := J.laid (a := h'.objs.size) (o := CloO h'.objs.size (lamObj X params body scope ((X.mg "__name__").getD .none) c' ctv)) (h' := h'.push (lamObj X params body scope ((X.mg "__name__").getD .none) c' ctv)) (t' := tk)
      (fun _ _ q => Heap.get?_push_of_some _ q) (Nat.le_refl _) (cloO_ok (Heap.get?_push_size _ rfl))
    exact hQ _ c' _ ctv _ _ J2 (ex.trans (.of keep)) (fun b ps e => by obtain ⟨ps', z⟩ := tb b ps e; exact ⟨ps', keep _ _ z⟩) (ts.ext keep) upd_same (keep _ _ hc')
  cases hcm : codeAmong pos ps.toList with
  | some cv =>
    obtain ⟨c', rfl, hco⟩ := ha pos cv hcm
    refine PySem.W.kla_makeFunctionHit (mg := X.mg) (c := c) (P := P) (ps := ps) (closure_ok hfree) I.ok.glob (I.mod.glob.keeps I.bk) hcode (TB.code.keeps I.bk) tabP ht hcm blt fun ctv h' tk hx hsz => ?_
    exact lay (I.kept (t' := tk) hx) hsz (.refl H) (fun b ps e => ⟨ps, e⟩) hT hco
  | none =>
    refine PySem.W.kla_makeFunction (mg := X.mg) (c := c) (P := P) (ps := ps) (closure_ok hfree) I.ok.glob (I.mod.glob.keeps I.bk) hcode (TB.code.keeps I.bk) tabP ht hcm TB.gP blt fun c' ctv h' tk hx hge hlt hrec htb => ?_
    obtain ⟨c2, oc, vs, t, e2, hoc, hd, hv⟩ := hrec
    cases e2
    have nC : H c' = none := I.hok.fresh hge
    have J := LamX.inv_table (t' := tk) (more := #[rawInt pos.line, rawInt pos.col, .ref c']) (h' := h') I hP (fun b o hb e => hx b o hb e) htb hge ⟨oc, vs, t, hoc, hd, hv⟩
    have neP : ∀ {b : Addr} {o : HO}, H b = some o → (∀ ps, o ≠ .tbl ps) → b ≠ P := fun {b o} e n z => n ps (Option.some.inj (e.symm.trans (z ▸ hP)))
    have ex : LamX.ExtN H (upd (upd H P (.tbl (ps ++ #[rawInt pos.line, rawInt pos.col, .ref c']))) c' (LamX.CodeO c' (X.env.qual ++ "<lambda>"))) := fun b o e n => by
      rw [upd_ne (ne_of_none e nC), upd_ne (neP e n)]; exact e
    have eL : (ps ++ #[rawInt pos.line, rawInt pos.col, .ref c']).toList = ps.toList ++ [rawInt pos.line, rawInt pos.col, .ref c'] := by simp
    refine lay J (Nat.le_trans hge (Nat.le_of_lt hlt)) ex (fun b qs e => ?_) (fun p hp => ?_) upd_same
    · by_cases hb : b = P
      · subst hb
        exact ⟨_, by rw [upd_ne (ne_of_none hP nC), upd_same]⟩
      · exact ⟨qs, by rw [upd_ne (ne_of_none e nC), upd_ne hb]; exact e⟩
    · by_cases hb : p.1 = P
      · rw [hu p hp hb, hb]
        refine ⟨_, by rw [upd_ne (ne_of_none hP nC), upd_same], by rw [eL]; exact PySem.TriplesOk_snoc _ _ _ _ ht, fun p' cv hcv => ?_⟩
        rw [eL] at hcv
        rcases LamX.among_app _ ht hcv with z | z
        · obtain ⟨c0, e1, e2⟩ := ha p' cv z
          exact ⟨c0, e1, ex _ _ e2 LamX.codeO_ne⟩
        · exact ⟨c', z, upd_same⟩
      · obtain ⟨qs, a1, a2, a3⟩ := hT p hp
        refine ⟨qs, by rw [upd_ne (ne_of_none a1 nC), upd_ne hb]; exact a1, a2, fun p' cv hcv => ?_⟩
        obtain ⟨c0, e1, e2⟩ := a3 p' cv hcv
        exact ⟨c0, e1, ex _ _ e2 LamX.codeO_ne⟩
theorem locs_get : ∀ {js : List Nat} {cl ls : List Nat}, locs cl js = some ls → ls.length = js.length ∧ ∀ (n l : Nat), ls[n]? = some l → ∃ j, js[n]? = some j ∧ cl[j]? = some l
  | [], cl, ls, e => by cases e; exact ⟨rfl, fun n l h => by simp at h⟩
  | j :: js, cl, ls, e => by
    simp only [locs] at e
    split at e
    · rename_i l r e1 e2
      cases e
      obtain ⟨h1, h2⟩ := locs_get e2
      refine ⟨by rw [List.length_cons, List.length_cons, h1], fun n l' h => ?_⟩
      cases n with
      | zero => simp at h; subst h; rw [nth_eq] at e1; exact ⟨j, rfl, e1⟩
      | succ n => exact h2 n l' (by simpa using h)
    · cases e
/-- a closure's cells are the frame's -/
theorem clo_cells {cells : List (Str × Addr)} {scope : Scope} {y : Str} {a : Addr} (hy : (y, NameKind.free) ∈ scope.names) (e : cells.lookup y = some a) : (cloFrom cells scope.names []).lookup y = some a := by
  obtain ⟨c', hc⟩ := mem_lookup (cloFrom_has (cells := cells) (acc := []) hy)
  rcases cloFrom_mem (PySem.mem_of_lookup hc) with hm | ⟨_, h2⟩
  · cases hm
  · rw [hc, h2, e]; rfl
theorem clo_free {cells : List (Str × Addr)} {scope : Scope} {y : Str} {a : Addr} (e : (cloFrom cells scope.names []).lookup y = some a) : (y, NameKind.free) ∈ scope.names := by
  rcases cloFrom_mem (PySem.mem_of_lookup e) with hm | ⟨h1, _⟩
  · cases hm
  · exact h1
theorem y_lam {k : Nat} {js : List Nat} {c P : Addr} {params : Arguments} {body : Expr} {scope : Scope} {pos : Pos} (TB : LamX.TabB X.base X.mg c P) (hcode : X.env.code = .ref c) (hm : (P, X.env.qual ++ "<lambda>") ∈ C.G.T) (hu : ∀ p ∈ C.G.T, p.1 = P → p.2 = X.env.qual ++ "<lambda>")
    (hdef : defaultsOf params X.env = ([], [])) (hfree : ∀ y ∈ scope.names, y.2 = .free → ∃ c, X.env.cells.lookup y.1 = some c) {caps : List Str} (hk : C.G.lam k ⟨params, body, scope, X.env.qual ++ "<lambda>", caps⟩)
    (hj : js.length = caps.length) (hfc : ∀ y, (y, NameKind.free) ∈ scope.names → y ∈ caps) (hcap : ∀ (n j : Nat) (y : Str), js[n]? = some j → caps[n]? = some y → (y, NameKind.free) ∈ scope.names ∧ ∃ i a, C.oc[j]? = some (i, a) ∧ X.env.cells.lookup y = some a) :
    PE X (.Lambda params body scope pos) (tE C (kLam k js)) := by
  refine ⟨fun pins s σ H Q I hh => ?_⟩
  obtain ⟨μ, r, h, sr, a⟩ := hh
  unfold kLam at a
  split at a
  case h_2 => exact a.elim
  rename_i ls els
  obtain ⟨l1, l2⟩ := locs_get els
  refine lam_makeY I TB hcode hm hu sr.tab hdef hfree fun f c' pm ctv H1 s' I1 ex tb ts hf hc => ?_
  have g : Gr r.cl μ H μ H1 := ⟨⟨[], by simp⟩, fun _ z => .inl z, fun b o e _ n => ex b o e n, tb⟩
  have kp : Kp μ H μ H1 := g.kp
  have s1 : Sr C.G C.oc μ r h σ H1 := by
    refine ⟨sr.len, sr.inj, fun l o a e1 e2 e3 => ?_, sr.ocl, fun j l i a e1 e2 => ?_, sr.sll, fun i d e ni => ?_, sr.cln, ts⟩
    · obtain ⟨u, a1, a2⟩ := sr.ob l o a e1 e2 e3
      refine ⟨u, ex _ _ a1 fun ps z => ?_, a2.mono kp⟩
      subst z
      cases o <;> exact a2
    · obtain ⟨a1, d, a2, a3⟩ := sr.own j l i a e1 e2
      refine ⟨a1, d, a2, fun x ex' => ?_⟩
      obtain ⟨v, b1, b2⟩ := a3 x ex'
      exact ⟨v, b1, b2.mono kp⟩
    · obtain ⟨v, a1, a2⟩ := sr.sl i d e ni
      exact ⟨v, a1, a2.mono kp⟩
  refine ⟨.ref f, H1, I1, rfl, a μ (.ref f) H1 g s1 (.clo ?_)⟩
  refine ⟨_, hk, cloFrom X.env.cells scope.names [], pm, ctv, c', hf, hc, l1.trans hj, fun n l y e1 e2 => ?_, fun y c e => hfc y (clo_free e)⟩
  obtain ⟨j, e3, e4⟩ := l2 n l e1
  obtain ⟨hy, i, ca, e5, e6⟩ := hcap n j y e3 e2
  exact ⟨ca, (sr.own j l i ca e4 e5).1, clo_cells hy e6⟩
end
end Y

/-! Y18: a def's run. -/
namespace Y
open PySem PySem.Spec PyProof.Rows L2
/-! ### what was made is forgotten -/
section
variable {G : Gd} {μ t : List Addr} {H : Hp}
theorem CloR.cut {k : Nat} {ls : List Nat} {a : Addr} (e : (ls.all fun l => Nat.blt l μ.length) = true) (h : CloR G (μ ++ t) H k ls a) : CloR G μ H k ls a := by
  obtain ⟨t', ht, cl, pm, ctv, c', h1, h2, h3, h4, h5⟩ := h
  refine ⟨t', ht, cl, pm, ctv, c', h1, h2, h3, fun j l y e1 e2 => ?_, h5⟩
  obtain ⟨c, q1, q2⟩ := h4 j l y e1 e2
  have hl : l < μ.length := Nat.ble_eq.mp (List.all_eq_true.mp e l (List.mem_of_getElem? e1))
  exact ⟨c, by rw [List.getElem?_append_left hl] at q1; exact q1, q2⟩
mutual
theorem RD.cut : ∀ {d : D} {v : V}, oldOk μ.length d = true → RD G (μ ++ t) H d v → RD G μ H d v
  | _, _, _, .p h => .p h
  | _, _, e, .ref h => .ref (by
      simp only [oldOk] at e
      rw [List.getElem?_append_left (Nat.ble_eq.mp e)] at h; exact h)
  | _, _, _, .fn i => .fn i
  | _, _, e, .clo h => .clo (CloR.cut (by simpa only [oldOk] using e) h)
  | _, _, e, .tup h hs => .tup h (RDs.cut2 (by simpa only [oldOk] using e) hs)
  | _, _, e, .lst h hs => .lst h (RDs.cut2 (by simpa only [oldOk] using e) hs)
theorem RDs.cut2 : ∀ {d : List D} {v : List V}, oldsOk μ.length d = true → RDs G (μ ++ t) H d v → RDs G μ H d v
  | _, _, _, .nil => .nil
  | _, _, e, .cons h hs => by
    simp only [oldsOk, Bool.and_eq_true] at e
    exact .cons (RD.cut e.1 h) (RDs.cut2 e.2 hs)
end
theorem KR.cut {κ : Type} : ∀ {l : List (κ × D)} {m : List (κ × V)}, (l.all fun p => oldOk μ.length p.2) = true → KR G (μ ++ t) H l m → KR G μ H l m
  | _, _, _, .nil => .nil
  | _, _, e, .cons a b => by
    rw [List.all_cons, Bool.and_eq_true] at e
    exact .cons ⟨a.1, RD.cut e.1 a.2⟩ (KR.cut e.2 b)
theorem HR.cut : ∀ {o : Ob} {u : HO}, obOld μ.length o = true → HR G (μ ++ t) H o u → HR G μ H o u := by
  intro o
  induction o with
  | lst ds => intro u e h; cases u <;> first | exact h.elim | exact RDs.cut2 e h
  | dk kvs => intro u e h; cases u <;> first | exact h.elim | exact KR.cut e h
  | dt kvs => intro u e h; cases u <;> first | exact h.elim | exact KR.cut e h
  | lk o ih => intro u e h; cases u <;> first | exact h.elim | exact ih e h
  | ins c fs => intro u e h; cases u <;> first | exact h.elim | exact ⟨h.1, KR.cut e h.2⟩
  | cell d =>
    intro u e h
    cases u <;> first | exact h.elim | skip
    obtain ⟨z, x, a, b⟩ := h
    refine ⟨z, x, a, fun y ey => ?_⟩
    obtain ⟨v, w, q1, q2, q3⟩ := b y ey
    subst ey
    exact ⟨v, w, q1, q2, RD.cut e q3⟩
  | dead =>
    intro u e h
    cases u <;> first | exact h.elim | skip
    rename_i o u
    cases u <;> first | exact (show False from h).elim | exact h
end
/-! ### statements keep the frame's cells' places -/
theorem asgS_keeps {t : Tg} {x : D} {r r0 : Rho} {h : Hh} (e : r.cl = r0.cl) : (asgS t x r h).keeps r0 := by
  unfold asgS
  cases q : asgT t x r h with
  | none => trivial
  | some z => exact (asgT_cl t x r h z.1 z.2 q).trans e
theorem thenS_keeps {α : Type} {m : Res α} {r : Rho} {f : α → Hh → SR} (h : ∀ a h', (f a h').keeps r) : (thenS m r f).keeps r := by
  cases m with
  | ok a h' => exact h a h'
  | exn _ _ _ => rfl
  | bad => trivial
theorem keeps_trans {r r1 : Rho} {m : SR} (e : r1.cl = r.cl) (h : m.keeps r1) : m.keeps r := by
  cases m <;> first | trivial | exact Eq.trans h e
theorem turnS_keeps {r r1 : Rho} {m : SR} {f : Rho → Hh → SR} (e : r1.cl = r.cl) (h : m.keeps r1) (w : ∀ r' h', r'.cl = r.cl → (f r' h').keeps r) : (turnS m f).keeps r := by
  cases m with
  | nx r2 h2 => exact w _ _ (Eq.trans h e)
  | ct r2 h2 => exact w _ _ (Eq.trans h e)
  | bk r2 h2 => exact Eq.trans h e
  | rt _ _ => trivial
  | exn _ _ r2 _ => exact Eq.trans h e
  | bad => trivial
theorem forL_keeps {body : Rho → Hh → SR} {t : Tg} (hb : ∀ r h, (body r h).keeps r) : ∀ (xs : List D) (r : Rho) (h : Hh), (forL body t xs r h).keeps r
  | [], r, h => rfl
  | x :: xs, r, h => by
    simp only [forL]
    cases q : asgT t x r h with
    | none => trivial
    | some z =>
      have e := asgT_cl t x r h z.1 z.2 q
      exact turnS_keeps e (hb _ _) fun r' h' e' => keeps_trans e' (forL_keeps hb xs r' h')
theorem forW_keeps {w : Wk} {body : Rho → Hh → SR} {t : Tg} (hb : ∀ r h, (body r h).keeps r) : ∀ (k i : Nat) (r : Rho) (h : Hh), (forW w body t k i r h).keeps r
  | 0, i, r, h => by
    simp only [forW]
    split
    · rfl
    · trivial
  | k + 1, i, r, h => by
    simp only [forW]
    split
    · rename_i x _
      cases q : asgT t x r h with
      | none => trivial
      | some z =>
        have e := asgT_cl t x r h z.1 z.2 q
        exact turnS_keeps e (hb _ _) fun r' h' e' => keeps_trans e' (forW_keeps hb k (i + 1) r' h')
    · trivial
theorem forV_keeps {w : Wk} {body : Rho → Hh → SR} {t : Tg} (hb : ∀ r h, (body r h).keeps r) (r : Rho) (h : Hh) : (forV w body t r h).keeps r := by
  cases w with
  | fx ds => exact forL_keeps hb ds r h
  | rd l n => exact forW_keeps hb n 0 r h
theorem whileF_keeps {test : Rho → Hh → Res Bool} {body : Rho → Hh → SR} (hb : ∀ r h, (body r h).keeps r) : ∀ (n : Nat) (r : Rho) (h : Hh), (whileF test body n r h).keeps r
  | 0, _, _ => trivial
  | n + 1, r, h => by
    simp only [whileF]
    cases test r h with
    | bad => trivial
    | exn _ _ _ => rfl
    | ok b h1 =>
      cases b with
      | false => rfl
      | true =>
        have := hb r h1
        simp only
        cases q : body r h1 with
        | nx r2 h2 => rw [q] at this; exact keeps_trans this (whileF_keeps hb n r2 h2)
        | ct r2 h2 => rw [q] at this; exact keeps_trans this (whileF_keeps hb n r2 h2)
        | bk r2 h2 => rw [q] at this; exact this
        | rt _ _ => trivial
        | exn _ _ r2 _ => rw [q] at this; exact this
        | bad => trivial
theorem unlock_keeps {l : Nat} {o : Ob} {m : SR} {r : Rho} (h : m.keeps r) : (unlock l o m).keeps r := by
  cases m with
  | nx r2 h2 => simp only [unlock]; split <;> first | exact h | trivial
  | rt _ _ => simp only [unlock]; split <;> trivial
  | _ => trivial
theorem catch_keeps {c : Nat} {fs : List D} {r r0 : Rho} {h : Hh} (e : r.cl = r0.cl) : ∀ hs, (catch_ hs c fs r h).keeps r0
  | [] => e
  | (c', _, xs) :: rest => by
    unfold catch_
    split
    · split <;> trivial
    · exact catch_keeps e rest
theorem frzV_cl {i : Nat} {r : Rho} {h : Hh} {z : Rho × Hh} (q : frzV i r h = some z) : z.1.cl = r.cl := by
  unfold frzV at q
  split at q
  case h_1 =>
    split at q
    case h_1 => cases q; rfl
    case h_2 => cases q
  case h_2 => cases q; rfl
  case h_3 => cases q
theorem clk_ex : ∀ s : S, Clk (ex s)
  | .skip => fun cs r h => rfl
  | .seq a b => fun cs r h => by
    rw [ex_seq]
    have ha := clk_ex a cs r h
    unfold sSeq
    cases q : ex a cs r h with
    | nx r1 h1 => rw [q] at ha; exact keeps_trans ha (clk_ex b cs r1 h1)
    | rt _ _ => trivial
    | bk _ _ => rw [q] at ha; exact ha
    | ct _ _ => rw [q] at ha; exact ha
    | exn _ _ _ _ => rw [q] at ha; exact ha
    | bad => trivial
  | .asg t e => fun cs r h => by rw [ex_asg]; exact thenS_keeps fun _ _ => asgS_keeps rfl
  | .aug t o e => fun cs r h => by
    rw [ex_aug]; unfold sAug
    split
    · exact thenS_keeps fun x h1 => by split <;> first | exact asgS_keeps rfl | trivial
    · trivial
  | .set o i e => fun cs r h => by
    rw [ex_set]
    exact thenS_keeps fun x h1 => thenS_keeps fun y h2 => thenS_keeps fun z h3 => by unfold nxO; split <;> first | rfl | trivial
  | .augs o i op e => fun cs r h => by
    rw [ex_augs]
    refine thenS_keeps fun y h1 => thenS_keeps fun z h2 => ?_
    split
    · refine thenS_keeps fun x h3 => ?_
      split
      · unfold nxO; split <;> first | rfl | trivial
      · trivial
    · trivial
  | .ex e => fun cs r h => by rw [ex_ex]; exact thenS_keeps fun _ _ => rfl
  | .ret e => fun cs r h => by rw [ex_ret]; exact thenS_keeps fun _ _ => trivial
  | .retn => fun cs r h => trivial
  | .ite c a b => fun cs r h => by
    rw [ex_ite]
    exact thenS_keeps fun k h1 => by cases k <;> first | exact clk_ex a cs r h1 | exact clk_ex b cs r h1
  | .for_ t it b => fun cs r h => by
    rw [ex_for_]
    exact thenS_keeps fun w h1 => forV_keeps (fun r h => clk_ex b cs r h) r h1
  | .fork t e b => fun cs r h => by
    rw [ex_fork]
    refine thenS_keeps fun d h1 => ?_
    unfold forK
    split <;> first | trivial | skip
    split <;> first | trivial | skip
    split <;> first | trivial | skip
    exact unlock_keeps (forL_keeps (fun r h => clk_ex b cs r h) _ r _)
  | .while_ c b => fun cs r h => by rw [ex_while_]; exact whileF_keeps (fun r h => clk_ex b cs r h) _ r h
  | .brk => fun cs r h => rfl
  | .cnt => fun cs r h => rfl
  | .raise c es => fun cs r h => by rw [ex_raise]; exact thenS_keeps fun _ _ => rfl
  | .tryx b hs => fun cs r h => by
    rw [ex_tryx]
    have hb := clk_ex b cs r h
    unfold sTry
    cases q : ex b cs r h with
    | exn c fs r1 h1 => rw [q] at hb; exact catch_keeps hb hs
    | nx _ _ => rw [q] at hb; exact hb
    | rt _ _ => trivial
    | bk _ _ => rw [q] at hb; exact hb
    | ct _ _ => rw [q] at hb; exact hb
    | bad => trivial
  | .frz i => fun cs r h => by
    show (sFrz i cs r h).keeps r
    unfold sFrz
    cases q : frzV i r h with
    | none => trivial
    | some z => exact frzV_cl q
/-! ### the frame -/
/-- what a body's soundness may lean on -/
structure Run (st : Bool) (M : Wd) (G : Gd) (cs : CSem) (k : Nat) (N : List Str) (scope : Scope) (qual : Str) (cd : Value) (caps : List Nat) (X : Cx) (C : Cfg) : Prop where
  wd : wd X = M
  g : C.G = G
  cs : C.cs = cs
  N : X.N = N
  scope : X.env.scope = scope
  qual : X.env.qual = qual ++ ".<locals>."
  code : st = true → X.env.code = cd
  calm : X.calm = true
  fn : st = true → X.fn = fun _ => true
  guards : X.A.guards = some []
  room : Room k X.A
  nd : X.N.Nodup
  passes : PassesOwn (model X.prog X.w) X.A X.env X.xe
  takes : Takes X C.W
  own : OwnC X C
  caps : C.oc.map (·.1) = caps
  cell : ∀ (j i : Nat) (a : Addr), C.oc[j]? = some (i, a) → ∃ x, X.N[i]? = some x ∧ X.env.cells.lookup x = some a
  stk : X.stack = X.env :: X.outer ∧ X.env.frame = some X.env.locals
/-- the cells' places in the model -/
def ocOf (N : List Str) (caps : List Nat) (cells : List (Str × Addr)) : List (Nat × Addr) := caps.map fun i => (i, (((N[i]?).bind fun x => cells.lookup x).getD 0))
theorem ocOf_at {N : List Str} {caps : List Nat} {cells : List (Str × Addr)} {j i : Nat} {a : Addr} (h : ∀ i ∈ caps, ∃ x c, N[i]? = some x ∧ cells.lookup x = some c) (e : (ocOf N caps cells)[j]? = some (i, a)) : caps[j]? = some i ∧ ∃ x, N[i]? = some x ∧ cells.lookup x = some a := by
  unfold ocOf at e
  rw [List.getElem?_map] at e
  obtain ⟨i', e1, e2⟩ := Option.map_eq_some_iff.mp e
  cases e2
  obtain ⟨x, c, h1, h2⟩ := h _ (List.mem_of_getElem? e1)
  refine ⟨e1, x, h1, ?_⟩
  rw [h1]
  simp [h2]
theorem cellsFrom_inj {h : Heap} {names : List (Str × NameKind)} {x y : Str} {c : Addr} (h1 : (cellsFrom h.objs.size names []).lookup x = some c) (h2 : (cellsFrom h.objs.size names []).lookup y = some c) : x = y :=
  cells_inj (h := h) (acc := []) (fun p hp => nomatch hp) (fun _ _ _ hp => nomatch hp) (PySem.mem_of_lookup h1) (PySem.mem_of_lookup h2)
section
variable {M : Wd} {G : Gd} {N ps : List Str} {qual : Str} {scope : Scope} {f : Addr} {cdv : Value} {A : Around} {outer : List Env} {s : Shared} {H : Hp} {E : XK}
/-- the cells of a def stand as told, throughout -/
theorem own_fn {C : Cfg} {caps : List Nat} (hoc : C.oc = ocOf N caps (cellsFrom (s.heap.objs.size + 1) scope.names [])) (hN : N.Nodup) (hcn : caps.Nodup) (hcaps : ∀ i ∈ caps, ∃ x, N[i]? = some x ∧ scope.names.lookup x = some .cell) :
    OwnC (cxOf (L2.CX M.P M.w) M.P M.w M.K M.mg M.base N qual scope f cdv A outer s H E) C := by
  have hc : ∀ i ∈ caps, ∃ x c, N[i]? = some x ∧ (cellsFrom (s.heap.objs.size + 1) scope.names []).lookup x = some c := fun i m => by
    obtain ⟨x, h1, h2⟩ := hcaps i m
    obtain ⟨c, h3⟩ := cell_has (n := s.heap.objs.size + 1) h2
    exact ⟨x, c, h1, h3⟩
  refine ⟨fun pn xe pins σ H1 s1 I j i a e => ?_, fun j j' i i' a e1 e2 => ?_⟩
  · rw [hoc] at e
    obtain ⟨e0, x, h1, h2⟩ := ocOf_at hc e
    obtain ⟨x', h1', hk⟩ := hcaps i (List.mem_of_getElem? e0)
    rw [h1] at h1'
    cases h1'
    have ec : (cxOf (L2.CX M.P M.w) M.P M.w M.K M.mg M.base N qual scope f cdv A outer s H E).env.cells.lookup x = some a := h2
    have ab := I.ok.cab x a rfl ec
    refine ⟨I.freeC x a ec, Heap.get?_none_of_le (Nat.le_trans I.ok.bsz ab), fun hb => ?_, ?_⟩
    · rcases List.mem_cons.mp (I.stkSub a hb) with z | z
      · exact I.cne x a ec z
      · obtain ⟨_, o, ho, _⟩ := I.ok.funs.mem z
        exact absurd (Nat.lt_of_lt_of_le (Heap.lt_size ho) ab) (Nat.lt_irrefl _)
    · obtain ⟨u, o, ho, hd⟩ := I.cell x a ec
      refine ⟨o, u, ho, hd, fun v ev => ?_⟩
      obtain ⟨m, hn, hl⟩ := I.loc
      obtain ⟨w, r, q⟩ := hl i x v h1 ev (.inr (.inl hk))
      rcases q with ⟨k', _⟩ | ⟨_, c, e', z⟩
      · have k' : scope.names.lookup x = some .local := k'
        rw [hk] at k'; cases k'
      · rw [ec] at e'
        cases e'
        obtain ⟨o', ho', hd'⟩ := z
        rw [ho] at ho'
        cases ho'
        rw [hd] at hd'
        exact ⟨w, by cases hd'; rfl, r⟩
  · rw [hoc] at e1 e2
    obtain ⟨a1, x, h1, h2⟩ := ocOf_at hc e1
    obtain ⟨a2, y, h3, h4⟩ := ocOf_at hc e2
    have : s.heap.objs.size + 1 = (s.heap.push { cls := .none, data := .plain }).objs.size := (Heap.size_push _ _).symm
    rw [this] at h2 h4
    have exy := cellsFrom_inj h2 h4
    subst exy
    have := nodup_ix hN h1 h3
    subst this
    obtain ⟨b1, c1⟩ := List.getElem?_eq_some_iff.mp a1
    obtain ⟨b2, c2⟩ := List.getElem?_eq_some_iff.mp a2
    exact (List.getElem_inj hcn).mp (c1.trans c2.symm)
theorem start_get {N : List Str} {vs : List V} {i : Nat} {v : V} (e : vs[i]? = some v) : (L2.start N vs)[i]? = some (some v) := by
  unfold L2.start
  have hi : i < vs.length := (List.getElem?_eq_some_iff.mp e).1
  rw [List.getElem?_append_left (by rw [List.length_map]; exact hi), List.getElem?_map, e]
  rfl
/-- the state at a def's entry -/
theorem sr_entry {F : Fn} {μ : List Addr} {h : Hh} {ds : List D} {vs : List V} {oc : List (Nat × Addr)} (sr : HRel G μ h H) (rs : RDs G μ H ds vs) (hn : F.ns = N.length) (hp : ds.length = F.np) (hle : F.np ≤ F.ns) (hoc : oc.map (·.1) = F.caps) :
    Sr G oc (μ ++ oc.map (·.2)) (frameF F ds h.length) (h ++ cellsF F ds) (L2.start N vs) H := by
  have kp : Kp μ H (μ ++ oc.map (·.2)) H := ⟨⟨_, rfl⟩, fun _ _ z _ => z⟩
  have lc : oc.length = F.caps.length := by rw [← hoc, List.length_map]
  have lcell : (cellsF F ds).length = oc.length := by unfold cellsF; rw [List.length_map, lc]
  have cl : (frameF F ds h.length).cl = (List.range F.caps.length).map (h.length + ·) := rfl
  have mcl : ∀ {l : Nat}, l ∈ (frameF F ds h.length).cl ↔ h.length ≤ l ∧ l < h.length + F.caps.length := fun {l} => by
    rw [cl, List.mem_map]
    constructor
    · rintro ⟨x, hx, rfl⟩
      have := List.mem_range.mp hx
      omega
    · rintro ⟨h1, h2⟩
      exact ⟨l - h.length, List.mem_range.mpr (by omega), by omega⟩
  have old : ∀ {l : Nat} {a : Addr}, l ∉ (frameF F ds h.length).cl → (μ ++ oc.map (·.2))[l]? = some a → l < h.length ∧ μ[l]? = some a := fun {l a} nl e => by
    have hl := (List.getElem?_eq_some_iff.mp e).1
    rw [List.length_append, List.length_map, sr.len, lc] at hl
    have hl2 : l < h.length := by
      by_cases q : l < h.length
      · exact q
      · exact absurd (mcl.mpr ⟨by omega, by omega⟩) nl
    rw [List.getElem?_append_left (by rw [sr.len]; exact hl2)] at e
    exact ⟨hl2, e⟩
  refine ⟨by rw [List.length_append, List.length_append, List.length_map, lcell, sr.len], fun l l' a n1 n2 e1 e2 => ?_, fun l o a e1 e2 nl => ?_, by rw [cl, List.length_map, List.length_range, lc], fun j l i a e1 e2 => ?_, ?_, fun i d e ni => ?_, ?_, sr.tab⟩
  · exact sr.inj l l' a (by simp) (by simp) (old n1 e1).2 (old n2 e2).2
  · obtain ⟨hl, e3⟩ := old nl e2
    rw [List.getElem?_append_left hl] at e1
    obtain ⟨u, a1, a2⟩ := sr.ob l o a e1 e3 (by simp)
    exact ⟨u, a1, a2.mono kp⟩
  · rw [cl, List.getElem?_map] at e1
    obtain ⟨j', e3, e4⟩ := Option.map_eq_some_iff.mp e1
    have hj := (List.getElem?_eq_some_iff.mp e3).1
    rw [List.length_range] at hj
    have : j' = j := by
      obtain ⟨q1, q2⟩ := List.getElem?_eq_some_iff.mp e3
      rw [List.getElem_range] at q2
      exact q2.symm
    subst this
    subst e4
    have eci : F.caps[j']? = some i := by rw [← hoc, List.getElem?_map, e2]; rfl
    refine ⟨?_, nth ds i, ?_, fun x ex => ?_⟩
    · rw [List.getElem?_append_right (by rw [sr.len]; omega), sr.len, Nat.add_sub_cancel_left, List.getElem?_map, e2]; rfl
    · rw [List.getElem?_append_right (by omega), Nat.add_sub_cancel_left]
      unfold cellsF
      rw [List.getElem?_map, eci]; rfl
    · rw [nth_eq] at ex
      obtain ⟨v, q1, q2⟩ := rs.get ex
      exact ⟨v, start_get q1, q2.mono kp⟩
  · show (ds.map some ++ List.replicate (F.ns - F.np) none).length ≤ (vs.map some ++ List.replicate (N.length - vs.length) none).length
    rw [List.length_append, List.length_append, List.length_map, List.length_map, List.length_replicate, List.length_replicate, ← hn]
    have := rs.length
    omega
  · replace e : (ds.map some ++ List.replicate (F.ns - F.np) none)[i]? = some (some d) := e
    by_cases hi : i < ds.length
    · rw [List.getElem?_append_left (by rw [List.length_map]; exact hi), List.getElem?_map] at e
      cases q : ds[i]? with
      | none => rw [q] at e; cases e
      | some d' =>
        rw [q] at e
        cases e
        obtain ⟨v, q1, q2⟩ := rs.get q
        exact ⟨v, start_get q1, q2.mono kp⟩
    · rw [List.getElem?_append_right (by rw [List.length_map]; omega), List.getElem?_replicate] at e
      split at e <;> cases e
  · rw [cl]
    exact List.Pairwise.map _ (fun a b (ne : a ≠ b) (q : h.length + a = h.length + b) => ne (by omega)) List.nodup_range
/-- a def that the evaluator runs so, runs so in the model -/
theorem fn_run {G : Gd} {cs : CSem} {k : Nat} {F : Fn} {name : Str} {params : Arguments} {body : List Stmt} {dV kV doc pm ct oc : Value} {an od : Option Addr} {osl : Array (Option Value)} (lk : M.K.lookup f = some ⟨oc, od, .func (PySem.W.fnOf name qual params body scope dV kV doc pm an cdv ct), osl⟩) (hcd : PySem.W.codeIn M.K cdv qual = true) (S : FnScope N ps scope)
    (hnp : F.np = ps.length) (hns : F.ns = N.length) (hcn : F.caps.Nodup) (hcaps : ∀ i ∈ F.caps, ∃ x, N[i]? = some x ∧ scope.names.lookup x = some .cell)
    (hbody : ∀ (X : Cx) (C : Cfg), Run true M G cs k N scope qual cdv F.caps X C → PSs X body (tS C (ex F.body)))
    {args : Args} {us : List Value} {vs : List V} {Q : VK} {μ : List Addr} {h : Hh} {ds : List D} (hbind : vs.length = ps.length → BindsTo s (PySem.W.fnOf name qual params body scope dV kV doc pm an cdv ct) args (ps.zip us)) (hr : Room (k + 1) A) (hgd : A.guards = some []) (e0 : Env0 M.P M.w M.K M.mg M.base A outer s H) (r : Vals vs us) (sr : HRel G μ h H) (rs : RDs G μ H ds vs) (af : AftC G μ H Q E (runFn F cs ds h)) :
    codeAny (model M.P M.w) A (.call (.ref f) args) (CR (L2.CX M.P M.w) outer M.P M.w H s Q E) s := by
  unfold runFn at af
  split at af
  case isFalse => exact af.elim
  rename_i hl
  have hl := Nat.beq_eq.mp hl
  have lv : vs.length = ps.length := by rw [← rs.length, hl, hnp]
  have lu : us.length = ps.length := by rw [← r.length, lv]
  have hle : F.np ≤ F.ns := by
    have := congrArg List.length S.pre
    rw [List.length_take] at this
    omega
  refine LamX.run_ofS lk hcd S hr e0 (hbind lv) r lv fun hr2 => ?_
  have hc : ∀ i ∈ F.caps, ∃ x c, N[i]? = some x ∧ (cellsFrom (s.heap.objs.size + 1) scope.names []).lookup x = some c := fun i m => by
    obtain ⟨x, h1, h2⟩ := hcaps i m
    obtain ⟨c, h3⟩ := cell_has (n := s.heap.objs.size + 1) h2
    exact ⟨x, c, h1, h3⟩
  let C : Cfg := ⟨G, ocOf N F.caps (cellsFrom (s.heap.objs.size + 1) scope.names []), fun cls dd _ H' => E cls dd H', cs⟩
  have ecap : C.oc.map (·.1) = F.caps := by
    show (ocOf N F.caps _).map (·.1) = F.caps
    unfold ocOf
    rw [List.map_map]
    exact List.map_id _
  have run : Run true M G cs k N scope qual cdv F.caps (cxOf (L2.CX M.P M.w) M.P M.w M.K M.mg M.base N qual scope f cdv A outer s H E) C :=
    ⟨rfl, rfl, rfl, rfl, rfl, rfl, fun _ => rfl, rfl, fun _ => rfl, hgd, hr2, S.nd, passes_of rfl, takes_of rfl rfl rfl rfl, own_fn rfl S.nd hcn hcaps, ecap, fun j i a e => (ocOf_at hc e).2, ⟨rfl, rfl⟩⟩
  have se := sr_entry (F := F) (oc := C.oc) sr rs hns hl hle ecap
  refine ⟨_, hbody _ C run, μ ++ C.oc.map (·.2), frameF F ds h.length, h ++ cellsF F ds, se, ?_⟩
  show AftS C { nx := fun _ H' => Q .non H', rt := Q } (μ ++ C.oc.map (·.2)) (frameF F ds h.length) (L2.start N vs) H (ex F.body cs (frameF F ds h.length) (h ++ cellsF F ds))
  have hk := clk_ex F.body cs (frameF F ds h.length) (h ++ cellsF F ds)
  cases qt : F.cut with
  | false =>
    rw [qt] at af
    dsimp only at af
    have qc : F.caps = [] := by
      cases z : F.caps with
      | nil => rfl
      | cons _ _ => rw [z] at af; exact af.elim
    rw [qc] at af
    have eo : C.oc = [] := by show ocOf N F.caps _ = []; rw [qc]; rfl
    have e1 : h ++ cellsF F ds = h := by unfold cellsF; rw [qc]; simp
    have e2 : μ ++ C.oc.map (·.2) = μ := by rw [eo]; simp
    have e3 : (frameF F ds h.length).cl = [] := by unfold frameF; rw [qc]; rfl
    rw [e1] at hk
    rw [e1, e2]
    simp only at af
    cases q : ex F.body cs (frameF F ds h.length) h with
    | nx r' h' =>
      rw [q] at af
      intro μ' σ' H' g s'
      rw [eo] at s'
      exact af μ' .non H' (e3 ▸ g) s'.hrel (.p .non)
    | rt d h' =>
      rw [q] at af
      intro μ' σ' H' r' v _ g s' rd
      rw [eo] at s'
      exact af μ' v H' (e3 ▸ g) s'.hrel rd
    | exn c fs r' h' =>
      rw [q] at af
      intro μ' σ' H' cls dd g s' rx
      rw [eo] at s'
      exact af μ' cls dd H' (e3 ▸ g) s'.hrel rx
    | bk _ _ => rw [q] at af; exact af.elim
    | ct _ _ => rw [q] at af; exact af.elim
    | bad => rw [q] at af; exact af.elim
  | true =>
    rw [qt] at af
    dsimp only at af
    have mcl : ∀ {l : Nat}, l < h.length → l ∉ (frameF F ds h.length).cl := fun {l} hl m => by
      obtain ⟨x, _, e⟩ := List.mem_map.mp (show l ∈ (List.range F.caps.length).map (h.length + ·) from m)
      omega
    have lc : C.oc.length = F.caps.length := by rw [← ecap, List.length_map]
    have fin : ∀ {d : D} {h2 : Hh} {v : V} {μ' : List Addr} {σ' : L2.St} {H' : Hp} {r' : Rho}, (oldOk h.length d && (h2.take h.length).all (obOld h.length)) = true → r'.cl = (frameF F ds h.length).cl → Gr (frameF F ds h.length).cl (μ ++ C.oc.map (·.2)) H μ' H' → Sr G C.oc μ' r' h2 σ' H' → RD G μ' H' d v →
        Gr [] μ H μ H' ∧ HRel G μ (h2.take h.length) H' ∧ RD G μ H' d v := fun {d h2 v μ' σ' H' r'} ok ec g s' rd => by
      rw [Bool.and_eq_true] at ok
      obtain ⟨t, et⟩ := g.pre
      have em : μ' = μ ++ (C.oc.map (·.2) ++ t) := by rw [et, List.append_assoc]
      have lm : μ.length = h.length := sr.len
      have l2 : h.length ≤ h2.length := by rw [← s'.len, em, List.length_append, lm]; omega
      have pre : ∀ {l : Nat} {a : Addr}, μ[l]? = some a → l < h.length ∧ μ'[l]? = some a := fun {l a} e => by
        have := (List.getElem?_eq_some_iff.mp e).1
        exact ⟨by omega, by rw [em, List.getElem?_append_left this]; exact e⟩
      have atI : ∀ b, At (frameF F ds h.length).cl (μ ++ C.oc.map (·.2)) b → At [] μ b := fun b ⟨l, nl, e⟩ => by
        have hl := (List.getElem?_eq_some_iff.mp e).1
        rw [List.length_append, List.length_map, lm, lc] at hl
        have hlt : l < h.length := by
          by_cases q : l < h.length
          · exact q
          · exact absurd (List.mem_map.mpr ⟨l - h.length, List.mem_range.mpr (by omega), by show h.length + (l - h.length) = l; omega⟩) nl
        rw [List.getElem?_append_left (by omega)] at e
        exact ⟨l, by simp, e⟩
      refine ⟨⟨⟨[], by simp⟩, fun _ z => .inl z, fun b o e z nt => g.keep b o e (z.imp (fun n m => n (atI b m)) id) nt, g.tbl⟩, ⟨by rw [List.length_take, lm]; omega, fun l l' a _ _ e1 e2 => ?_, fun l o a e1 e2 _ => ?_, rfl, fun j l i a e1 _ => by simp at e1, Nat.zero_le _, fun i d e => by simp at e, List.nodup_nil, s'.tab⟩, ?_⟩
      · obtain ⟨b1, b2⟩ := pre e1
        obtain ⟨b3, b4⟩ := pre e2
        exact s'.inj l l' a (by rw [ec]; exact mcl b1) (by rw [ec]; exact mcl b3) b2 b4
      · obtain ⟨b1, b2⟩ := pre e2
        have mem := List.mem_of_getElem? e1
        rw [List.getElem?_take_of_lt b1] at e1
        obtain ⟨u, a1, a2⟩ := s'.ob l o a e1 b2 (by rw [ec]; exact mcl b1)
        rw [em] at a2
        exact ⟨u, a1, HR.cut (by rw [lm]; exact List.all_eq_true.mp ok.2 o mem) a2⟩
      · rw [em] at rd
        exact RD.cut (by rw [lm]; exact ok.1) rd
    cases q : ex F.body cs (frameF F ds h.length) (h ++ cellsF F ds) with
    | nx r' h' =>
      rw [q] at af hk
      intro μ' σ' H' g s'
      unfold cutF SR.toR at af
      simp only at af
      split at af
      · rename_i ok
        obtain ⟨g1, s1, rd1⟩ := fin (d := .p .none) (v := .non) ok hk g s' (.p .non)
        exact af μ .non H' g1 s1 rd1
      · exact af.elim
    | rt d h' =>
      rw [q] at af
      intro μ' σ' H' r' v ec g s' rd
      unfold cutF SR.toR at af
      simp only at af
      split at af
      · rename_i ok
        obtain ⟨g1, s1, rd1⟩ := fin ok ec g s' rd
        exact af μ v H' g1 s1 rd1
      · exact af.elim
    | exn c fs r' h' => rw [q] at af; exact af.elim
    | bk _ _ => rw [q] at af; exact af.elim
    | ct _ _ => rw [q] at af; exact af.elim
    | bad => rw [q] at af; exact af.elim
end
end Y

/-! Y19: a lambda's run. -/
namespace Y
open PySem PySem.Spec PyProof.Rows L2 NdefX
section
variable {P : Program} {w : World} {H : Hp} {s : Shared} {as : List Addr} {outer : List Env}
/-- an end's wish, told with the cells frozen again -/
theorem cr_freeze {Q Q2 : VK} {E E2 : XK} {rs : Result} {s' : Shared} (n : ∀ a ∈ as, ∃ o, H a = some (.frz o (.own 0)) ∧ s.heap.get? a = some o) (nf : ∀ a ∈ as, a ∉ frs outer)
    (hQ : ∀ v H', (∀ a ∈ as, H' a = none) → Q2 v H' → Q v (frzH H' s.heap as)) (hE : ∀ c d H', (∀ a ∈ as, H' a = none) → E2 c d H' → E c d (frzH H' s.heap as))
    (h : CR (L2.CX P w) outer P w (thaw H as) s Q2 E2 rs s') : CR (L2.CX P w) outer P w H s Q E rs s' := by
  have out : ∀ {b : Addr} {u : Option HO}, H b = u → (∀ o, u ≠ some (.frz o (.own 0))) → b ∉ as ∧ thaw H as b = u := fun {b u} e ne => by
    have m : b ∉ as := fun m => by obtain ⟨o, z, _⟩ := n b m; exact ne o (e ▸ z)
    exact ⟨m, by rw [thaw_out m]; exact e⟩
  have swap : ∀ {H' : Hp} {B : Heap}, (∀ a ∈ as, ∀ o, s.heap.get? a = some o → B.get? a = some o) → frzH H' s.heap as = frzH H' B as := fun {H' B} hb => by
    funext b
    by_cases m : b ∈ as
    · obtain ⟨o, _, z⟩ := n b m
      rw [frzH_in m z, frzH_in m (hb b m o z)]
    · rw [frzH_out m, frzH_out m]
  cases rs with
  | ok fl =>
    cases fl with
    | ret u =>
      obtain ⟨v, H', os, bare, un, hok, r, q⟩ := h
      have na : ∀ a ∈ as, H' a = none := fun a m => by
        obtain ⟨o, _, z⟩ := n a m
        exact un.free a o z (thaw_in m) (by simp)
      have kp : ∀ a ∈ as, ∀ o, s.heap.get? a = some o → s'.heap.get? a = some o := fun a m o z => un.keep a o z (thaw_in m) (nf a m) (by simp)
      refine ⟨v, frzH H' s.heap as, os, bare, ⟨fun b o e z hf hx => ?_, fun b o e z hf hx => ?_, fun b o e z hx => ?_, un.there, fun b xs e => ?_, fun b o x e => ?_, fun b ps e => ?_⟩, by rw [swap kp]; exact frzH_ok na hok, r, hQ v H' na q⟩
      · exact un.keep b o e (out z (fun _ y => by cases y)).2 hf hx
      · exact un.slot b o e (out z (fun _ y => by cases y)).2 hf hx
      · obtain ⟨m, z2⟩ := out z (fun _ y => by cases y)
        rw [frzH_out m]; exact un.free b o e z2 hx
      · obtain ⟨m, z2⟩ := out e (fun _ y => by cases y)
        rw [frzH_out m]; exact un.tups b xs z2
      · by_cases m : b ∈ as
        · obtain ⟨o2, z1, z2⟩ := n b m
          rw [e] at z1
          cases z1
          exact frzH_in m z2
        · rw [frzH_out m]; exact un.frzs b o x (by rw [thaw_out m]; exact e)
      · obtain ⟨m, z2⟩ := out e (fun _ y => by cases y)
        rw [frzH_out m]; exact un.tbls b ps z2
    | next => exact h
    | brk => exact h
    | cont => exact h
  | error e =>
    obtain ⟨a, B, H', cls, d, ea, fl, hok, ub, na', os, ag, q⟩ := h
    have na : ∀ a ∈ as, H' a = none := fun a m => by
      obtain ⟨o, _, z⟩ := n a m
      exact ub.free a o z (thaw_in m)
    have kp : ∀ a ∈ as, ∀ o, s.heap.get? a = some o → B.get? a = some o := fun a m o z => ub.keep a o z (thaw_in m) (nf a m)
    have ma : a ∉ as := fun m => by
      obtain ⟨o, _, z⟩ := n a m
      have := kp a m o z
      rw [fl.2.1] at this
      cases this
    refine ⟨a, B, frzH H' s.heap as, cls, d, ea, fl, by rw [swap kp]; exact frzH_ok na hok, ⟨fun b o e z hf => ?_, ub.slot, fun b o e z => ?_, ub.there, fun b xs e => ?_, fun b o x e => ?_, fun b ps e => ?_⟩, by rw [frzH_out ma]; exact na', os, ag, hE cls d H' na q⟩
    · exact ub.keep b o e (out z (fun _ y => by cases y)).2 hf
    · obtain ⟨m, z2⟩ := out z (fun _ y => by cases y)
      rw [frzH_out m]; exact ub.free b o e z2
    · obtain ⟨m, z2⟩ := out e (fun _ y => by cases y)
      rw [frzH_out m]; exact ub.tups b xs z2
    · by_cases m : b ∈ as
      · obtain ⟨o2, z1, z2⟩ := n b m
        rw [e] at z1
        cases z1
        exact frzH_in m z2
      · rw [frzH_out m]; exact ub.frzs b o x (by rw [thaw_out m]; exact e)
    · obtain ⟨m, z2⟩ := out e (fun _ y => by cases y)
      rw [frzH_out m]; exact ub.tbls b ps z2
end
theorem apart_nd : ∀ {ls : List Nat}, apart ls = true → ls.Nodup
  | [], _ => List.nodup_nil
  | l :: ls, e => by
    unfold apart at e
    rw [Bool.and_eq_true] at e
    refine List.nodup_cons.mpr ⟨fun m => ?_, apart_nd e.2⟩
    have := List.all_eq_true.mp e.1 l m
    simp at this
theorem isCell_at {h : Hh} {l : Nat} (e : isCell h l = true) : ∃ d, h[l]? = some (Ob.cell d) := by
  unfold isCell at e
  split at e
  · rename_i d q
    rw [nth_eq] at q
    exact ⟨d, q⟩
  · cases e
/-- where the captured cells stand -/
def lmOc (np : Nat) (fr : List Str) (cl : List (Str × Addr)) : List (Nat × Addr) := (List.range fr.length).map fun n => (np + n, (((fr[n]?).bind fun y => cl.lookup y).getD 0))
theorem lmOc_at {np : Nat} {fr : List Str} {cl : List (Str × Addr)} {j i : Nat} {a : Addr} (has : ∀ y ∈ fr, ∃ c, cl.lookup y = some c) (e : (lmOc np fr cl)[j]? = some (i, a)) : i = np + j ∧ ∃ y, fr[j]? = some y ∧ cl.lookup y = some a := by
  unfold lmOc at e
  rw [List.getElem?_map] at e
  obtain ⟨j', e1, e2⟩ := Option.map_eq_some_iff.mp e
  obtain ⟨hj, e3⟩ := List.getElem?_eq_some_iff.mp e1
  rw [List.getElem_range] at e3
  subst e3
  rw [List.length_range] at hj
  obtain ⟨c, hc⟩ := has _ (List.getElem_mem hj)
  have ey : fr[j]? = some fr[j] := List.getElem?_eq_getElem hj
  rw [ey] at e2
  simp only [Option.bind_some, hc, Option.getD_some, Prod.mk.injEq] at e2
  obtain ⟨q1, q2⟩ := e2
  subst q1 q2
  exact ⟨rfl, _, ey, hc⟩
theorem pick_list {α : Type} {n : Nat} {p : Nat → α → Prop} (h : ∀ i, i < n → ∃ a, p i a) : ∃ l : List α, l.length = n ∧ ∀ i a, l[i]? = some a → p i a := by
  induction n with
  | zero => exact ⟨[], rfl, fun i a e => by simp at e⟩
  | succ n ih =>
    obtain ⟨l, e1, e2⟩ := ih fun i hi => h i (by omega)
    obtain ⟨a, ha⟩ := h n (by omega)
    refine ⟨l ++ [a], by simp [e1], fun i b e => ?_⟩
    by_cases hi : i < l.length
    · rw [List.getElem?_append_left hi] at e; exact e2 i b e
    · rw [List.getElem?_append_right (by omega)] at e
      have : i = n := by
        have := (List.getElem?_eq_some_iff.mp e).1
        simp at this; omega
      subst this
      rw [e1, Nat.sub_self] at e
      cases e
      exact ha
end Y

/-! Y20: a lambda's run; calls, level by level. -/
namespace Y
open PySem PySem.Spec PyProof.Rows L2 NdefX
section
variable {M : Wd} {G : Gd} {A : Around} {outer : List Env} {s : Shared} {H : Hp} {E : XK} {N ps : List Str}
/-- what a lambda's cells hold at its entry -/
theorem lam_tell {μ : List Addr} {h : Hh} {t : LamT} {ls : List Nat} {a : Addr} {cl : List (Str × Addr)} (hlen : ls.length = t.caps.length) (hcl : ∀ (j l : Nat) (y : Str), ls[j]? = some l → t.caps[j]? = some y → ∃ c, μ[l]? = some c ∧ cl.lookup y = some c)
    (hok : HOk M.P M.w H s.heap) (sr : HRel G μ h H) (hc : ls.all (isCell h) = true) {n : Nat} {y : Str} (e : t.caps[n]? = some y) :
    ∃ l ca d o u, ls[n]? = some l ∧ μ[l]? = some ca ∧ cl.lookup y = some ca ∧ h[l]? = some (Ob.cell d) ∧ H ca = some (.frz o (.own 0)) ∧ s.heap.get? ca = some o ∧ o.data = .cell u ∧ CellR G μ H d u := by
  have hn := (List.getElem?_eq_some_iff.mp e).1
  have el : ls[n]? = some (ls[n]'(by omega)) := List.getElem?_eq_getElem _
  obtain ⟨c, e1, e2⟩ := hcl n _ y el e
  obtain ⟨d, e3⟩ := isCell_at (List.all_eq_true.mp hc _ (List.mem_of_getElem? el))
  obtain ⟨u, e4, e5⟩ := sr.ob _ _ c e3 e1 (by simp)
  cases u with
  | frz o z =>
    obtain ⟨q1, w, q2, q3⟩ := e5
    subst q1
    exact ⟨_, c, d, o, w, el, e1, e2, e3, e4, (hok c _ e4).1, q2, q3⟩
  | _ => exact e5.elim
/-- a lambda that the evaluator runs so, runs so in the model -/
theorem lam_run {cs : CSem} {k : Nat} {t : LamT} {L : Lm} {ls : List Nat} {a : Addr} (S : NScope N ps t.caps t.scope)
    (hbind : ∀ (cl : List (Str × Addr)) (pm cv ctv : Value) (us : List Value), us.length = ps.length → bindArgs (PySem.W.kla_fn "<lambda>" t.qual t.params t.body t.scope cl pm cv ctv) ⟨us, []⟩ = pure (ps.zip us))
    (hnp : L.np = ps.length) (hbody : ∀ (X : Cx) (C : Cfg) (cd : Value), Run false M G cs k N t.scope t.qual cd ((List.range t.caps.length).map (ps.length + ·)) X C → PE X t.body (tE C (ev L.body)))
    {us : List Value} {vs : List V} {Q : VK} {μ : List Addr} {h : Hh} {ds : List D} (hr : Room (k + 1) A) (hgd : A.guards = some []) (e0 : Env0 M.P M.w M.K M.mg M.base A outer s H) (r : Vals vs us) (sr : HRel G μ h H) (rc : CloT μ H t ls a) (rs : RDs G μ H ds vs) (af : AftC G μ H Q E (runLm L cs ls ds h)) :
    PySem.W.FnAt a s.heap ∧ codeAny (model M.P M.w) A (.call (.ref a) ⟨us, []⟩) (CR (L2.CX M.P M.w) outer M.P M.w H s Q E) s := by
  unfold runLm at af
  split at af
  case isFalse => exact af.elim
  rename_i hl
  simp only [Bool.and_eq_true] at hl
  obtain ⟨hl1, _, hcell, hap⟩ := hl
  have hl1 := Nat.beq_eq.mp hl1
  have nd := apart_nd hap
  obtain ⟨cl, pm, ctv, c', ha, hco, hlen, hcl, hdom⟩ := rc
  have tell := fun {n : Nat} {y : Str} (e : t.caps[n]? = some y) => lam_tell (M := M) (s := s) (a := a) hlen hcl e0.hok sr hcell e
  have lv : vs.length = ps.length := by rw [← rs.length, hl1, hnp]
  have lu : us.length = ps.length := by rw [← r.length, lv]
  have has : ∀ y ∈ t.caps, ∃ c, cl.lookup y = some c := fun y m => by
    obtain ⟨n, hn⟩ := List.mem_iff_getElem?.mp m
    obtain ⟨_, ca, _, _, _, _, _, z, _⟩ := tell hn
    exact ⟨ca, z⟩
  -- one place, one name
  have uniq : ∀ {n m : Nat} {y z : Str} {c : Addr}, t.caps[n]? = some y → t.caps[m]? = some z → cl.lookup y = some c → cl.lookup z = some c → n = m := fun {n m y z c} e1 e2 e3 e4 => by
    obtain ⟨l1, c1, _, _, _, q1, q2, q3, _⟩ := tell e1
    obtain ⟨l2, c2, _, _, _, p1, p2, p3, _⟩ := tell e2
    rw [e3] at q3
    rw [e4] at p3
    cases q3
    cases p3
    have el := sr.inj l1 l2 c (by simp) (by simp) q2 p2
    subst el
    obtain ⟨b1, d1⟩ := List.getElem?_eq_some_iff.mp q1
    obtain ⟨b2, d2⟩ := List.getElem?_eq_some_iff.mp p1
    exact (List.getElem_inj nd).mp (d1.trans d2.symm)
  let oc := lmOc ps.length t.caps cl
  let as := oc.map (·.2)
  have mem_as : ∀ {b : Addr}, b ∈ as → ∃ n y, t.caps[n]? = some y ∧ cl.lookup y = some b := fun {b} m => by
    obtain ⟨p, hp, e⟩ := List.mem_map.mp m
    obtain ⟨j, hj⟩ := List.mem_iff_getElem?.mp hp
    obtain ⟨_, y, e1, e2⟩ := lmOc_at (i := p.1) (a := p.2) has hj
    exact ⟨j, y, e1, e ▸ e2⟩
  have loc : oc.length = t.caps.length := by show (lmOc _ _ _).length = _; unfold lmOc; rw [List.length_map, List.length_range]
  have as_mem : ∀ {n : Nat} {y : Str} {b : Addr}, t.caps[n]? = some y → cl.lookup y = some b → b ∈ as := fun {n y b} e1 e2 => by
    have hn : n < oc.length := by rw [loc]; exact (List.getElem?_eq_some_iff.mp e1).1
    have e3 : oc[n]? = some ((oc[n]).1, (oc[n]).2) := List.getElem?_eq_getElem hn
    obtain ⟨_, y', e4, e5⟩ := lmOc_at has e3
    rw [e1] at e4
    cases e4
    rw [e2] at e5
    cases e5
    exact List.mem_map.mpr ⟨_, List.mem_of_getElem? e3, rfl⟩
  have nfz : ∀ b ∈ as, ∃ o, H b = some (.frz o (.own 0)) ∧ s.heap.get? b = some o := fun b m => by
    obtain ⟨n, y, e1, e2⟩ := mem_as m
    obtain ⟨_, ca, _, o, _, _, _, q3, _, q4, q5, _⟩ := tell e1
    rw [e2] at q3
    cases q3
    exact ⟨o, q4, q5⟩
  have nfr : ∀ b ∈ as, b ∉ frs outer := fun b m z => by
    obtain ⟨o, q, _⟩ := nfz b m
    rw [e0.frf b z] at q
    cases q
  have nbase : ∀ b ∈ as, M.base.get? b = none := fun b m => by
    cases q : M.base.get? b with
    | none => rfl
    | some o =>
      obtain ⟨o', z, _⟩ := nfz b m
      rw [(e0.bs b o q).2] at z
      cases z
  have e1 : Env0 M.P M.w M.K M.mg M.base A outer s (thaw H as) := Y.Env0.thaw e0 fun b m => by obtain ⟨o, z, _⟩ := nfz b m; exact ⟨o, z⟩
  have kt : Kp μ H μ (thaw H as) := ⟨⟨[], by simp⟩, fun b o e i => by
    rw [thaw_out fun m => by obtain ⟨x, z, _⟩ := nfz b m; rw [z] at e; cases e; exact i]; exact e⟩
  have ki : ∀ b o, H b = some o → (∀ x, o ≠ .frz x (.own 0)) → thaw H as b = some o := fun b o e ne => by
    rw [thaw_out fun m => by obtain ⟨x, z, _⟩ := nfz b m; rw [z] at e; cases e; exact ne x rfl]; exact e
  -- the captured values
  obtain ⟨ws, lw, hw⟩ : ∃ ws : List (Option V), ws.length = t.caps.length ∧ ∀ (n : Nat) (w : Option V), ws[n]? = some w → ∀ (y : Str) (l : Nat) (ca : Addr) (d : Option D), t.caps[n]? = some y → ls[n]? = some l → μ[l]? = some ca → h[l]? = some (Ob.cell d) →
      (∀ v, w = some v → ∃ u, RelV v u ∧ s.heap.IsCell ca (some u)) ∧ ∀ x, d = some x → ∃ v, w = some v ∧ RD G μ H x v := by
    refine pick_list (α := Option V) (p := fun (n : Nat) (w : Option V) => ∀ (y : Str) (l : Nat) (ca : Addr) (d : Option D), t.caps[n]? = some y → ls[n]? = some l → μ[l]? = some ca → h[l]? = some (Ob.cell d) →
      (∀ v, w = some v → ∃ u, RelV v u ∧ s.heap.IsCell ca (some u)) ∧ ∀ x, d = some x → ∃ v, w = some v ∧ RD G μ H x v) fun n hn => ?_
    obtain ⟨l, ca, d, o, u, q1, q2, q3, q4, q5, q6, q7, q8⟩ := tell (List.getElem?_eq_getElem hn)
    cases d with
    | none =>
      refine ⟨none, fun y l' ca' d' z1 z2 z3 z4 => ⟨fun v z => (by cases z), fun x z => ?_⟩⟩
      rw [q1] at z2; cases z2
      rw [q4] at z4; cases z4
      cases z
    | some x =>
      obtain ⟨v, w, p1, p2, p3⟩ := q8 x rfl
      refine ⟨some v, fun y l' ca' d' z1 z2 z3 z4 => ⟨fun v' z => ?_, fun x' z => ?_⟩⟩
      · cases z
        rw [q1] at z2; cases z2
        rw [q2] at z3; cases z3
        exact ⟨w, p2, o, q6, by rw [q7, p1]⟩
      · rw [q1] at z2; cases z2
        rw [q4] at z4; cases z4
        cases z
        exact ⟨v, rfl, p3⟩
  have CA : CellsAt cl t.caps ws s.heap (thaw H as) := by
    refine ⟨lw, fun y c e => ?_, fun x y c e2 e3 => ?_, fun i y e => ?_⟩
    · obtain ⟨n, hn⟩ := List.mem_iff_getElem?.mp (hdom y c e)
      refine ⟨thaw_in (as_mem hn e), ?_⟩
      obtain ⟨_, ca, _, o, u, _, _, q3, _, _, q5, q6, _⟩ := tell hn
      rw [e] at q3
      cases q3
      exact ⟨u, o, q5, q6⟩
    · obtain ⟨n, hn⟩ := List.mem_iff_getElem?.mp (hdom x c e2)
      obtain ⟨m, hm⟩ := List.mem_iff_getElem?.mp (hdom y c e3)
      have := uniq hn hm e2 e3
      subst this
      rw [hn] at hm
      exact Option.some.inj hm
    · obtain ⟨l, ca, d, o, u, q1, q2, q3, q4, q5, q6, q7, q8⟩ := tell e
      refine ⟨ca, q3, fun v e2 => ?_⟩
      exact (hw i _ e2 y l ca d e q1 q2 q4).1 v rfl
  let F : NF := ⟨"<lambda>", t.qual, t.params, [], t.scope, cl, c'⟩
  have oa : s.heap.get? a = some (PySem.W.kla_obj "<lambda>" t.qual t.params t.body t.scope cl pm c' ctv) := (e0.hok a _ ha).1
  refine ⟨⟨_, _, _, _, oa⟩, ?_⟩
  obtain ⟨⟨oc', vs', t', hoc, hdc, hvc⟩, _, _⟩ := e0.hok c' _ hco
  have lim : s.heap.NoLimit := e0.mod.nolimit.keeps fun b o e => (e0.bs b o e).1
  -- the state at the entry
  have mu_as : ∀ {l : Nat} {b : Addr}, μ[l]? = some b → b ∈ as → l ∈ ls := fun {l b} e m => by
    obtain ⟨n, y, e2, e3⟩ := mem_as m
    obtain ⟨l', ca, _, _, _, q1, q2, q3, _⟩ := tell e2
    rw [e3] at q3
    cases q3
    have := sr.inj l l' b (by simp) (by simp) e q2
    subst this
    exact List.mem_of_getElem? q1
  have as_at : ∀ {l : Nat}, l ∈ ls → ∃ b, μ[l]? = some b ∧ b ∈ as := fun {l} m => by
    obtain ⟨n, hn⟩ := List.mem_iff_getElem?.mp m
    have hn2 : n < t.caps.length := by rw [← hlen]; exact (List.getElem?_eq_some_iff.mp hn).1
    obtain ⟨l', ca, _, _, _, q1, q2, q3, _⟩ := tell (List.getElem?_eq_getElem hn2)
    rw [hn] at q1
    cases q1
    exact ⟨ca, q2, as_mem (List.getElem?_eq_getElem hn2) q3⟩
  have sf : ∀ (i : Nat) (v : V), vs[i]? = some v → (startF N vs ws)[i]? = some (some v) := fun i v e => by
    unfold startF
    have hi := (List.getElem?_eq_some_iff.mp e).1
    rw [List.getElem?_append_left (by rw [List.length_map]; exact hi), List.getElem?_map, e]; rfl
  have sw : ∀ (n : Nat) (w : Option V), ws[n]? = some w → (startF N vs ws)[ps.length + n]? = some w := fun n w e => by
    unfold startF
    have hi := (List.getElem?_eq_some_iff.mp e).1
    rw [List.getElem?_append_right (by rw [List.length_map]; omega), List.length_map, lv, Nat.add_sub_cancel_left, List.getElem?_append_left hi, e]
  have sr1 : Sr G oc μ ⟨ds.map some, ls⟩ h (startF N vs ws) (thaw H as) := by
    refine ⟨sr.len, fun l l' b _ _ z1 z2 => sr.inj l l' b (by simp) (by simp) z1 z2, fun l o b z1 z2 nl => ?_, by show ls.length = _; rw [loc, hlen], fun j l i b z1 z2 => ?_, ?_, fun i d z _ => ?_, nd, ?_⟩
    · obtain ⟨u, q1, q2⟩ := sr.ob l o b z1 z2 (by simp)
      exact ⟨u, by rw [thaw_out fun m => nl (mu_as z2 m)]; exact q1, q2.mono kt⟩
    · obtain ⟨ei, y, q1, q2⟩ := lmOc_at has z2
      obtain ⟨l', ca, d, o, u, p1, p2, p3, p4, p5, p6, p7, p8⟩ := tell q1
      rw [q2] at p3
      cases p3
      replace z1 : ls[j]? = some l := z1
      rw [z1] at p1
      cases p1
      refine ⟨p2, d, p4, fun x ex => ?_⟩
      have hj : j < ws.length := by rw [lw]; exact (List.getElem?_eq_some_iff.mp q1).1
      obtain ⟨v, f1, f2⟩ := (hw j _ (List.getElem?_eq_getElem hj) y l b d q1 z1 p2 p4).2 x ex
      refine ⟨v, ?_, f2.mono kt⟩
      rw [ei, ← f1]
      exact sw j _ (List.getElem?_eq_getElem hj)
    · show (ds.map some).length ≤ _
      unfold startF
      rw [List.length_map, List.length_append, List.length_map, rs.length]
      omega
    · replace z : (ds.map some)[i]? = some (some d) := z
      rw [List.getElem?_map] at z
      obtain ⟨d', q1, q2⟩ := Option.map_eq_some_iff.mp z
      cases q2
      obtain ⟨v, p1, p2⟩ := rs.get q1
      exact ⟨v, sf i v p1, p2.mono kt⟩
    · intro p hp'
      obtain ⟨qs, h1, h2, h3⟩ := sr.tab p hp'
      refine ⟨qs, ki _ _ h1 (fun _ z => by cases z), h2, fun pos cv hc => ?_⟩
      obtain ⟨c, z1, z2⟩ := h3 pos cv hc
      exact ⟨c, z1, ki _ _ z2 (fun x z => by unfold LamX.CodeO at z; cases z)⟩
  -- what stands behind, cells frozen again
  have cf : ∀ (j i : Nat) (b : Addr), oc[j]? = some (i, b) → ∃ o u, s.heap.get? b = some o ∧ o.data = .cell u ∧ ∀ v, (startF N vs ws)[i]? = some (some v) → ∃ w, u = some w ∧ RelV v w := fun j i b z2 => by
    obtain ⟨ei, y, q1, q2⟩ := lmOc_at has z2
    obtain ⟨l, ca, d, o, u, p1, p2, p3, p4, p5, p6, p7, p8⟩ := tell q1
    rw [q2] at p3
    cases p3
    refine ⟨o, u, p6, p7, fun v ev => ?_⟩
    have hj : j < ws.length := by rw [lw]; exact (List.getElem?_eq_some_iff.mp q1).1
    rw [ei, sw j _ (List.getElem?_eq_getElem hj)] at ev
    obtain ⟨w, f1, o', f2, f3⟩ := (hw j _ (List.getElem?_eq_getElem hj) y l b d q1 p1 p2 p4).1 v (Option.some.inj ev)
    rw [p6] at f2
    cases f2
    rw [p7] at f3
    cases f3
    exact ⟨w, rfl, f1⟩
  have ci : ∀ (j j' i i' : Nat) (b : Addr), oc[j]? = some (i, b) → oc[j']? = some (i', b) → j = j' := fun j j' i i' b z1 z2 => by
    obtain ⟨_, y1, q1, q2⟩ := lmOc_at has z1
    obtain ⟨_, y2, q3, q4⟩ := lmOc_at has z2
    exact uniq q1 q3 q2 q4
  have fin : ∀ {μ' : List Addr} {h' : Hh} {H' : Hp}, Gr ls μ (thaw H as) μ' H' → Sr G oc μ' ⟨ds.map some, ls⟩ h' (startF N vs ws) H' → (∀ b ∈ as, H' b = none) →
      Gr [] μ H μ' (frzH H' s.heap as) ∧ HRel G μ' h' (frzH H' s.heap as) ∧ Kp μ' H' μ' (frzH H' s.heap as) := fun {μ' h' H'} g s' na => by
    refine ⟨⟨g.pre, fun b hb => ?_, fun b o e z nt => ?_, fun b qs e => ?_⟩, s'.freeze (hp := s.heap) (fun j i b e => ⟨na b ?_, cf j i b e⟩) ci, keep_kp fun b o e => frzH_keep na e⟩
    · by_cases m : b ∈ as
      · obtain ⟨n, y, q1, q2⟩ := mem_as m
        obtain ⟨l, ca, _, _, _, p1, p2, p3, _⟩ := tell q1
        rw [q2] at p3
        cases p3
        exact .inl ⟨l, by simp, p2⟩
      · obtain ⟨l, _, e⟩ := hb
        have nl : l ∉ ls := fun ml => by
          obtain ⟨b2, q1, q2⟩ := as_at ml
          obtain ⟨t, et⟩ := g.pre
          have : μ'[l]? = some b2 := by rw [et, List.getElem?_append_left (List.getElem?_eq_some_iff.mp q1).1]; exact q1
          rw [e] at this
          cases this
          exact m q2
        rcases g.fresh b ⟨l, nl, e⟩ with ⟨l2, _, z⟩ | z
        · exact .inl ⟨l2, by simp, z⟩
        · rw [thaw_out m] at z; exact .inr z
    · have m : b ∉ as := fun m => by
        obtain ⟨o2, q1, _⟩ := nfz b m
        rw [e] at q1
        cases q1
        rcases z with z | z
        · obtain ⟨n, y, q1, q2⟩ := mem_as m
          obtain ⟨l, ca, _, _, _, p1, p2, p3, _⟩ := tell q1
          rw [q2] at p3
          cases p3
          exact z ⟨l, by simp, p2⟩
        · exact z
      rw [frzH_out m]
      exact g.keep b o (by rw [thaw_out m]; exact e) (z.imp (fun n ⟨l, _, q⟩ => n ⟨l, by simp, q⟩) id) nt
    · have m : b ∉ as := fun m => by
        obtain ⟨o2, q1, _⟩ := nfz b m
        rw [e] at q1
        cases q1
      obtain ⟨qs', z⟩ := g.tbl b qs (by rw [thaw_out m]; exact e)
      exact ⟨qs', by rw [frzH_out m]; exact z⟩
    · exact List.mem_map.mpr ⟨_, List.mem_of_getElem? e, rfl⟩
  let Q1 : VK := fun v H' => (∀ b ∈ as, H' b = none) → Q v (frzH H' s.heap as)
  let E1 : XK := fun c d H' => (∀ b ∈ as, H' b = none) → E c d (frzH H' s.heap as)
  let C : Cfg := ⟨G, oc, fun cls dd _ H' => E1 cls dd H', cs⟩
  let X : Cx := ncx (L2.CX M.P M.w) M.P M.w M.K M.mg M.base N F a A outer s (thaw H as) E1
  have nAt : ∀ {j : Nat} {y : Str}, t.caps[j]? = some y → N[ps.length + j]? = some y := fun {j y} e => by
    have hj := (List.getElem?_eq_some_iff.mp e).1
    have : (N.take (ps.length + t.caps.length))[ps.length + j]? = some y := by
      rw [S.pre, List.getElem?_append_right (by omega), Nat.add_sub_cancel_left]; exact e
    rwa [List.getElem?_take_of_lt (by omega)] at this
  have own : OwnC X C := by
    refine ⟨fun pn xe pins σ H1 s1 I j i b e => ?_, fun j j' i i' b z1 z2 => ci j j' i i' b z1 z2⟩
    obtain ⟨ei, y, q1, q2⟩ := lmOc_at has e
    have mb : b ∈ as := as_mem q1 q2
    have ec : X.env.cells.lookup y = some b := q2
    refine ⟨I.freeC y b ec, nbase b mb, fun hb => ?_, ?_⟩
    · rcases List.mem_cons.mp (I.stkSub b hb) with z | z
      · exact I.cne y b ec z
      · exact nfr b mb z
    · obtain ⟨u, o, ho, hd⟩ := I.cell y b ec
      refine ⟨o, u, ho, hd, fun v ev => ?_⟩
      obtain ⟨m, hn, hl⟩ := I.loc
      have kf := S.frk y (List.mem_of_getElem? q1)
      obtain ⟨w, r, q⟩ := hl i y v (by rw [ei]; exact nAt q1) ev (.inr (.inr kf))
      rcases q with ⟨k', _⟩ | ⟨_, c, e', z⟩
      · have k' : t.scope.names.lookup y = some .local := k'
        rw [kf] at k'; cases k'
      · rw [ec] at e'
        cases e'
        obtain ⟨o', ho', hd'⟩ := z
        rw [ho] at ho'
        cases ho'
        rw [hd] at hd'
        exact ⟨w, by cases hd'; rfl, r⟩
  have run : Run false M G cs k N t.scope t.qual (.ref c') ((List.range t.caps.length).map (ps.length + ·)) X C := by
    refine ⟨rfl, rfl, rfl, rfl, rfl, rfl, (fun z => by cases z), rfl, (fun z => by cases z), hgd, hr.deeper _, S.nd, passes_of rfl, takes_of rfl rfl rfl rfl, own, ?_, fun j i b e => ?_, ⟨rfl, rfl⟩⟩
    · show (lmOc _ _ _).map (·.1) = _
      unfold lmOc
      rw [List.map_map]
      rfl
    · obtain ⟨ei, y, q1, q2⟩ := lmOc_at has e
      exact ⟨y, by rw [ei]; exact nAt q1, q2⟩
  have te : tE C (ev L.body) (startF N vs ws) (thaw H as) Q1 := by
    refine ⟨μ, ⟨ds.map some, ls⟩, h, sr1, ?_⟩
    show Aft C (RV C) μ ⟨ds.map some, ls⟩ (startF N vs ws) (thaw H as) (ev L.body cs ⟨ds.map some, ls⟩ h) Q1
    cases q : ev L.body cs ⟨ds.map some, ls⟩ h with
    | bad => rw [q] at af; exact af
    | ok d h' =>
      rw [q] at af
      intro μ' v H' g s' rd na
      obtain ⟨g1, s1, k1⟩ := fin g s' na
      exact af μ' v _ g1 s1 (RD.mono k1 rd)
    | exn c fs h' =>
      rw [q] at af
      intro μ' cls dd H' g s' rx na
      obtain ⟨g1, s1, k1⟩ := fin g s' na
      exact af μ' cls dd _ g1 s1 (RX.mono k1 (fun d ws e => frzH_keep na e) rx)
  refine codeAny_mono (R := CR (L2.CX M.P M.w) outer M.P M.w (thaw H as) s Q1 E1) ?_ fun rs' s' hq => cr_freeze nfz nfr (fun v H' na q => q na) (fun c d H' na q => q na) hq
  refine PySem.W.kla_callFunE hr.depth oa rfl S.co S.gen rfl ⟨c', oc', vs', t', rfl, hoc, hdc, hvc⟩ ?_
  rw [hbind cl pm (.ref c') ctv us lu]
  refine wpAny_pure (wpAny_newFunctionEnv S.nocell (fun ⟨n, _⟩ hy => S.par n (List.of_mem_zip hy).1) (fun h₁ hns hsb => ⟨lim.fresh _ hsb, ?_⟩) S.kind)
  show codeAny _ _ (.expr t.body (envF F a s.heap.objs.size)) _ _
  have kp : ∀ b o, s.heap.get? b = some o → h₁.get? b = some o := fun b o e => hsb.extBut b o (Nat.ne_of_lt (Heap.lt_size e)) (Heap.get?_push_of_some _ e)
  have J : Inv X [] (startF N vs ws) (thaw H as) { s with heap := h₁, toks := s.toks + (ps.zip us).length } := inv_startN S hr.hd e1 lv r CA hns kp
  refine PySem.W.kla_codeExpr (wpAny_mono ((hbody X C _ run).run [] _ _ (thaw H as) Q1 J te) (fun v s' hq => ?_) fun e s' hq => hq)
  obtain ⟨w', H', J', rv, q⟩ := hq
  exact ⟨w', H', J'.os, J'.bare, J'.base, J'.hok, rv, q⟩
end
end Y

/-! Y21: calls, level by level. -/
namespace Y
open PySem PySem.Spec PyProof.Rows L2 NdefX
/-- the def at a place: its text in the model, and that its body is what the evaluator runs -/
def FnSnd (M : Wd) (G : Gd) (i : Nat) (F : Fn) : Prop :=
  ∃ (name qual : Str) (params : Arguments) (body : List Stmt) (scope : Scope) (dV kV doc pm cdv ct oc : Value) (an od : Option Addr) (osl : Array (Option Value)) (N ps : List Str),
    M.K.lookup (G.fadr i) = some ⟨oc, od, .func (PySem.W.fnOf name qual params body scope dV kV doc pm an cdv ct), osl⟩ ∧ PySem.W.codeIn M.K cdv qual = true ∧ FnScope N ps scope ∧
    (∀ us : List Value, us.length = ps.length → bindArgs (PySem.W.fnOf name qual params body scope dV kV doc pm an cdv ct) ⟨us, []⟩ = pure (ps.zip us)) ∧
    F.np = ps.length ∧ F.ns = N.length ∧ F.caps.Nodup ∧ (∀ i ∈ F.caps, ∃ x, N[i]? = some x ∧ scope.names.lookup x = some .cell) ∧
    ∀ (cs : CSem) (k : Nat) (X : Cx) (C : Cfg), 2 ≤ k → CC M G cs k → Run true M G cs k N scope qual cdv F.caps X C → PSs X body (tS C (ex F.body))
/-- the lambda at a place -/
def LmSnd (M : Wd) (G : Gd) (t : LamT) (L : Lm) : Prop :=
  ∃ (N ps : List Str), NScope N ps t.caps t.scope ∧
    (∀ (cl : List (Str × Addr)) (pm cv ctv : Value) (us : List Value), us.length = ps.length → bindArgs (PySem.W.kla_fn "<lambda>" t.qual t.params t.body t.scope cl pm cv ctv) ⟨us, []⟩ = pure (ps.zip us)) ∧
    L.np = ps.length ∧
    ∀ (cs : CSem) (k : Nat) (X : Cx) (C : Cfg) (cd : Value), 2 ≤ k → CC M G cs k → Run false M G cs k N t.scope t.qual cd ((List.range t.caps.length).map (ps.length + ·)) X C → PE X t.body (tE C (ev L.body))
theorem cc_all {M : Wd} {G : Gd} {P : Prog} (hf : ∀ i F, P.fn i = some F → FnSnd M G i F) (hl : ∀ kk L, P.lm kk = some L → ∀ t, G.lam kk t → LmSnd M G t L) : ∀ n, CC M G (CS P n) (n + 2)
  | 0 => fun d a A outer s H us vs Q E μ h ds hr hgd e0 rd rv sr rs af => by
    cases d <;> exact af.elim
  | n + 1 => fun d a A outer s H us vs Q E μ h ds hr hgd e0 rd rv sr rs af => by
    cases rd with
    | p h => exact af.elim
    | ref h => exact af.elim
    | tup _ _ => exact af.elim
    | lst _ _ => exact af.elim
    | fn i =>
      replace af : AftC G μ H Q E (CS P (n + 1) (.fn i) ds h) := af
      unfold CS at af; dsimp only at af
      cases q : P.fn i with
      | none => rw [q] at af; exact af.elim
      | some F =>
        rw [q] at af
        obtain ⟨name, qual, params, body, scope, dV, kV, doc, pm, cdv, ct, oc, an, od, osl, N, ps, h1, h2, h3, h4, h5, h6, h7, h8, h9⟩ := hf i F q
        have hm := (e0.bs _ _ ((e0.mod.kin : M.K.In M.base) _ _ h1)).1
        exact ⟨⟨_, _, _, _, hm⟩, fn_run h1 h2 h3 h5 h6 h7 h8 (fun X C r => h9 _ (n + 2) X C (by omega) (cc_all hf hl n) r) (fun lv => .of_eq (h4 us (by rw [← rv.length, lv]))) hr hgd e0 rv sr rs af⟩
    | clo hc =>
      rename_i kk ls
      replace af : AftC G μ H Q E (CS P (n + 1) (.clo kk ls) ds h) := af
      unfold CS at af; dsimp only at af
      cases q : P.lm kk with
      | none => rw [q] at af; exact af.elim
      | some L =>
        rw [q] at af
        obtain ⟨t, ht, hc⟩ := hc
        obtain ⟨N, ps, h1, h2, h3, h4⟩ := hl kk L q t ht
        exact lam_run h1 h2 h3 (fun X C cd r => h4 _ (n + 2) X C cd (by omega) (cc_all hf hl n) r) hr hgd e0 rv sr hc rs af
end Y

/-! Y22: exceptions made. -/
namespace Y
open PySem PySem.Spec PyProof.Rows L2
section
variable {X : Cx} {e : PySem.Expr} {es : List PySem.Expr} {ta : TA} {p1 p2 pos : Pos} {x : Str} {C0 : Addr} {mc : Value}
/-- B.__init__(self, ..), B an own class that has its __init__ of ValueError -/
theorem pe_pinit {pl : Sem Bool} (hg : Gl X x) (hm : X.mg x = some (.ref C0)) (hdb : (x == ("__debug__" : Str)) = false) (hty : PySem.W.typeIn X.K (.ref C0) = some mc) (hsp : PySem.W.specialIn X.K (.ref C0) "__getattribute__" = some (some (.builtin "type.__getattribute__")))
    (hrd : PySem.W.readsIn X.K C0 mc = true)
    (vV : PySem.W.findCls X.K (.ref C0) mc "__init__" = some (.val (.builtin "ValueError.__init__"))) (ha : PA X (e :: es) ta)
    (hc : eval (.Call (.Attribute (.Name x p1) "__init__" p2) (e :: es) [] pos) X.env = (do
      let ov ← eval (.Name x p1) X.env
      standAt p2.atName
      let (f, first) ← holding [ov] (getMethod ov "__init__" pl)
      callWith pos f first (backTo pos (starEach (e :: es) X.env)) (backToKw pos (keywordEach [] X.env))) := by rfl)
    (he : starEach (e :: es) X.env = (false, eval e X.env) :: starEach es X.env := by rfl) (hpl : (backTo pos (starEach es X.env)).any (·.1) = false := by rfl) :
    PE X (.Call (.Attribute (.Name x p1) "__init__" p2) (e :: es) [] pos) (tVeI X.K ta) := by
  refine ⟨fun pins s σ H Q I h => ?_⟩
  refine PySem.W.methodCall_KW (ld_glob I hg hm ?_ hdb) hc
  obtain ⟨m, fr⟩ := I.fr
  refine PySem.W.method_of_cls fr I.ok.mod.kin hsp (PySem.W.cls_val fr I.ok.mod.kin hty hrd vV (by decide +kernel) ?_)
  show wpAny _ _ (callWith pos (Value.builtin "ValueError.__init__") [] (backTo pos (starEach (e :: es) X.env)) []) _ _ _
  refine PyProof.Rows.callWith_method1 (thn (ha.run pos pins _ σ H _ (I.tok _) h) fun us s1 ⟨vs, H1, I1, r1, a, C, ws, ev, hl, T, ea, q⟩ => ?_) he hpl
  subst ev
  cases r1 with
  | @cons _ u0 _ ur ra rw' =>
    obtain rfl : u0 = Value.ref a := ra
    have room : ur.length ≤ sizeLine := by
      rw [← Paired.length rw', sizeLine_eq]
      omega
    exact oinit_ok T I1 ea room fun s' J => ⟨.non, H1, J, rfl, q⟩
end
/-- what the __init__ of an own exception promises: its fields are what was handed in -/
def spInit (C : Addr) (fs : List Str) : Sp := fun vs H Q E => ∃ (a : Addr) (ws : List V), vs = .ref a :: ws ∧ ws.length = fs.length ∧ H a = some (exo a C none) ∧
  ∀ (d : Addr) (fz : List (Str × V)), H d = none → d ≠ a → (∀ (k : Nat) (f : Str) (v : V), fs[k]? = some f → ws[k]? = some v → fz.lookup f = some v) → Q .non (upd (upd H d (exd d fz)) a (exo a C (some d)))
section
variable {X : Cx} {C : Cfg} {e : PySem.Expr} {es : List PySem.Expr} {p pos pos2 : Pos} {x : Str} {c : Nat} {mes : SL}
/-- raise c(e, ..), c an own exception with its own __init__ -/
theorem y_raise {CX : CXT} {fI : Addr} {k : Nat} {fd : FuncData} {ps : List Str} (T : OexC X.K (C.G.cadr c)) (iC : PySem.W.findIn X.K (.ref (C.G.cadr c)) "__init__" = some (some (.ref fI))) (tI : PySem.W.typeIn X.K (.ref fI) = some (.type "function"))
    (F1 : FnOk X.prog X.w X.K X.mg X.base CX k fI fd ps (spInit (C.G.cadr c) (C.G.cfld c))) (hr : Room (k + 1) X.A) (hb : L2.Binds X.K fd ps []) (hx : Passes CX X (fun _ _ _ => False)) (hg : Gl X x) (hm : X.mg x = some (.ref (C.G.cadr c))) (hcalm : X.calm = true) (tk : Takes X C.W)
    (ha : PA X (e :: es) (tA C mes)) (hdb : (x == ("__debug__" : Str)) = false) (he : starEach (e :: es) X.env = (false, eval e X.env) :: starEach es X.env) (hpl : (backTo pos (starEach es X.env)).any (·.1) = false)
    (hlen : ∀ cs r h ds h1, mes cs r h = .ok ds h1 → ds.length = (C.G.cfld c).length) (hl : (C.G.cfld c).length ≤ 1000) (hcn : c < C.G.cn) :
    PS X (.Raise (some (.Call (.Name x p) (e :: es) [] pos)) none pos2) (tS C (sRaise c mes)) :=
  PS.w (ps_raise hcalm tk (pmk_oex (dvs := []) T iC tI F1 hr hb .nil hx hg hm ha hdb he hpl)) fun D σ H hh => by
    obtain ⟨μ, r, h, s, a⟩ := hh
    refine ⟨μ, r, h, s, ?_⟩
    unfold sRaise at a
    cases q : mes C.cs r h with
    | bad => rw [q] at a; exact a.elim
    | exn c' fs h1 =>
      rw [q] at a
      exact fun μ' cls dd H' g s' rx => a μ' σ H' cls dd g s' rx
    | ok ds h1 =>
      rw [q] at a
      intro μ' vs H' g s' rs
      have lv : vs.length = (C.G.cfld c).length := by rw [← rs.length]; exact hlen _ _ _ _ _ q
      refine ⟨by rw [lv]; exact hl, fun a0 na => ⟨a0, vs, by simp, lv, upd_same, fun d fz nd ne hfz => ⟨rfl, d, fz, upd_same, by rw [upd_ne ne, upd_same], by rw [upd_ne ne] at nd; exact nd, ?_⟩⟩⟩
      have nd' : H' d = none := by rw [upd_ne ne] at nd; exact nd
      have eH : upd (L2.del (upd (upd (upd H' a0 (exo a0 (C.G.cadr c) none)) d (exd d fz)) a0 (exo a0 (C.G.cadr c) (some d))) a0) d (.xd fz) = upd H' d (.xd fz) := by
        funext b
        by_cases hb : b = d
        · subst hb; rw [upd_same, upd_same]
        · rw [upd_ne hb, upd_ne hb]
          by_cases hb2 : b = a0
          · subst hb2; rw [L2.del_same, na]
          · rw [L2.del_ne hb2, upd_ne hb2, upd_ne hb, upd_ne hb2]
      rw [eH]
      have kp : ∀ b o, H' b = some o → upd H' d (.xd fz) b = some o := fun b o z => by
        rw [upd_ne fun y => by subst y; rw [nd'] at z; cases z]; exact z
      refine a μ' σ _ _ _ (g.trans (Gr.of_keep kp)) (s'.grow kp) ⟨hcn, rfl, d, fz, rfl, upd_same, hlen _ _ _ _ _ q, fun k x f e1 e2 => ?_⟩
      obtain ⟨v, e3, e4⟩ := rs.get e1
      exact ⟨v, hfz k f v e2 e3, e4.mono (keep_kp kp)⟩
end
end Y

/-! Y23: the __init__ of an own exception. -/
namespace Y
open PySem PySem.Spec PyProof.Rows L2
theorem zip_rev {β : Type} : ∀ {ps : List Str} {us : List β} {i : Nat} {x : Str} {u : β}, ps.Nodup → ps[i]? = some x → us[i]? = some u → (ps.zip us).reverse.lookup x = some u := by
  intro ps
  induction ps with
  | nil => intro us i x u _ h _; simp at h
  | cons p ps ih =>
    intro us i x u nd h1 h2
    cases us with
    | nil => simp at h2
    | cons v us =>
      rw [List.zip_cons_cons, List.reverse_cons, List.lookup_append]
      cases i with
      | zero =>
        simp only [List.getElem?_cons_zero, Option.some.injEq] at h1 h2
        subst h1 h2
        have hn : (ps.zip us).reverse.lookup p = none := by
          cases q : (ps.zip us).reverse.lookup p with
          | none => rfl
          | some w => exact absurd (List.of_mem_zip (List.mem_reverse.mp (PySem.mem_of_lookup q))).1 (List.nodup_cons.mp nd).1
        rw [hn]
        simp [List.lookup]
      | succ i =>
        have e := ih (List.nodup_cons.mp nd).2 (by simpa using h1) (by simpa using h2)
        rw [e]; rfl
/-- self.f = f; .. -/
inductive IniB : List Stmt → List Str → Prop
  | nil : IniB [] []
  | cons {f : Str} {p1 p2 p3 p4 : Pos} {b : List Stmt} {fs : List Str} (hs : ∀ env, swapsWith (.Name f p3) (some (.Attribute (.Name "self" p1) f p2)) p4.line env = pure false) : IniB b fs → IniB (.Assign [.Attribute (.Name "self" p1) f p2] (.Name f p3) p4 :: b) (f :: fs)
section
variable {X : Cx} {C a : Addr} {σ : L2.St}
/-- what the fields' names must be -/
def IniF (X : Cx) (C : Addr) (σ : L2.St) (n : Nat) (fs : List Str) (ws : List V) : Prop := ∀ (k : Nat) (f : Str) (v : V), fs[k]? = some f → ws[k]? = some v →
  X.N[n + k]? = some f ∧ Vis X.env.scope f ∧ (f == ("__debug__" : Str)) = false ∧ (f == ("__classdict__" : Str)) = false ∧ PySem.W.findIn X.K (.ref C) f = some none ∧ σ[n + k]? = some (some v)
theorem IniF.tail {n : Nat} {f : Str} {fs : List Str} {v : V} {ws : List V} (h : IniF X C σ n (f :: fs) (v :: ws)) : IniF X C σ (n + 1) fs ws := fun k g w e1 e2 => by
  have := h (k + 1) g w (by simpa using e1) (by simpa using e2)
  rw [show n + 1 + k = n + (k + 1) by omega]
  exact this
theorem ini_old (T : OexC X.K C) (h0 : X.N[0]? = some ("self" : Str)) (v0 : Vis X.env.scope "self") (s0 : σ[0]? = some (some (.ref a))) {b : List Stmt} {fs : List Str} (hb : IniB b fs) : ∀ (ws : List V) (n : Nat), ws.length = fs.length → IniF X C σ n fs ws →
    ∃ t, PSs X b t ∧ ∀ (D : Ends) (H : Hp) (d : Addr) (fz : List (Str × V)), H a = some (exo a C (some d)) → H d = some (exd d fz) → a ≠ d → fz.length + fs.length ≤ 900 → D.nx σ (upd H d (exd d ((fs.zip ws).reverse ++ fz))) → t D σ H := by
  induction hb with
  | nil =>
    intro ws n _ _
    refine ⟨_, pss_nil, fun D H d fz ha hd _ _ q => ?_⟩
    have : upd H d (exd d fz) = H := by
      funext b
      by_cases hb : b = d
      · subst hb; rw [upd_same, hd]
      · rw [upd_ne hb]
    show D.nx σ H
    rw [← this]
    exact q
  | @cons f p1 p2 p3 p4 b fs hs _ ih =>
    intro ws n hl hf
    cases ws with
    | nil => cases hl
    | cons v ws =>
      obtain ⟨f1, f2, f3, f4, f5, f6⟩ := hf 0 f v rfl rfl
      obtain ⟨t, ht, q⟩ := ih ws (n + 1) (Nat.succ.inj hl) hf.tail
      refine ⟨_, pss_cons (ps_ost (pe_var h0 v0) (pe_var f1 f2 f3 f4) (hs _)) ht, fun D H d fz ha hd ne hz hq => ?_⟩
      refine ⟨v, f6, .ref a, s0, a, C, rfl, T, f5, .inr ⟨d, fz, ha, hd, by simp at hz; omega, ?_⟩⟩
      refine q D _ d ((f, v) :: fz) (by rw [upd_ne ne]; exact ha) upd_same ne (by simp at hz ⊢; omega) ?_
      have e2 : upd (upd H d (exd d ((f, v) :: fz))) d (exd d ((fs.zip ws).reverse ++ ((f, v) :: fz))) = upd H d (exd d (((f :: fs).zip (v :: ws)).reverse ++ fz)) := by
        funext b
        by_cases hb : b = d
        · subst hb; rw [upd_same, upd_same]; simp
        · rw [upd_ne hb, upd_ne hb, upd_ne hb]
      rw [e2]
      exact hq
theorem ini_new (T : OexC X.K C) (h0 : X.N[0]? = some ("self" : Str)) (v0 : Vis X.env.scope "self") (s0 : σ[0]? = some (some (.ref a))) {b : List Stmt} {f : Str} {fs : List Str} (hb : IniB b (f :: fs)) (ws : List V) (n : Nat) (hl : ws.length = fs.length + 1) (hz : fs.length ≤ 800) (hf : IniF X C σ n (f :: fs) ws) :
    ∃ t, PSs X b t ∧ ∀ (D : Ends) (H : Hp), H a = some (exo a C none) → (∀ d, H d = none → d ≠ a → D.nx σ (upd (upd H d (exd d (((f :: fs).zip ws).reverse))) a (exo a C (some d)))) → t D σ H := by
  cases hb with
  | @cons _ p1 p2 p3 p4 b _ hs hb =>
    cases ws with
    | nil => cases hl
    | cons v ws =>
      obtain ⟨f1, f2, f3, f4, f5, f6⟩ := hf 0 f v rfl rfl
      obtain ⟨t, ht, q⟩ := ini_old (a := a) T h0 v0 s0 hb ws (n + 1) (Nat.succ.inj hl) hf.tail
      refine ⟨_, pss_cons (ps_ost (pe_var h0 v0) (pe_var f1 f2 f3 f4) (hs _)) ht, fun D H ha hq => ?_⟩
      refine ⟨v, f6, .ref a, s0, a, C, rfl, T, f5, .inl ⟨ha, fun d nd ne => ?_⟩⟩
      refine q D _ d [(f, v)] upd_same (by rw [upd_ne ne, upd_same]) (Ne.symm ne) (by simp; omega) ?_
      have e2 : upd (upd (upd H d (exd d [(f, v)])) a (exo a C (some d))) d (exd d ((fs.zip ws).reverse ++ [(f, v)])) = upd (upd H d (exd d (((f :: fs).zip (v :: ws)).reverse))) a (exo a C (some d)) := by
        funext b
        by_cases hb : b = d
        · subst hb; rw [upd_same, upd_ne ne, upd_same]; simp
        · rw [upd_ne hb]
          by_cases hc : b = a
          · subst hc; rw [upd_same, upd_same]
          · rw [upd_ne hc, upd_ne hc, upd_ne hb, upd_ne hb]
      rw [e2]
      exact hq d nd ne
end
end Y

/-! Y24: the __init__ of an own exception, as a def. -/
namespace Y
open PySem PySem.Spec PyProof.Rows L2
section
variable {CX : CXT} {P : Program} {w : World} {K : PySem.W.Frag} {mg : Str → Option Value} {base : Heap}
/-- def __init__(self, f, ..): B.__init__(self, text); self.f = f; .. -/
theorem ini_ok {k : Nat} {fI C C0 : Addr} {name qual : Str} {params : Arguments} {scope : Scope} {dV kV doc pm cdv ct oc mc : Value} {an od : Option Addr} {osl : Array (Option Value)} {b : List Stmt} {f B txt : Str} {fs : List Str} {j : Nat} {p1 p2 p3 p4 pos pos2 : Pos} {pl : Env → Sem Bool}
    (lk : K.lookup fI = some ⟨oc, od, .func (PySem.W.fnOf name qual params (.Expr (.Call (.Attribute (.Name B p1) "__init__" p2) [.Name "self" p3, .Constant (.str txt) j p4] [] pos) pos2 :: b) scope dV kV doc pm an cdv ct), osl⟩)
    (hcd : PySem.W.codeIn K cdv qual = true) (S : FnScope ("self" :: f :: fs) ("self" :: f :: fs) scope) (T : OexC K C) (hb : IniB b (f :: fs)) (hz : fs.length ≤ 800)
    (hg : scope.names.lookup B = some .globalImplicit) (hm : mg B = some (.ref C0)) (hdb : (B == ("__debug__" : Str)) = false) (hty : PySem.W.typeIn K (.ref C0) = some mc) (hsp : PySem.W.specialIn K (.ref C0) "__getattribute__" = some (some (.builtin "type.__getattribute__")))
    (hrd : PySem.W.readsIn K C0 mc = true) (vV : PySem.W.findCls K (.ref C0) mc "__init__" = some (.val (.builtin "ValueError.__init__")))
    (hnm : ∀ g ∈ f :: fs, (g == ("__debug__" : Str)) = false ∧ (g == ("__classdict__" : Str)) = false ∧ PySem.W.findIn K (.ref C) g = some none)
    (hc : ∀ env : Env, eval (.Call (.Attribute (.Name B p1) "__init__" p2) [.Name "self" p3, .Constant (.str txt) j p4] [] pos) env = (do
      let ov ← eval (.Name B p1) env
      standAt p2.atName
      let (f, first) ← holding [ov] (getMethod ov "__init__" (pl env))
      callWith pos f first (backTo pos (starEach [.Name "self" p3, .Constant (.str txt) j p4] env)) (backToKw pos (keywordEach [] env))))
    (hs0 : ∀ env : Env, swapsWith (.Call (.Attribute (.Name B p1) "__init__" p2) [.Name "self" p3, .Constant (.str txt) j p4] [] pos) none pos2.line env = pure false) :
    FnOk P w K mg base CX (k + 1) fI (PySem.W.fnOf name qual params (.Expr (.Call (.Attribute (.Name B p1) "__init__" p2) [.Name "self" p3, .Constant (.str txt) j p4] [] pos) pos2 :: b) scope dV kV doc pm an cdv ct) ("self" :: f :: fs) (spInit C (f :: fs)) := by
  refine fn_of (N := "self" :: f :: fs) lk hcd S (fun vs H Q E ⟨a, ws, e1, e2, _⟩ => by subst e1; simp at e2 ⊢; exact e2) fun A outer s H vs Q E hr hsp => ?_
  obtain ⟨a, ws, e1, hl, ha, hq⟩ := hsp
  subst e1
  have vis : ∀ g ∈ ("self" :: f :: fs : List Str), Vis scope g := fun g m => (S.par g m).elim .inl fun z => .inr (.inl z)
  have st : ∀ (i : Nat) (v : V), (V.ref a :: ws)[i]? = some v → (L2.start ("self" :: f :: fs) (V.ref a :: ws))[i]? = some (some v) := fun i v e => start_get e
  obtain ⟨t, ht, q⟩ := ini_new (X := cxOf CX P w K mg base ("self" :: f :: fs) qual scope fI cdv A outer s H E) (C := C) (a := a) (σ := L2.start ("self" :: f :: fs) (V.ref a :: ws)) T rfl (vis _ (by simp)) (st 0 _ rfl) hb ws 1 (by simpa using hl) hz
    (fun i g v e1 e2 => by
      have m : g ∈ f :: fs := List.mem_of_getElem? e1
      obtain ⟨h1, h2, h3⟩ := hnm g m
      refine ⟨?_, vis g (List.mem_cons_of_mem _ m), h1, h2, h3, st (1 + i) v ?_⟩
      · rw [Nat.add_comm]; exact e1
      · rw [Nat.add_comm]; exact e2)
  refine ⟨_, pss_cons (ps_expr (pe_pinit (x := B) (C0 := C0) hg hm hdb hty hsp hrd vV (pa_cons (pe_var (i := 0) rfl (vis _ (by simp))) (pa_cons pe_str pa_nil)) (hc _)) (hs0 _)) ht, ?_⟩
  refine ⟨.ref a, st 0 _ rfl, a, C, [.str txt], rfl, by simp, T, ha, ?_⟩
  refine q _ H ha fun d nd ne => hq d _ nd ne fun i g v e1 e2 => zip_rev ?_ e1 e2
  exact (List.nodup_cons.mp S.nd).2
end
end Y

/-! Y25: try with several clauses `except c as n`. -/
namespace Y
open PySem PySem.Spec PyProof.Rows L2
/-- the ends behind a suite: the name is gone -/
abbrev goneD (D : Ends) (i : Nat) : Ends := { nx := fun σ H => D.nx (σ.set i none) H, rt := D.rt, bk := fun σ H => D.bk (σ.set i none) H, ct := fun σ H => D.ct (σ.set i none) H }
/-- what the clauses ask of the body's exception -/
def wAsM (K : PySem.W.Frag) (Wo : WX) (D : Ends) (i : Nat) : List (Value × (Addr → Value → Option Addr → TS)) → WX
  | [] => Wo
  | (c, ts) :: l => fun cls d σ H => ∃ b, PySem.W.exmOne K cls c = some b ∧ (b = true → i < σ.length → ∀ a, H a = none → ts a cls d (goneD D i) (σ.set i (some (.ref a))) H) ∧ (b = false → wAsM K Wo D i l cls d σ H)
inductive AsOk (X : Cx) (n : Str) : List ExceptHandler → List (Value × (Addr → Value → Option Addr → TS)) → Prop
  | nil : AsOk X n [] []
  | cons {x : Str} {c : Value} {ts : Addr → Value → Option Addr → TS} {s0 : Stmt} {ss : List Stmt} {pa pb : Pos} {hs : List ExceptHandler} {l : List (Value × (Addr → Value → Option Addr → TS))} (nm : Names X x c)
      (su : ∀ (a : Addr) (ob : Obj) (cls : Value) (d : Option Addr) (pn : List (Addr × Obj)), Zc cls d ob → (∃ vs, ob.data = .fields vs) → PSs (X.suite a ((a, ob) :: pn)) (s0 :: ss) (ts a cls d)) (more : AsOk X n hs l) :
      AsOk X n (.ExceptHandler (some (.Name x pa)) (some n) (s0 :: ss) pb :: hs) ((c, ts) :: l)
section
variable {X : Cx} {n : Str} {i : Nat} {body : List Stmt} {k0 : ExceptHandler} {ks : List ExceptHandler} {l : List (Value × (Addr → Value → Option Addr → TS))} {pos : Pos} {tb : WX → TS} {Wo : WX}
theorem y_tryAs (stk : X.stack = X.env :: X.outer) (fr : X.env.frame = some X.env.locals) (nd : X.N.Nodup) (at_ : X.N[i]? = some n) (lc : X.env.kindOf n = some .local) (tk : Takes X Wo)
    (hb : ∀ (W : WX) (pn : List (Addr × Obj)) (xe : Value → Shared → Prop), Takes (X.tr pn xe) W → PassesOwn (model X.prog X.w) X.A X.env xe → PSs (X.tr pn xe) body (tb W))
    (hk : AsOk X n (k0 :: ks) l) : PS X (.Try body (k0 :: ks) [] [] pos) (fun D σ H => tb (wAsM X.K Wo D i l) D σ H) := by
  refine ⟨fun pins s σ H D I h => ?_⟩
  have okX := I.ok
  have frm : X.A.frames = some (X.env :: X.outer) := okX.frames.trans (by rw [stk])
  have isl : Loc X.env.scope n := .inl lc
  let after : Value → Shared → Prop := fun e s₁ => wpAny (model X.prog X.w) X.A (noteFrame e X.env) (fun _ s₂ => wpAny (model X.prog X.w) X.A (setFlight e none) (fun _ s₃ => wpAny (model X.prog X.w) X.A (handleBy e X.env (k0 :: ks)) (SP X pins D) X.xe s₃) X.xe s₂) X.xe s₁
  have took : Takes (X.tr (X.pn ++ pins) after) (wAsM X.K Wo D i l) := fun u s' xx => by
    obtain ⟨a, B, sI, pins', σ', H', cls, d, eu, J', nb, up, sky, na, os, ag, w⟩ := xx
    subst eu
    have J := J'.ofTry (pins := pins) okX
    have sky2 : Sky B (X.env :: X.outer) a (Zc cls d) X.env.locals s'.heap := stk ▸ sky
    show wpAny (model X.prog X.w) X.A (noteFrame (.ref a) X.env) (fun _ s₂ => wpAny (model X.prog X.w) X.A (setFlight (.ref a) none) (fun _ s₃ => wpAny (model X.prog X.w) X.A (handleBy (.ref a) X.env (k0 :: ks)) (SP X pins D) X.xe s₃) X.xe s₂) X.xe s'
    refine Sky.land Zc.steady frm fr sky2 fun hp3 fl up3 => ?_
    have J3 : Inv X pins σ' H' { s' with heap := hp3 } := J.landed nb fl.1 (up.trans up3) os ag
    obtain ⟨ox, vx, gx, zx, dx⟩ := fl.there
    have nofr : a ∉ frs (X.env :: X.outer) := fun hm => by
      obtain ⟨_, o', e', hnf⟩ := fl.2.2.1.mem hm
      rw [gx] at e'
      cases e'
      exact hnf _ dx
    have ne1 : a ≠ X.env.locals := fun z => nofr (List.mem_filterMap.mpr ⟨X.env, by simp, by rw [fr, z]⟩)
    have ne2 : a ∉ X.fs := fun hm => by
      obtain ⟨e, he, q⟩ := List.mem_filterMap.mp hm
      exact nofr (List.mem_filterMap.mpr ⟨e, by simp [he], q⟩)
    have S3 := J3.suite gx dx na ne1 ne2
    have chain : ∀ {ks' : List ExceptHandler} {l' : List (Value × (Addr → Value → Option Addr → TS))}, AsOk X n ks' l' → wAsM X.K Wo D i l' cls d σ' H' → wpAny (model X.prog X.w) X.A (handleBy (.ref a) X.env ks') (SP X pins D) X.xe { s' with heap := hp3 } := by
      intro ks' l' ok
      induction ok with
      | nil =>
        intro w
        refine wpAny_handleBy_nil ?_
        obtain ⟨_, _, _, oe, vs, T, oT, ts', he, hz, hd, h1, hr⟩ := id fl
        have out : wpAny (model X.prog X.w) X.A (setFlight (.ref a) X.env.frame) (fun _ s4 => wpAny (model X.prog X.w) X.A (throw (.ref a) : Sem Flow) (SP X pins D) X.xe s4) X.xe { s' with heap := hp3 } := by
          rw [fr]
          refine HandSPX.setFlight_upZ fl fun hp4 hh up4 => wpAny_throw (tk _ _ ⟨a, B, sI, pins, σ', H', cls, d, rfl, J, nb, (up.trans up3).trans up4, .inr (.inr (by rw [stk]; exact hh)), na, os, ag, w⟩)
        unfold PySem.passOn
        refine wpAny_bind (wpAny_field he hd h1 ?_)
        rw [if_neg (by simp : ¬ ((Value.ref T == Value.none) = true))]
        first
          | exact wpAny_bind (wpAny_pure (wpAny_bind out))
          | exact wpAny_bind out
      | @cons x c ts s0 ss pa pb ks2 l2 nm su _ ih =>
        intro w
        obtain ⟨b, eb, yes, no⟩ := w
        refine wpAny_handleBy_cons (codeAny_handlers_test ?_) (fun q => by cases q)
        have look : PySem.W.Looks (model X.prog X.w) hp3 (typeOf (.ref a)) cls := fun A Q E s k q => wpAny_typeOf_ref (k _ _ gx) (by rw [zx.1]; exact q)
        have named : ∀ {Q : Value → Shared → Prop} {E : Value → Shared → Prop}, Q c { s' with heap := hp3 } → wpAny (model X.prog X.w) (X.A.mark (some (.ref a))) (eval (.Name x pa) X.env) Q E { s' with heap := hp3 } := fun {Q E} q => by
          obtain ⟨g1, g2, g3 | ⟨g3, g4, g5⟩⟩ := nm
          · exact ld_glob (X := X.suite a ((a, ox) :: (X.pn ++ pins))) S3 g1 g3 q g2
          · exact ld_blt (X := X.suite a ((a, ox) :: (X.pn ++ pins))) S3 g1 g3 g4 q g5 g2
        refine named ((PySem.W.exm_one (M := model X.prog X.w) J3.kIn look eb).here ?_)
        cases b with
        | false => exact ih (no rfl)
        | true =>
          refine codeAny_handlers_suite_as (HandSPX.lands_againZ fl fun hp4 fl4 up4 => ?_)
          have J4 : Inv X pins σ' H' { s' with heap := hp4 } := J.landed nb fl4.1 ((up.trans up3).trans up4) os ag
          obtain ⟨oy, vy, gy, zy, dy⟩ := fl4.there
          have S4 := J4.suite gy dy na ne1 ne2
          refine store_ok (X := X.suite a ((a, oy) :: (X.pn ++ pins))) (v := .ref a) S4 nd at_ isl rfl (fun s5 S5 => ?_) (.inr lc)
          refine wpAny_mono ((su a oy cls d (X.pn ++ pins) zy ⟨_, dy⟩).run [] s5 _ H' _ S5 (yes rfl (by rw [J3.len]; exact (List.getElem?_eq_some_iff.mp at_).1) a na)) (fun f s6 hsp => ?_) (fun _ _ z => nomatch z)
          have done : ∀ {σ6 : L2.St} {H6 : Hp} {R : Shared → Prop}, Inv (X.suite a ((a, oy) :: (X.pn ++ pins))) [] σ6 H6 s6 → (∀ s7, Inv X pins (σ6.set i none) H6 s7 → R s7) →
              wpAny (model X.prog X.w) X.A (do bindName X.env n .none; unbindBehindTheSuite X.env n pb) (fun _ s7 => R s7) X.xe s6 := fun {σ6 H6 R} S6 hr => gone_ok (S6.unsuite okX) nd at_ lc hr
          cases f with
          | next => obtain ⟨_, _, S6, q6⟩ := hsp; exact done S6 fun s7 J7 => ⟨_, _, J7, q6⟩
          | brk => obtain ⟨_, _, S6, q6⟩ := hsp; exact done S6 fun s7 J7 => ⟨_, _, J7, q6⟩
          | cont => obtain ⟨_, _, S6, q6⟩ := hsp; exact done S6 fun s7 J7 => ⟨_, _, J7, q6⟩
          | ret u => obtain ⟨_, _, _, S6, r6, q6⟩ := hsp; exact done S6 fun s7 J7 => ⟨_, _, _, J7, r6, q6⟩
    exact chain hk w
  refine wpAny_Try_except (wpAny_mono ((hb _ _ _ took PassesOwn.looking).run [] s σ H D (I.toTry _) h) (fun f s1 hsp => ?_) (fun _ _ z => z))
  cases f with
  | next => obtain ⟨σ', H', J', q⟩ := hsp; exact wpAny_execs_nil ⟨σ', H', J'.ofTry okX, q⟩
  | brk => obtain ⟨σ', H', J', q⟩ := hsp; exact ⟨σ', H', J'.ofTry okX, q⟩
  | cont => obtain ⟨σ', H', J', q⟩ := hsp; exact ⟨σ', H', J'.ofTry okX, q⟩
  | ret u => obtain ⟨v, σ', H', J', r, q⟩ := hsp; exact ⟨v, σ', H', J'.ofTry okX, r, q⟩
end
end Y

/-! Y26: suites of except clauses that tell the fault. -/
namespace Y
open PySem PySem.Spec PyProof.Rows L2
/-- what a clause's tuple tells: texts, fields of the fault -/
inductive XiE (n : Str) (fld : List Str) : List PySem.Expr → List XI → Prop
  | nil : XiE n fld [] []
  | c {x : Str} {j : Nat} {p : Pos} {es : List PySem.Expr} {xs : List XI} : XiE n fld es xs → XiE n fld (.Constant (.str x) j p :: es) (.c (.str x) :: xs)
  | f {p1 p2 : Pos} {k : Nat} {f : Str} {es : List PySem.Expr} {xs : List XI} : fld[k]? = some f → XiE n fld es xs → XiE n fld (.Attribute (.Name n p1) f p2 :: es) (.f k :: xs)
/-- its reading -/
def taXi (a : Addr) (cls : Value) (d : Option Addr) (C : Addr) (i : Nat) (fld : List Str) : List XI → TA
  | [] => tNil
  | .c (.str x) :: xs => tCons (tC (.str x)) (taXi a cls d C i fld xs)
  | .c _ :: _ => fun _ _ _ => False
  | .f k :: xs => tCons (tXf a cls d C ((fld[k]?).getD "") (tVar i)) (taXi a cls d C i fld xs)
section
variable {X : Cx} {a C : Addr} {oe : Obj} {cls : Value} {d : Option Addr} {pn : List (Addr × Obj)} {n : Str} {i : Nat} {fld : List Str}
theorem xi_args (T : XfC X.K C) (hno : ∀ f ∈ fld, PySem.W.findIn X.K (.ref C) f = some none) (hz : Zc cls d oe) (hf : ∃ vs, oe.data = .fields vs) (hN : X.N[i]? = some n) (hv : Vis X.env.scope n) (hd : (n == ("__debug__" : Str)) = false) (hcd : (n == ("__classdict__" : Str)) = false)
    {es : List PySem.Expr} {xs : List XI} (h : XiE n fld es xs) : PA (X.suite a ((a, oe) :: pn)) es (taXi a cls d C i fld xs) := by
  induction h with
  | nil => exact pa_nil
  | c _ ih => exact pa_cons pe_str ih
  | @f p1 p2 k f es xs ef _ ih =>
    have e : (fld[k]?).getD "" = f := by rw [ef]; rfl
    unfold taXi
    rw [e]
    exact pa_cons (pe_xf T (hno f (List.mem_of_getElem? ef)) hz hf (pe_var (i := i) hN hv hd hcd)) ih
theorem xi_told {es : List PySem.Expr} {xs : List XI} (h : XiE n fld es xs) : ∀ (G : Gd) (μ : List Addr) (σ : L2.St) (H : Hp) (dd : Addr) (ws : List (Str × V)) (fs ds : List D) (Q : List V → Hp → Prop), σ[i]? = some (some (.ref a)) → cls = .ref C → d = some dd → H dd = some (.xd ws) →
      (∀ (k : Nat) (x : D) (f : Str), fs[k]? = some x → fld[k]? = some f → ∃ v, ws.lookup f = some v ∧ RD G μ H x v) → xs.mapM (xiV fs) = some ds → (∀ vs, RDs G μ H ds vs → Q vs H) → taXi a cls d C i fld xs σ H Q := by
  induction h with
  | nil =>
    intro G μ σ H dd ws fs ds Q _ _ _ _ _ em q
    cases em
    exact q [] .nil
  | @c x j p es xs _ ih =>
    have h2 := ih
    intro G μ σ H dd ws fs ds Q s0 e1 e2 e3 e4 em q
    rw [List.mapM_cons] at em
    obtain ⟨y, e5, em⟩ := Option.bind_eq_some_iff.mp em
    obtain ⟨ys, e6, em⟩ := Option.bind_eq_some_iff.mp em
    cases e5
    cases em
    exact h2 G μ σ H dd ws fs ys _ s0 e1 e2 e3 e4 e6 fun vs r => q _ (.cons (.p (.str _)) r)
  | @f p1 p2 k f es xs ef _ ih =>
    have h2 := ih
    intro G μ σ H dd ws fs ds Q s0 e1 e2 e3 e4 em q
    rw [List.mapM_cons] at em
    obtain ⟨y, e5, em⟩ := Option.bind_eq_some_iff.mp em
    obtain ⟨ys, e6, em⟩ := Option.bind_eq_some_iff.mp em
    cases em
    have e5 : fs[k]? = some y := by rw [← nth_eq]; exact e5
    obtain ⟨v, e7, e8⟩ := e4 k y f e5 ef
    have e : (fld[k]?).getD "" = f := by rw [ef]; rfl
    unfold taXi
    rw [e]
    refine ⟨.ref a, s0, rfl, e1, dd, ws, v, e2, e3, e7, ?_⟩
    exact h2 G μ σ H dd ws fs ys _ s0 e1 e2 e3 e4 e6 fun vs r => q _ (.cons e8 r)
end
end Y

/-! Y27: try, told of the evaluator. -/
namespace Y
open PySem PySem.Spec PyProof.Rows L2
section
variable {X : Cx} {C : Cfg} {n : Str} {i : Nat} {pos : Pos}
/-- the clauses, as the evaluator has them -/
inductive HdE (X : Cx) (C : Cfg) (n : Str) : List ExceptHandler → List (Nat × Nat × List XI) → Prop
  | nil : HdE X C n [] []
  | cons {x : Str} {c j : Nat} {es : List PySem.Expr} {xs : List XI} {p1 p2 p3 p4 : Pos} {x1 : Nat} {hs : List ExceptHandler} {l : List (Nat × Nat × List XI)} (hcn : c < C.G.cn) (nm : Names X x (.ref (C.G.cadr c))) (T : XfC X.K (C.G.cadr c)) (hno : ∀ f ∈ C.G.cfld c, PySem.W.findIn X.K (.ref (C.G.cadr c)) f = some none)
      (hx : XiE n (C.G.cfld c) es xs) (hl : es.length ≤ 1000) (more : HdE X C n hs l) : HdE X C n (.ExceptHandler (some (.Name x p1)) (some n) [.Return (some (.Tuple es x1 p2)) p3] p4 :: hs) ((c, j, xs) :: l)
theorem XiE.len {fld : List Str} {es : List PySem.Expr} {xs : List XI} (h : XiE n fld es xs) : xs.length = es.length := by
  induction h with
  | nil => rfl
  | c _ ih => simp [ih]
  | f _ _ ih => simp [ih]
theorem mapM_len {α β : Type} {f : α → Option β} : ∀ {xs : List α} {ys : List β}, xs.mapM f = some ys → ys.length = xs.length
  | [], ys, e => by cases e; rfl
  | x :: xs, ys, e => by
    rw [List.mapM_cons] at e
    obtain ⟨y, _, e⟩ := Option.bind_eq_some_iff.mp e
    obtain ⟨zs, e6, e⟩ := Option.bind_eq_some_iff.mp e
    cases e
    simp [mapM_len e6]
theorem hd_ok (hN : X.N[i]? = some n) (hv : Vis X.env.scope n) (hd : (n == ("__debug__" : Str)) = false) (hcd : (n == ("__classdict__" : Str)) = false) (hex : ∀ c c' : Nat, c < C.G.cn → c' < C.G.cn → PySem.W.exmOne X.K (.ref (C.G.cadr c)) (.ref (C.G.cadr c')) = some (decide (c' = c)))
    {hs : List ExceptHandler} {l : List (Nat × Nat × List XI)} (h : HdE X C n hs l) : ∃ ts, AsOk X n hs ts ∧ ∀ (D : Ends) (μ : List Addr) (r : Rho) (σ : L2.St) (H : Hp) (h : Hh) (c : Nat) (fs : List Y.D) (cls : Value) (dd : Option Addr), Sr C.G C.oc μ r h σ H → RX C.G μ H c fs cls dd → AftS C D μ r σ H (catch_ l c fs r h) → wAsM X.K C.W D i ts cls dd σ H := by
  induction h with
  | nil => exact ⟨[], .nil, fun D μ r σ H h c fs cls dd sr rx af => af μ σ H cls dd (Gr.refl _ _) sr rx⟩
  | @cons x c' j es xs p1 p2 p3 p4 x1 hs l hcn nm T hno hx hl more ih =>
    obtain ⟨ts, ok, go⟩ := ih
    refine ⟨(.ref (C.G.cadr c'), fun a cls d => tRet (tTup (taXi a cls d (C.G.cadr c') i (C.G.cfld c') xs))) :: ts, .cons nm (fun a oe cls d pn hz hf => pss_one (ps_ret (pe_tup (xi_args T hno hz hf hN hv hd hcd hx)))) ok, fun D μ r σ H h c fs cls dd sr rx af => ?_⟩
    have ec : cls = .ref (C.G.cadr c) := rx.2.1
    refine ⟨decide (c' = c), by rw [ec]; exact hex c c' rx.1 hcn, fun hb hi a na => ?_, fun hb => ?_⟩
    · have e : c' = c := of_decide_eq_true hb
      subst e
      unfold catch_ at af
      rw [if_pos rfl] at af
      cases q : xs.mapM (xiV fs) with
      | none => rw [q] at af; exact af.elim
      | some ds =>
        rw [q] at af
        obtain ⟨_, _, d, ws, e1, e2, e3, e4⟩ := rx
        refine xi_told hx C.G μ (σ.set i (some (.ref a))) H d ws fs ds _ (by rw [List.getElem?_set_self hi]) ec e1 e2 e4 q fun vs rs => ⟨?_, fun p np => ?_⟩
        · rw [← rs.length, mapM_len q, hx.len]
          exact Nat.le_trans hl (by rw [sizeLine_eq]; decide)
        · have g : Gr r.cl μ H μ (upd H p (.tup vs)) := Gr.laid np
          exact af μ σ _ r _ rfl g (sr.laid np) (RD.mkTup upd_same (rs.mono g.kp))
    · have ne : ¬ c' = c := of_decide_eq_false hb
      unfold catch_ at af
      rw [if_neg ne] at af
      exact go D μ r σ H h c fs cls dd sr rx af
end
end Y

/-! Y28: try, as the evaluator has it. -/
namespace Y
open PySem PySem.Spec PyProof.Rows L2
theorem Run.tr {st : Bool} {M : Wd} {G : Gd} {cs : CSem} {k : Nat} {N : List Str} {scope : Scope} {qual : Str} {cd : Value} {caps : List Nat} {X : Cx} {C : Cfg} (r : Run st M G cs k N scope qual cd caps X C) {pn : List (Addr × Obj)} {xe : Value → Shared → Prop} {W : WX}
    (tk : Takes (X.tr pn xe) W) (ps : PassesOwn (model X.prog X.w) X.A X.env xe) : Run st M G cs k N scope qual cd caps (X.tr pn xe) { C with W := W } :=
  { wd := r.wd, g := r.g, cs := r.cs, N := r.N, scope := r.scope, qual := r.qual, code := r.code, calm := r.calm, fn := r.fn, guards := r.guards, room := r.room, nd := r.nd, passes := ps, takes := tk,
    own := ⟨fun pn' xe' => r.own.at_ pn' xe', r.own.inj⟩, caps := r.caps, cell := r.cell, stk := r.stk }
section
variable {X : Cx} {C : Cfg} {n : Str} {i : Nat} {pos : Pos} {body : List Stmt} {k0 : ExceptHandler} {ks : List ExceptHandler} {l : List (Nat × Nat × List XI)} {mb : SS}
theorem y_try (stk : X.stack = X.env :: X.outer) (fr : X.env.frame = some X.env.locals) (nd : X.N.Nodup) (hN : X.N[i]? = some n) (lc : X.env.scope.names.lookup n = some .local) (tk : Takes X C.W) (hd : (n == ("__debug__" : Str)) = false) (hcd : (n == ("__classdict__" : Str)) = false)
    (hex : ∀ c c' : Nat, c < C.G.cn → c' < C.G.cn → PySem.W.exmOne X.K (.ref (C.G.cadr c)) (.ref (C.G.cadr c')) = some (decide (c' = c)))
    (hb : ∀ (W : WX) (pn : List (Addr × Obj)) (xe : Value → Shared → Prop), Takes (X.tr pn xe) W → PassesOwn (model X.prog X.w) X.A X.env xe → PSs (X.tr pn xe) body (tS { C with W := W } mb))
    (ck : Clk mb) (hk : HdE X C n (k0 :: ks) l) : PS X (.Try body (k0 :: ks) [] [] pos) (tS C (sTry mb l)) := by
  obtain ⟨ts, ok, go⟩ := hd_ok hN (.inl lc) hd hcd hex hk
  refine ⟨fun pins s σ H D I h => (y_tryAs stk fr nd hN lc tk (tb := fun W => tS { C with W := W } mb) hb ok).run pins s σ H D I ?_⟩
  obtain ⟨μ, r, h, sr, a⟩ := h
  refine ⟨μ, r, h, sr, ?_⟩
  have hk := ck C.cs r h
  show AftS { C with W := _ } D μ r σ H (mb C.cs r h)
  unfold sTry at a
  cases q : mb C.cs r h with
  | nx r1 h1 => rw [q] at a; exact a
  | rt d h1 => rw [q] at a; exact a
  | bk r1 h1 => rw [q] at a; exact a
  | ct r1 h1 => rw [q] at a; exact a
  | bad => rw [q] at a; exact a
  | exn c fs r1 h1 =>
    rw [q] at a hk
    exact fun μ' σ' H' cls dd g s' rx => go D μ' r1 σ' H' h1 c fs cls dd s' rx (AftS.mono g hk a)
end
end Y

/-! Y29: calls that see the objects alone that are handed in. -/
namespace Y
open PySem PySem.Spec PyProof.Rows L2
section
variable {G : Gd} {μ μ' : List Addr} {H : Hp} {f : Nat → Option Nat}
/-- places stand for the same addresses -/
def Same (f : Nat → Option Nat) (μ μ' : List Addr) : Prop := ∀ (l n : Nat) (a : Addr), f l = some n → μ[l]? = some a → μ'[n]? = some a
theorem RD.ren (sm : Same f μ μ') {d d' : D} {v : V} (e : ren f d = some d') (h : RD G μ H d v) : RD G μ' H d' v := by
  cases h with
  | p h => cases e; exact .p h
  | fn i => cases e; exact .fn i
  | ref h =>
    rename_i l a
    unfold Y.ren at e
    dsimp only at e
    cases q : f l with
    | none => rw [q] at e; cases e
    | some n => rw [q] at e; cases e; exact .ref (sm l n a q h)
  | clo _ => cases e
  | tup _ _ => cases e
  | lst _ _ => cases e
theorem RDs.ren (sm : Same f μ μ') : ∀ {ds ds' : List D} {vs : List V}, renL f ds = some ds' → RDs G μ H ds vs → RDs G μ' H ds' vs
  | [], _, _, e, .nil => by cases e; exact .nil
  | d :: r, _, _, e, .cons a b => by
    unfold renL at e
    cases q : Y.ren f d with
    | none => rw [q] at e; cases e
    | some d' =>
      rw [q] at e
      dsimp only at e
      cases q2 : renL f r with
      | none => rw [q2] at e; cases e
      | some r' => rw [q2] at e; cases e; exact .cons (a.ren sm q) (RDs.ren sm q2 b)
theorem KR.ren {κ : Type} (sm : Same f μ μ') : ∀ {l l' : List (κ × D)} {m : List (κ × V)}, renK f l = some l' → KR G μ H l m → KR G μ' H l' m
  | [], _, _, e, .nil => by cases e; exact .nil
  | (k, d) :: r, _, _, e, .cons a b => by
    unfold renK at e
    cases q : Y.ren f d with
    | none => rw [q] at e; cases e
    | some d' =>
      rw [q] at e
      dsimp only at e
      cases q2 : renK f r with
      | none => rw [q2] at e; cases e
      | some r' => rw [q2] at e; cases e; exact .cons ⟨a.1, RD.ren sm q a.2⟩ (KR.ren sm q2 b)
theorem HR.ren (sm : Same f μ μ') {o o' : Ob} {u : HO} (e : renO f o = some o') (h : HR G μ H o u) : HR G μ' H o' u := by
  cases o with
  | lst ds =>
    unfold renO at e
    dsimp only at e
    cases q : renL f ds with
    | none => rw [q] at e; cases e
    | some es => rw [q] at e; cases e; cases u <;> first | exact h.elim | exact RDs.ren sm q h
  | dk ds =>
    unfold renO at e
    dsimp only at e
    cases q : renK f ds with
    | none => rw [q] at e; cases e
    | some es => rw [q] at e; cases e; cases u <;> first | exact h.elim | exact KR.ren sm q h
  | dt ds =>
    unfold renO at e
    dsimp only at e
    cases q : renK f ds with
    | none => rw [q] at e; cases e
    | some es => rw [q] at e; cases e; cases u <;> first | exact h.elim | exact KR.ren sm q h
  | _ => cases e
theorem HR.notTbl {o : Ob} {u : HO} (h : HR G μ H o u) : ∀ ps, u ≠ .tbl ps := fun ps z => by
  subst z
  cases o <;> exact h
/-- the addresses of some places -/
def adr (μ : List Addr) (ls : List Nat) : List Addr := ls.map fun l => (μ[l]?).getD 0
theorem adr_at {ls : List Nat} (hl : ∀ l ∈ ls, l < μ.length) {j : Nat} {a : Addr} (e : (adr μ ls)[j]? = some a) : ∃ l, ls[j]? = some l ∧ μ[l]? = some a := by
  unfold adr at e
  rw [List.getElem?_map] at e
  obtain ⟨l, e1, e2⟩ := Option.map_eq_some_iff.mp e
  have := hl l (List.mem_of_getElem? e1)
  rw [List.getElem?_eq_getElem this] at e2
  exact ⟨l, e1, by rw [List.getElem?_eq_getElem this]; simpa using e2⟩
theorem adr_get {ls : List Nat} {j l : Nat} {a : Addr} (e : ls[j]? = some l) (e2 : μ[l]? = some a) : (adr μ ls)[j]? = some a := by
  unfold adr
  rw [List.getElem?_map, e, Option.map_some, e2]; rfl
theorem idx_at : ∀ {ls : List Nat} {k n : Nat}, idx ls k = some n → ls[n]? = some k
  | [], _, _, e => by cases e
  | l :: ls, k, n, e => by
    unfold idx at e
    split at e
    · rename_i h
      cases e
      rw [Nat.beq_eq.mp h]; rfl
    · cases q : idx ls k with
      | none => rw [q] at e; cases e
      | some m =>
        rw [q] at e; cases e
        have z := idx_at q
        simpa using z
theorem hasN_mem {l : Nat} : ∀ {ks : List Nat}, hasN l ks = false → l ∉ ks
  | [], _ => by simp
  | k :: ks, e => by
    unfold hasN at e
    split at e
    · cases e
    · rename_i h
      rw [List.mem_cons, not_or]
      exact ⟨fun z => h (by rw [z]; exact Nat.beq_refl _), hasN_mem e⟩
theorem once_nd : ∀ {ls acc : List Nat}, acc.Nodup → (once ls acc).Nodup
  | [], acc, h => by
    unfold once
    exact (List.reverse_perm acc).nodup_iff.mpr h
  | l :: ls, acc, h => by
    unfold once
    cases q : hasN l acc with
    | true => rw [if_pos rfl]; exact once_nd h
    | false => rw [if_neg (by decide)]; exact once_nd (List.nodup_cons.mpr ⟨hasN_mem q, h⟩)
theorem gather_ok {h : Hh} : ∀ {ls : List Nat} {h0 : Hh}, gather h f ls = some h0 → h0.length = ls.length ∧ ∀ (j l : Nat), ls[j]? = some l → ∃ o o', h[l]? = some o ∧ h0[j]? = some o' ∧ renO f o = some o'
  | [], h0, e => by
    cases e
    exact ⟨rfl, fun j l q => by simp at q⟩
  | l :: ls, h0, e => by
    unfold gather at e
    cases q1 : nth h l with
    | none => rw [q1] at e; cases e
    | some o =>
    rw [q1] at e
    dsimp only at e
    cases q2 : renO f o with
    | none => rw [q2] at e; cases e
    | some o' =>
    rw [q2] at e
    dsimp only at e
    cases q3 : gather h f ls with
    | none => rw [q3] at e; cases e
    | some r =>
    rw [q3] at e
    cases e
    obtain ⟨a1, a3⟩ := gather_ok q3
    refine ⟨by simp [a1], fun j l' q => ?_⟩
    cases j with
    | zero => simp at q; subst q; exact ⟨o, o', by rw [← nth_eq]; exact q1, rfl, q2⟩
    | succ j => obtain ⟨x, x', b1, b2, b3⟩ := a3 j l' (by simpa using q); exact ⟨x, x', b1, by simpa using b2, b3⟩
theorem scatter_ok : ∀ {ls : List Nat} {h h1 h2 : Hh}, scatter h f ls h1 = some h2 → ls.Nodup → (∀ l ∈ ls, l < h.length) → h2.length = h.length ∧ (∀ l, l ∉ ls → h2[l]? = h[l]?) ∧ ∀ (j l : Nat), ls[j]? = some l → ∃ o o', h2[l]? = some o' ∧ h1[j]? = some o ∧ renO f o = some o'
  | [], h, h1, h2, e, nd, hl => by
    unfold scatter at e
    cases e
    exact ⟨rfl, fun _ _ => rfl, fun j l q => by simp at q⟩
  | l :: ls, h, [], h2, e, nd, hl => by simp [scatter] at e
  | l :: ls, h, o :: r, h2, e, nd, hl => by
    unfold scatter at e
    cases q2 : renO f o with
    | none => rw [q2] at e; cases e
    | some o' =>
    rw [q2] at e
    dsimp only at e
    obtain ⟨n1, n2⟩ := List.nodup_cons.mp nd
    obtain ⟨a1, a2, a3⟩ := scatter_ok e n2 fun l' m => by rw [List.length_set]; exact hl l' (List.mem_cons_of_mem _ m)
    refine ⟨by rw [a1, List.length_set], fun l' m => ?_, fun j l' q => ?_⟩
    · rw [List.mem_cons, not_or] at m
      rw [a2 l' m.2, List.getElem?_set_ne (Ne.symm m.1)]
    · cases j with
      | zero =>
        simp at q; subst q
        exact ⟨o, o', by rw [a2 l n1, List.getElem?_set_self (hl l (by simp))], rfl, q2⟩
      | succ j => obtain ⟨x, x', b1, b2, b3⟩ := a3 j l' (by simpa using q); exact ⟨x, x', b1, by simpa using b2, b3⟩
end
section
variable {X : Cx} {C : Cfg} {k : Nat}
/-- a call by itself, from a body: nothing is asked of the frame's own cells -/
theorem run_iso (cc : CC (wd X) C.G C.cs k) (hr : Room k X.A) (hgd : X.A.guards = some []) (tk : Takes X C.W) {pins : List (Addr × Obj)} {σ : L2.St} {H : Hp} {s : Shared} {Q : VK} {us : List Value} {vs : List V} {μ : List Addr} {ρ : Rho} {h : Hh} {f : Nat} {ds : List D}
    (I : Inv X pins σ H s) (r : Vals vs us) (sr : Sr C.G C.oc μ ρ h σ H) (rs : RDs C.G μ H ds vs) (af : Aft C (RV C) μ ρ σ H (isoCall C.cs f ds h) Q) : wpAny (model X.prog X.w) X.A (call (.ref (C.G.fadr f)) us) (EP X pins σ Q) X.xe s := by
  unfold isoCall at af
  have nd : (handed h ds).Nodup := once_nd List.nodup_nil
  generalize handed h ds = ls at af nd
  unfold isoAt at af
  cases q1 : renL (idx ls) ds with
  | none => rw [q1] at af; exact af.elim
  | some ds' =>
  rw [q1] at af
  dsimp only at af
  cases q2 : gather h (idx ls) ls with
  | none => rw [q2] at af; exact af.elim
  | some h0 =>
  rw [q2] at af
  dsimp only at af
  obtain ⟨g1, g3⟩ := gather_ok q2
  have hlt2 : ∀ l ∈ ls, l < h.length := fun l m => by
    obtain ⟨j, hj⟩ := List.mem_iff_getElem?.mp m
    obtain ⟨o, _, e, _⟩ := g3 j l hj
    exact (List.getElem?_eq_some_iff.mp e).1
  have hlt : ∀ l ∈ ls, l < μ.length := fun l m => by rw [sr.len]; exact hlt2 l m
  have sm : Same (idx ls) μ (adr μ ls) := fun l n a e1 e2 => adr_get (idx_at e1) e2
  have ncl : ∀ l ∈ ls, l ∉ ρ.cl := fun l m m2 => by
    obtain ⟨j, hj⟩ := List.mem_iff_getElem?.mp m
    obtain ⟨o, o', e, _, e3⟩ := g3 j l hj
    obtain ⟨d, e4⟩ := sr.mem_own m2
    rw [e] at e4
    cases e4
    cases e3
  have rs0 : RDs C.G (adr μ ls) H ds' vs := rs.ren sm q1
  have sr0 : HRel C.G (adr μ ls) h0 H := by
    refine ⟨by unfold adr; rw [List.length_map, g1], fun l l' a _ _ e1 e2 => ?_, fun l o a e1 e2 _ => ?_, rfl, fun j l i a e1 _ => by simp at e1, Nat.zero_le _, fun i d e => by simp at e, List.nodup_nil, sr.tab⟩
    · obtain ⟨m1, a1, a2⟩ := adr_at hlt e1
      obtain ⟨m2, b1, b2⟩ := adr_at hlt e2
      have := sr.inj m1 m2 a (ncl m1 (List.mem_of_getElem? a1)) (ncl m2 (List.mem_of_getElem? b1)) a2 b2
      subst this
      obtain ⟨c1, c2⟩ := List.getElem?_eq_some_iff.mp a1
      obtain ⟨c3, c4⟩ := List.getElem?_eq_some_iff.mp b1
      exact (List.getElem_inj nd).mp (c2.trans c4.symm)
    · obtain ⟨m, a1, a2⟩ := adr_at hlt e2
      obtain ⟨o0, o', b1, b2, b3⟩ := g3 l m a1
      rw [e1] at b2
      cases b2
      obtain ⟨u, c1, c2⟩ := sr.ob m o0 a b1 a2 (ncl m (List.mem_of_getElem? a1))
      exact ⟨u, c1, c2.ren sm b3⟩
  have at0 : ∀ b, At [] (adr μ ls) b → At ρ.cl μ b := fun b ⟨l, _, e⟩ => by
    obtain ⟨m, a1, a2⟩ := adr_at hlt e
    exact ⟨m, ncl m (List.mem_of_getElem? a1), a2⟩
  -- behind the call
  have fin : ∀ {h1 h2 : Hh} {μ' : List Addr} {H' : Hp}, scatter h (nth ls) ls h1 = some h2 → Gr [] (adr μ ls) H μ' H' → HRel C.G μ' h1 H' → Gr ρ.cl μ H μ H' ∧ Sr C.G C.oc μ ρ h2 σ H' ∧ Same (nth ls) μ' μ := fun {h1 h2 μ' H'} sc g s' => by
    obtain ⟨c1, c2, c3⟩ := scatter_ok sc nd hlt2
    have gr : Gr ρ.cl μ H μ H' := ⟨⟨[], by simp⟩, fun _ z => .inl z, fun b o e z nt => g.keep b o e (z.imp (fun n m => n (at0 b m)) id) nt, g.tbl⟩
    have sm2 : Same (nth ls) μ' μ := fun n l a e1 e2 => by
      rw [nth_eq] at e1
      have hl := hlt l (List.mem_of_getElem? e1)
      have e3 := List.getElem?_eq_getElem hl
      have e4 := Kp.get g.kp (adr_get e1 e3)
      rw [e2] at e4
      cases e4
      exact e3
    refine ⟨gr, ⟨by rw [c1]; exact sr.len, sr.inj, fun l o a e1 e2 nl => ?_, sr.ocl, fun j l i a e1 e2 => ?_, sr.sll, fun i d e ni => ?_, sr.cln, s'.tab⟩, sm2⟩
    · by_cases m : l ∈ ls
      · obtain ⟨j, hj⟩ := List.mem_iff_getElem?.mp m
        obtain ⟨o0, o', b1, b2, b3⟩ := c3 j l hj
        rw [e1] at b1
        cases b1
        obtain ⟨u, d1, d2⟩ := s'.ob j o0 a b2 (Kp.get g.kp (adr_get hj e2)) (by simp)
        exact ⟨u, d1, d2.ren sm2 b3⟩
      · rw [c2 l m] at e1
        obtain ⟨u, d1, d2⟩ := sr.ob l o a e1 e2 nl
        refine ⟨u, g.keep a u d1 (.inl fun ⟨j, _, e⟩ => ?_) d2.notTbl, d2.mono gr.kp⟩
        obtain ⟨m', a1, a2⟩ := adr_at hlt e
        have := sr.inj l m' a nl (ncl m' (List.mem_of_getElem? a1)) e2 a2
        exact m (this ▸ List.mem_of_getElem? a1)
    · obtain ⟨a1, d, a2, a3⟩ := sr.own j l i a e1 e2
      refine ⟨a1, d, ?_, fun x ex => ?_⟩
      · rw [c2 l fun m => ncl l m (List.mem_of_getElem? e1)]; exact a2
      · obtain ⟨v, b1, b2⟩ := a3 x ex
        exact ⟨v, b1, b2.mono gr.kp⟩
    · obtain ⟨v, b1, b2⟩ := sr.sl i d e ni
      exact ⟨v, b1, b2.mono gr.kp⟩
  have af2 : AftC C.G (adr μ ls) H Q (fun c dd H' => C.W c dd σ H') (calV C.cs (.fn f) ds' h0) := by
    show AftC C.G (adr μ ls) H Q _ (C.cs (.fn f) ds' h0)
    cases q3 : C.cs (.fn f) ds' h0 with
    | bad => rw [q3] at af; exact af.elim
    | ok d h1 =>
      rw [q3] at af
      dsimp only at af
      cases q5 : ren (nth ls) d with
      | none => rw [q5] at af; exact af.elim
      | some d' =>
      rw [q5] at af
      dsimp only at af
      cases q4 : scatter h (nth ls) ls h1 with
      | none => rw [q4] at af; exact af.elim
      | some h2 =>
        rw [q4] at af
        intro μ' v H' g s' rd'
        obtain ⟨gr, s2, sm2⟩ := fin q4 g s'
        exact af μ v H' gr s2 (rd'.ren sm2 q5)
    | exn c fs h1 =>
      rw [q3] at af
      dsimp only at af
      cases q5 : renL (nth ls) fs with
      | none => rw [q5] at af; exact af.elim
      | some fs' =>
      rw [q5] at af
      dsimp only at af
      cases q4 : scatter h (nth ls) ls h1 with
      | none => rw [q4] at af; exact af.elim
      | some h2 =>
        rw [q4] at af
        intro μ' cls dd H' g s' rx
        obtain ⟨gr, s2, sm2⟩ := fin q4 g s'
        obtain ⟨e0, e1, d, ws, e2, e3, e4, e5⟩ := rx
        have key : ∀ {xs ys : List D}, renL (nth ls) xs = some ys → xs.length = ys.length ∧ ∀ (n : Nat) (y : D), ys[n]? = some y → ∃ x, xs[n]? = some x ∧ ren (nth ls) x = some y := by
          intro xs
          induction xs with
          | nil => intro ys e; cases e; exact ⟨rfl, fun n y z => by simp at z⟩
          | cons x xs ih =>
            intro ys e
            unfold renL at e
            cases z1 : ren (nth ls) x with
            | none => rw [z1] at e; cases e
            | some x' =>
            rw [z1] at e
            dsimp only at e
            cases z2 : renL (nth ls) xs with
            | none => rw [z2] at e; cases e
            | some xs' =>
            rw [z2] at e
            cases e
            obtain ⟨w1, w2⟩ := ih z2
            refine ⟨by simp [w1], fun n y z => ?_⟩
            cases n with
            | zero => simp at z; subst z; exact ⟨x, rfl, z1⟩
            | succ n => obtain ⟨x2, v1, v2⟩ := w2 n y (by simpa using z); exact ⟨x2, by simpa using v1, v2⟩
        obtain ⟨k1, k2⟩ := key q5
        refine af μ cls dd H' gr s2 ⟨e0, e1, d, ws, e2, e3, by rw [← k1]; exact e4, fun k' x f' z1 z2 => ?_⟩
        obtain ⟨x0, z3, z4⟩ := k2 k' x z1
        obtain ⟨v, w1, w2⟩ := e5 k' x0 f' z3 z2
        exact ⟨v, w1, w2.ren sm2 z4⟩
  obtain ⟨fa, run⟩ := cc (.fn f) (C.G.fadr f) X.A X.stack s H us vs Q _ (adr μ ls) h0 ds' hr hgd I.env0 (.fn f) r sr0 rs0 af2
  refine wpAny_call (codeAny_mono run fun rs' s' hq => ?_)
  cases rs' with
  | error e => exact tk e s' (XE.of_call (W := C.W) (E := fun c dd H' => C.W c dd σ H') I (fun _ _ _ z => z) hq)
  | ok fl =>
    cases fl with
    | ret u => exact I.after hq
    | next => exact False.elim hq
    | brk => exact False.elim hq
    | cont => exact False.elim hq
end
section
variable {X : Cx} {C : Cfg} {pos : Pos} {k : Nat} {x : Str} {p : Pos} {e : Expr} {es : List Expr} {mes : SL} {f : Nat}
theorem tE_iso {σ : L2.St} {H : Hp} {Q : VK} (h : tE C (kCall true f mes) σ H Q) :
    tA C mes σ H fun vs H1 => ∃ μ ρ h ds, Sr C.G C.oc μ ρ h σ H1 ∧ RDs C.G μ H1 ds vs ∧ Aft C (RV C) μ ρ σ H1 (isoCall C.cs f ds h) Q := by
  obtain ⟨μ, r, h, s, a⟩ := h
  refine ⟨μ, r, h, s, (Aft.bind (R := RVs C) a).imp fun vs H1 z => ?_⟩
  obtain ⟨μ1, ds, h1, g1, s1, rs, a1⟩ := z
  exact ⟨μ1, r, h1, ds, s1, rs, a1⟩
/-- f(e, ..), f a def of the module, by itself -/
theorem y_callI (cc : CC (wd X) C.G C.cs k) (hr : Room k X.A) (hgd : X.A.guards = some []) (tk : Takes X C.W) (hg : Gl X x) (hm : X.mg x = some (.ref (C.G.fadr f))) (hf : ∃ oc od fd osl, X.K.lookup (C.G.fadr f) = some ⟨oc, od, .func fd, osl⟩) (ha : PA X (e :: es) (tA C mes))
    (hdb : (x == ("__debug__" : Str)) = false) (he : starEach (e :: es) X.env = (false, eval e X.env) :: starEach es X.env) (hpl : (backTo pos (starEach es X.env)).any (·.1) = false) :
    PE X (.Call (.Name x p) (e :: es) [] pos) (tE C (kCall true f mes)) := by
  refine ⟨fun pins s σ H Q I h => ?_⟩
  refine wpAny_Call_Name_kw (ld_glob I hg hm ?_ hdb)
  refine PySem.W.callWith_F (fnAt_K I hf) (thn (ha.run pos pins s σ H _ I (tE_iso h)) fun us s1 ⟨vs, H1, I1, r, μ, ρ, h', ds, sr, rs, af⟩ => ⟨fnAt_K I1 hf, ?_⟩) he hpl
  exact run_iso cc hr hgd tk I1 r sr rs af
theorem y_callI0 (cc : CC (wd X) C.G C.cs k) (hr : Room k X.A) (hgd : X.A.guards = some []) (tk : Takes X C.W) (hg : Gl X x) (hm : X.mg x = some (.ref (C.G.fadr f))) (hf : ∃ oc od fd osl, X.K.lookup (C.G.fadr f) = some ⟨oc, od, .func fd, osl⟩) 
    (hdb : (x == ("__debug__" : Str)) = false) : PE X (.Call (.Name x p) [] [] pos) (tE C (kCall true f aNil)) := by
  refine ⟨fun pins s σ H Q I h => ?_⟩
  refine wpAny_Call_Name_kw (ld_glob I hg hm ?_ hdb)
  obtain ⟨μ, ρ, h', sr, z⟩ := tE_iso h
  obtain ⟨μ2, ρ2, h2, ds, sr2, rs, af⟩ := z.ok sr .nil
  refine PySem.W.callWith_F0 (fnAt_K I hf) ?_
  exact run_iso cc hr hgd tk I .nil sr2 rs af
end
end Y

/-! Y30: enumerate, zip. -/
namespace Y
open PySem PySem.Spec PyProof.Rows L2
section
variable {G : Gd}
theorem wks_enum {a : Addr} {o : Obj} {ds : List D} {vs : List V} {μ1 : List Addr} {H1 : Hp} (ht : H1 a = some (.frz o (.lst vs))) (rs : RDs G μ1 H1 ds vs) : Wks G (Ite G.K a) (.fx (enumI ds)) μ1 H1 where
  go := fun i d oc μ r h σ H k s e => by
    replace e : nth (enumI ds) i = some d := e
    rw [nth_eq] at e
    unfold enumI at e
    rw [List.getElem?_map, List.getElem?_zipIdx, Nat.zero_add] at e
    obtain ⟨p, e1, e2⟩ := Option.map_eq_some_iff.mp e
    obtain ⟨x, e3, e4⟩ := Option.map_eq_some_iff.mp e1
    subst e4
    have ht' : SqL G.K H a vs := .inl (.inr ⟨o, k.imm _ _ ht trivial⟩)
    obtain ⟨v, e5, rd⟩ := rs.get e3
    refine ⟨⟨vs, v, ht', e5⟩, fun y H' yy => ?_⟩
    obtain ⟨T, z, rfl, nT, rfl, f⟩ := yy
    have e6 := f vs ht'
    rw [e5] at e6
    cases e6
    have kp : Kp μ H μ (upd H T (.tup [.int (i : Nat), v])) := keep_kp (keep_laid nT)
    refine ⟨keep_laid nT, ?_⟩
    rw [← e2]
    exact RD.mkTup upd_same (.cons (.p (.int _)) (.cons ((rd.mono k).mono kp) .nil))
  stop := fun oc μ r h σ H k s e => ⟨vs, .inl (.inr ⟨o, k.imm _ _ ht trivial⟩), by show vs.length ≤ (enumI ds).length; unfold enumI; rw [List.length_map, List.length_zipIdx, rs.length]; exact Nat.le_refl _⟩
theorem zip_get {xs ys : List D} {i : Nat} {d : D} (e : (zipI xs ys)[i]? = some d) : ∃ x y, xs[i]? = some x ∧ ys[i]? = some y ∧ d = mkTup [x, y] := by
  unfold zipI at e
  rw [List.getElem?_map] at e
  obtain ⟨p, e1, e2⟩ := Option.map_eq_some_iff.mp e
  rw [List.getElem?_zip_eq_some] at e1
  exact ⟨p.1, p.2, e1.1, e1.2, e2.symm⟩
theorem wks_zipL {a b : Addr} {o o' : Obj} {xs ys : List D} {vs ws : List V} {μ1 : List Addr} {H1 : Hp} (h1 : H1 a = some (.frz o (.lst vs))) (r1 : RDs G μ1 H1 xs vs) (h2 : H1 b = some (.frz o' (.lst ws))) (r2 : RDs G μ1 H1 ys ws) : Wks G (Itz G.K a b) (.fx (zipI xs ys)) μ1 H1 where
  go := fun i d oc μ r h σ H k s e => by
    replace e : nth (zipI xs ys) i = some d := e
    rw [nth_eq] at e
    obtain ⟨x, y, e1, e2, rfl⟩ := zip_get e
    have ha : SqL G.K H a vs := .inl (.inr ⟨o, k.imm _ _ h1 trivial⟩)
    have hb : SqL G.K H b ws := .inl (.inr ⟨o', k.imm _ _ h2 trivial⟩)
    obtain ⟨v, e3, rd1⟩ := r1.get e1
    obtain ⟨w, e4, rd2⟩ := r2.get e2
    refine ⟨⟨vs, ws, v, w, ha, hb, e3, e4⟩, fun z H' yy => ?_⟩
    obtain ⟨T, z1, z2, rfl, nT, rfl, f1, f2⟩ := yy
    have e5 := f1 vs ha
    have e6 := f2 ws hb
    rw [e3] at e5
    rw [e4] at e6
    cases e5
    cases e6
    have kp : Kp μ H μ (upd H T (.tup [v, w])) := keep_kp (keep_laid nT)
    exact ⟨keep_laid nT, RD.mkTup upd_same (.cons ((rd1.mono k).mono kp) (.cons ((rd2.mono k).mono kp) .nil))⟩
  stop := fun oc μ r h σ H k s e => ⟨vs, ws, .inl (.inr ⟨o, k.imm _ _ h1 trivial⟩), .inl (.inr ⟨o', k.imm _ _ h2 trivial⟩), by
    have l1 := r1.length
    have l2 := r2.length
    show vs.length ≤ (zipI xs ys).length ∨ ws.length ≤ (zipI xs ys).length
    unfold zipI; rw [List.length_map, List.length_zip]; omega⟩
theorem wks_zipT {a b : Addr} {xs ys : List D} {vs ws : List V} {μ1 : List Addr} {H1 : Hp} (h1 : SqT G.K H1 a vs) (r1 : RDs G μ1 H1 xs vs) (h2 : SqT G.K H1 b ws) (r2 : RDs G μ1 H1 ys ws) : Wks G (RZ.ItzT G.K a b) (.fx (zipI xs ys)) μ1 H1 where
  go := fun i d oc μ r h σ H k s e => by
    replace e : nth (zipI xs ys) i = some d := e
    rw [nth_eq] at e
    obtain ⟨x, y, e1, e2, rfl⟩ := zip_get e
    have ha := k.sqT h1
    have hb := k.sqT h2
    obtain ⟨v, e3, rd1⟩ := r1.get e1
    obtain ⟨w, e4, rd2⟩ := r2.get e2
    refine ⟨⟨vs, ws, v, w, ha, hb, e3, e4⟩, fun z H' yy => ?_⟩
    obtain ⟨T, z1, z2, rfl, nT, rfl, f1, f2⟩ := yy
    have e5 := f1 vs ha
    have e6 := f2 ws hb
    rw [e3] at e5
    rw [e4] at e6
    cases e5
    cases e6
    have kp : Kp μ H μ (upd H T (.tup [v, w])) := keep_kp (keep_laid nT)
    exact ⟨keep_laid nT, RD.mkTup upd_same (.cons ((rd1.mono k).mono kp) (.cons ((rd2.mono k).mono kp) .nil))⟩
  stop := fun oc μ r h σ H k s e => ⟨vs, ws, k.sqT h1, k.sqT h2, by
    have l1 := r1.length
    have l2 := r2.length
    show vs.length ≤ (zipI xs ys).length ∨ ws.length ≤ (zipI xs ys).length
    unfold zipI; rw [List.length_map, List.length_zip]; omega⟩
end
section
variable {X : Cx} {C : Cfg} {pos tpos p : Pos} {elts : List Expr} {kk : Nat} {a b : Expr} {ma mb : SE}
/-- enumerate of a list that never changes -/
theorem y_enu (hK : C.G.K = X.K) (hg : Gl X "enumerate") (hm : X.mg "enumerate" = none) (ha : PE X a (tE C ma)) (hs : starEach [a] X.env = [(false, eval a X.env)]) : PI X (.Tuple elts kk tpos) (.Call (.Name "enumerate" p) [a] [] pos) (tI C (iEnu ma)) := by
  refine PI.w (pi_enum hg hm (y_acons ha y_anil hs) hs) fun σ H R h => ?_
  obtain ⟨μ, r, h, s, af⟩ := h
  refine ⟨μ, r, h, s, ?_⟩
  have e : aCons ma aNil C.cs r h = (ma C.cs r h).bind fun x h1 => .ok [x] h1 := by
    simp only [aCons, aNil]
    cases ma C.cs r h <;> rfl
  rw [e]
  unfold iEnu at af
  have a1 := Aft.bind (R := RV C) af
  cases q : ma C.cs r h with
  | bad => rw [q] at a1; exact a1
  | exn c fs h1 => rw [q] at a1; exact a1
  | ok x h1 =>
    rw [q] at a1
    intro μ' vs H' g s' rs
    cases rs with
    | cons rd rs =>
      cases rs
      obtain ⟨μ2, d, h2, g2, s2, rd2, a2⟩ := a1 μ' _ H' g s' rd
      rw [q] at af
      obtain ⟨w, ew, f⟩ := Aft.opt (R := RWk C) (r := r) (show Aft C (RWk C) μ r σ H (opt (enuV x) h1) R from af)
      unfold enuV at ew
      split at ew
      · rename_i xs e1
        cases ew
        obtain ⟨a', o, ws, rfl, e2, rs⟩ := (show RD C.G μ' H' x _ from rd).seqF e1
        exact ⟨a', ws, rfl, .inl (.inr ⟨o, e2⟩), f μ' _ H' g s' (hK ▸ wks_enum e2 rs)⟩
      · cases ew
theorem y_zip (hK : C.G.K = X.K) (hg : Gl X "zip") (hm : X.mg "zip" = none) (ha : PE X a (tE C ma)) (hb : PE X b (tE C mb)) (hs : starEach [a, b] X.env = (false, eval a X.env) :: starEach [b] X.env) (hs2 : starEach [b] X.env = (false, eval b X.env) :: starEach [] X.env) (hpl : (backTo pos (starEach [b] X.env)).any (·.1) = false) :
    PI X (.Tuple elts kk tpos) (.Call (.Name "zip" p) [a, b] [] pos) (tI C (iZip ma mb)) := by
  refine PI.w (RZ.pi_zipA hg hm (y_acons ha (y_acons hb y_anil hs2) hs) hs hpl) fun σ H R h => ?_
  obtain ⟨μ, r, h, s, af⟩ := h
  refine ⟨μ, r, h, s, ?_⟩
  have e : aCons ma (aCons mb aNil) C.cs r h = (ma C.cs r h).bind fun x h1 => (mb C.cs r h1).bind fun y h2 => .ok [x, y] h2 := by
    simp only [aCons, aNil]
    cases ma C.cs r h with
    | ok x h1 => simp only [Res.bind]; cases mb C.cs r h1 <;> rfl
    | _ => rfl
  rw [e]
  unfold iZip at af
  have a1 := Aft.bind (R := RV C) af
  cases q : ma C.cs r h with
  | bad => rw [q] at a1; exact a1
  | exn c fs h1 => rw [q] at a1; exact a1
  | ok x h1 =>
    rw [q] at a1 af
    have af' : Aft C (RWk C) μ r σ H ((mb C.cs r h1).bind fun y h2 => opt (zipV x y) h2) R := af
    have b1 := Aft.bind (R := RV C) af'
    show Aft C (RVs C) μ r σ H ((mb C.cs r h1).bind fun y h2 => .ok [x, y] h2) _
    cases q2 : mb C.cs r h1 with
    | bad => rw [q2] at b1; exact b1
    | exn c fs h2 => rw [q2] at b1; exact b1
    | ok y h2 =>
      rw [q2] at b1 af'
      intro μ' vs H' g s' rs
      obtain ⟨w, ew, f⟩ := Aft.opt (R := RWk C) (r := r) (show Aft C (RWk C) μ r σ H (opt (zipV x y) h2) R from af')
      cases rs with
      | cons rd rs =>
        cases rs with
        | cons rd2 rs =>
          cases rs
          replace rd : RD C.G μ' H' x _ := rd
          replace rd2 : RD C.G μ' H' y _ := rd2
          unfold zipV at ew
          split at ew
          · rename_i xs ys e1 e2
            cases ew
            obtain ⟨a1', v1, rfl, k1, rs1⟩ := rd.seqT e1
            obtain ⟨a2', v2, rfl, k2, rs2⟩ := rd2.seqT e2
            exact ⟨a1', a2', v1, v2, rfl, .inr ⟨hK ▸ k1, hK ▸ k2, f μ' _ H' g s' (hK ▸ wks_zipT k1 rs1 k2 rs2)⟩⟩
          · split at ew
            · rename_i xs ys e1 e2
              cases ew
              obtain ⟨a1', o1, v1, rfl, k1, rs1⟩ := rd.seqF e1
              obtain ⟨a2', o2, v2, rfl, k2, rs2⟩ := rd2.seqF e2
              exact ⟨a1', a2', v1, v2, rfl, .inl ⟨.inl (.inr ⟨o1, k1⟩), .inl (.inr ⟨o2, k2⟩), f μ' _ H' g s' (hK ▸ wks_zipL k1 rs1 k2 rs2)⟩⟩
            · cases ew
end
end Y

/-! Y31: a checker: text against IR. -/
namespace Y
open PySem PySem.Spec PyProof.Rows L2
/-- what is known where a text stands -/
structure Ctx where
  N : List Str
  caps : List Nat
  names : List (Str × NameKind)
  blk : Bool
  fnc : Str → Bool
  fns : List (Str × Nat)
  cst : List (Str × PyData)
  blt : List Str
  cls : List (Str × Nat × List Str)
  lm : Nat → LamT → Bool
  tab : Bool
  qual : Str

/-! ### small looks -/
def okN (x : Str) : Bool := !(x == ("__debug__" : Str)) && !(x == ("__classdict__" : Str))
def memS (x : Str) (l : List Str) : Bool := l.any fun y => decide (y = x)
def memN (i : Nat) (l : List Nat) : Bool := l.any fun j => Nat.beq j i
noncomputable def atN (l : List Str) (i : Nat) (x : Str) : Bool := match nth l i with
  | some y => decide (y = x)
  | none => false
def visK : Option NameKind → Bool
  | some .local => true
  | some .cell => true
  | some .free => true
  | _ => false
def Ctx.vis (Γ : Ctx) (x : Str) : Bool := visK (Γ.names.lookup x)
def Ctx.gl (Γ : Ctx) (x : Str) : Bool := match Γ.names.lookup x with
  | some .globalImplicit => okN x
  | _ => false
/-- a built-in's name -/
def Ctx.isB (Γ : Ctx) (x : Str) (y : Str) : Bool := decide (x = y) && (Γ.gl y && memS y Γ.blt)
def notSt : Expr → Bool
  | .Starred _ _ => false
  | _ => true
def notCall : Expr → Bool
  | .Call _ _ _ _ => false
  | _ => true
def notSl : Expr → Bool
  | .Slice _ _ _ _ => false
  | _ => true
def notSet : Expr → Bool
  | .Set _ _ _ => false
  | _ => true
def notComp : Expr → Bool
  | .ListComp _ _ _ _ => false
  | .SetComp _ _ _ _ => false
  | .DictComp _ _ _ _ _ => false
  | _ => true
def notTest : Expr → Bool
  | .UnaryOp .Not _ _ => false
  | .BoolOp _ _ _ => false
  | .IfExp _ _ _ _ => false
  | .Compare _ _ _ _ => false
  | _ => true
def allNS : List Expr → Bool
  | [] => true
  | e :: es => notSt e && allNS es
def bopB : Bop → Operator → Bool
  | .add, .Add => true | .sub, .Sub => true | .mul, .Mult => true | .fdiv, .FloorDiv => true | .mod, .Mod => true | .pow, .Pow => true | .shl, .LShift => true | .shr, .RShift => true | .band, .BitAnd => true
  | _, _ => false
theorem bopB_ok {o : Bop} {p : Operator} (h : bopB o p = true) : p = bopOf o := by cases o <;> cases p <;> first | rfl | (exact absurd h (by decide))
def copB : Cop → CmpOp → Bool
  | .eq, .Eq => true | .ne, .NotEq => true | .lt, .Lt => true | .le, .LtE => true | .gt, .Gt => true | .ge, .GtE => true | .is_, .Is => true | .isnt, .IsNot => true | .in_, .In => true | .notin, .NotIn => true
  | _, _ => false
theorem copB_ok {o : Cop} {p : CmpOp} (h : copB o p = true) : p = copOf o := by cases o <;> cases p <;> first | rfl | (exact absurd h (by decide))
def cstB : Const → PyData → Bool
  | .none, .none => true
  | .bool a, .bool b => a == b
  | .int a, .int b => decide (a = b)
  | .str a, .str b => decide (a = b)
  | _, _ => false
def dB : PyData → PyData → Bool
  | .int a, .int b => decide (a = b)
  | .str a, .str b => decide (a = b)
  | .bool a, .bool b => a == b
  | _, _ => false
theorem dB_ok {a b : PyData} (h : dB a b = true) : a = b := by
  cases a <;> cases b <;> simp_all [dB]
def prName : Pr → Str
  | .len => "len" | .sum => "sum" | .all => "all" | .any => "any" | .min => "min" | .max => "max" | .min2 => "min" | .max2 => "max" | .abs => "abs" | .int => "int" | .tup => "tuple" | .repr => "repr"
def mtName : Mt → Str
  | .append => "append" | .pop => "pop" | .popat => "pop" | .get1 => "get" | .get2 => "get"
def mtLen : Mt → Nat
  | .append => 1 | .pop => 0 | .popat => 1 | .get1 => 1 | .get2 => 2
def tyB : String → Option Str
  | "int" => some "int" | "bool" => some "bool" | "str" => some "str" | "list" => some "list" | "tuple" => some "tuple" | "dict" => some "dict" | _ => none
def Ctx.tyOk (Γ : Ctx) (T : Str) (m : String) : Bool := match tyB m with
  | some y => Γ.isB T y
  | none => false
def Ctx.tysOk (Γ : Ctx) : List Expr → List String → Bool
  | [], [] => true
  | .Name T _ :: es, m :: ms => Γ.tyOk T m && tysOk Γ es ms
  | _, _ => false
/-- the class of an isinstance -/
def Ctx.isiOk (Γ : Ctx) (t : Expr) (ms : List String) : Bool := match t with
  | .Name T _ => (match ms with
    | [m] => Γ.tyOk T m
    | _ => false)
  | .Tuple es _ _ => Γ.tysOk es ms && decide (ms.length ≤ 10)
  | _ => false
def keyB : Expr → Key → Bool
  | .Constant (.int a) _ _, .inl b => decide (a = b)
  | .Constant (.str a) _ _, .inr b => decide (a = b)
  | _, _ => false
def keysB : List (Option Expr) → List Key → Bool
  | [], [] => true
  | some e :: es, k :: ks => keyB e k && keysB es ks
  | _, _ => false
def noDefaults : Arguments → Bool
  | ⟨_, _, _, _, [], _, []⟩ => true
  | _ => false
/-- the names that a lambda takes along -/
noncomputable def capsOf (Γ : Ctx) : List Nat → List Str
  | [] => []
  | j :: js => match nth Γ.caps j with
    | some i => (match nth Γ.N i with
      | some x => x :: capsOf Γ js
      | none => capsOf Γ js)
    | none => capsOf Γ js
noncomputable def jsOk (Γ : Ctx) (sc : List (Str × NameKind)) : List Nat → Bool
  | [] => true
  | j :: js => (match nth Γ.caps j with
    | some i => (match nth Γ.N i with
      | some x => (match sc.find? fun p => decide (p.1 = x) with
        | some (_, .free) => true
        | _ => false)
      | none => false)
    | none => false) && jsOk Γ sc js
def freeIn (sc : List (Str × NameKind)) (l : List Str) : Bool := sc.all fun p => match p.2 with
  | .free => memS p.1 l
  | _ => true

/-! ### comprehensions' blocks -/
def Ctx.inner (Γ : Ctx) (scope : Scope) : Ctx := { Γ with names := scope.names.map fun (n, k) => if (k == .free && Γ.names.lookup n == some .cell) then (n, .cell) else (n, k), blk := true, fnc := fun x => scope.names.lookup x == some .cell }
def blkB (N : List Str) (names : List (Str × NameKind)) (scope : Scope) (own : List (Str × Nat)) : Bool :=
  (match scope.kind with
    | .function => true
    | _ => false) && ((scope.names.all fun y => decide (scope.names.lookup y.1 = some y.2)) && ((own.all fun p => decide (N[p.2]? = some p.1)) &&
    (scope.names.all fun y => match y.2 with
      | .free => (match names.lookup y.1 with
        | some .cell => true
        | some .free => true
        | _ => false)
      | .local => memS y.1 (own.map (·.1)) || !memS y.1 N
      | .cell => memS y.1 (own.map (·.1)) || !memS y.1 N
      | _ => true)))
mutual
def ownT : Tg → Expr → List (Str × Nat)
  | .nm i, .Name x _ => [(x, i)]
  | .tup ts, .Tuple es _ _ => ownTs ts es
  | _, _ => []
def ownTs : Tg → List Expr → List (Str × Nat)
  | .cons a b, e :: es => ownT a e ++ ownTs b es
  | _, _ => []
end
def noCn : Tg → Bool
  | .nm _ => true
  | .cn _ => false
  | .tup t => noCn t
  | .nil => true
  | .cons a b => noCn a && noCn b
theorem noCn_eq {oc : List (Nat × Addr)} : ∀ {t : Tg}, noCn t = true → tgN oc t = tgN [] t
  | .nm _, _ => rfl
  | .cn _, h => by cases h
  | .tup t, h => by
    show tgN oc t = tgN [] t
    exact noCn_eq h
  | .nil, _ => rfl
  | .cons a b, h => by
    unfold noCn at h
    rw [Bool.and_eq_true] at h
    show tgN oc a ++ tgN oc b = tgN [] a ++ tgN [] b
    rw [noCn_eq h.1, noCn_eq h.2]
def subN (a b : List Nat) : Bool := a.all fun i => memN i b
mutual
noncomputable def chkTg : Tg → Ctx → Expr → Bool
  | .nm i, Γ, e => match e with
    | .Name x _ => atN Γ.N i x && (!memN i Γ.caps && (match Γ.names.lookup x with
      | some .local => true
      | some .cell => Γ.fnc x
      | _ => false))
    | _ => false
  | .cn j, Γ, e => match e with
    | .Name x _ => Γ.fnc x && ((match nth Γ.caps j with
      | some i => atN Γ.N i x
      | none => false) && (match Γ.names.lookup x with
      | some .cell => true
      | _ => false))
    | _ => false
  | .tup ts, Γ, e => match e with
    | .Tuple es _ _ => chkTgs ts Γ es
    | _ => false
  | .nil, _, _ => false
  | .cons _ _, _, _ => false
noncomputable def chkTgs : Tg → Ctx → List Expr → Bool
  | .nil, _, es => match es with
    | [] => true
    | _ => false
  | .cons a b, Γ, es => match es with
    | e :: es => notSt e && (chkTg a Γ e && chkTgs b Γ es)
    | _ => false
  | .nm _, _, _ => false
  | .cn _, _, _ => false
  | .tup _, _, _ => false
end
def isTup : Expr → Bool
  | .Tuple _ _ _ => true
  | _ => false
def one1 : Expr → Bool
  | .UnaryOp .USub (.Constant (.int 1) _ _) _ => true
  | _ => false
def isNil {α : Type} : List α → Bool
  | [] => true
  | _ => false

/-! ### expressions -/
mutual
noncomputable def chkE : E → Bool → Ctx → Expr → Bool
  | .v i, t, Γ, e_ => match e_ with
    | .Name x _ => atN Γ.N i x && (Γ.vis x && (okN x && !memN i Γ.caps))
    | _ => false
  | .cv j, t, Γ, e_ => match e_ with
    | .Name x _ => (match nth Γ.caps j with
      | some i => atN Γ.N i x
      | none => false) && (Γ.vis x && okN x)
    | _ => false
  | .c d, t, Γ, e_ => match e_ with
    | .Constant c _ _ => cstB c d
    | _ => false
  | .g y d, t, Γ, e_ => match e_ with
    | .Name x _ => decide (x = y) && (Γ.gl x && (match Γ.cst.lookup x with
      | some d' => dB d' d
      | none => false))
    | _ => false
  | .fv i, t, Γ, e_ => match e_ with
    | .Name x _ => Γ.gl x && (match Γ.fns.lookup x with
      | some j => Nat.beq j i
      | none => false)
    | _ => false
  | .bin o a b, t, Γ, e_ => match e_ with
    | .BinOp l op r _ => bopB o op && (chkE a false Γ l && chkE b false Γ r)
    | _ => false
  | .neg a, t, Γ, e_ => match e_ with
    | .UnaryOp .USub e _ => chkE a false Γ e
    | _ => false
  | .cmp o a b, t, Γ, e_ => match e_ with
    | .Compare l [op] [r] _ => copB o op && (notSet r && (chkE a false Γ l && chkE b false Γ r))
    | _ => false
  | .chn o1 o2 a b c, t, Γ, e_ => match e_ with
    | .Compare l [p, q] [x, y] _ => copB o1 p && (copB o2 q && (notSet y && (chkE a false Γ l && (chkE b false Γ x && chkE c false Γ y))))
    | _ => false
  | .and a b, t, Γ, e_ => match e_ with
    | .BoolOp .And (x :: y :: rest) pos => chkE a t Γ x && (if isNil rest then chkE b t Γ y else chkE b t Γ (.BoolOp .And (y :: rest) pos))
    | _ => false
  | .or a b, t, Γ, e_ => match e_ with
    | .BoolOp .Or (x :: y :: rest) pos => chkE a t Γ x && (if isNil rest then chkE b t Γ y else chkE b t Γ (.BoolOp .Or (y :: rest) pos))
    | _ => false
  | .not a, t, Γ, e_ => match e_ with
    | .UnaryOp .Not e _ => chkE a t Γ e
    | _ => false
  | .ife c a b, t, Γ, e_ => match e_ with
    | .IfExp c' a' b' _ => !t && (chkE c true Γ c' && (chkE a false Γ a' && chkE b false Γ b'))
    | _ => false
  | .tup es, t, Γ, e_ => match e_ with
    | .Tuple xs _ _ => chkA es Γ xs
    | _ => false
  | .imm l, t, Γ, e => chkL l Γ e
  | .mut l, t, Γ, e => chkL l Γ e
  | .ix a b, t, Γ, e_ => match e_ with
    | .Subscript x y _ => notSl y && (chkE a false Γ x && chkE b false Γ y)
    | _ => false
  | .sl a lo hi, t, Γ, e_ => match e_ with
    | .Subscript x (.Slice l u none _) _ => chkE a false Γ x && (chkO lo false Γ l.toList && chkO hi false Γ u.toList)
    | _ => false
  | .call iso f es, t, Γ, e_ => match e_ with
    | .Call (.Name x _) args [] _ => Γ.gl x && ((match Γ.fns.lookup x with
      | some j => Nat.beq j f
      | none => false) && ((iso || (!Γ.blk || isNil Γ.caps)) && chkA es Γ args))
    | _ => false
  | .cval a es, t, Γ, e_ => match e_ with
    | .Call (.Name x p) args [] _ => chkE a false Γ (.Name x p) && ((!Γ.blk || isNil Γ.caps) && chkA es Γ args)
    | _ => false
  | .pr p es, t, Γ, e_ => match e_ with
    | .Call (.Name x _) (a :: args) [] _ => Γ.isB x (prName p) && chkA es Γ (a :: args)
    | _ => false
  | .mt m o es, t, Γ, e_ => match e_ with
    | .Call (.Attribute ob nm apos) args [] cpos => decide (nm = mtName m) && (Nat.beq args.length (mtLen m) && (notCall ob && (apos.endLine == cpos.line && (chkE o false Γ ob && chkA es Γ args))))
    | _ => false
  | .lam k js, t, Γ, e_ => match e_ with
    | .Lambda params body scope _ => !Γ.blk && (Γ.tab && (noDefaults params && (jsOk Γ scope.names js && (freeIn scope.names (capsOf Γ js) && Γ.lm k ⟨params, body, scope, Γ.qual, capsOf Γ js⟩))))
    | _ => false
  | .isi a ms, t, Γ, e_ => match e_ with
    | .Call (.Name f _) [x, t] [] _ => Γ.isB f "isinstance" && (notSt x && (Γ.isiOk t ms && chkE a false Γ x))
    | _ => false
  | .dk ks es, t, Γ, e_ => match e_ with
    | .Dict keys vals _ => keysB keys ks && (decide (keys.length = vals.length) && (decide (keys.length ≤ 15) && (decide ks.Nodup && chkA es Γ vals)))
    | _ => false
  | .dt0, t, Γ, e_ => match e_ with
    | .Dict [] [] _ => true
    | _ => false
noncomputable def chkO : O → Bool → Ctx → List Expr → Bool
  | .no, t, Γ, e_ => match e_ with
    | [] => true
    | _ => false
  | .so a, t, Γ, e_ => match e_ with
    | [e] => chkE a t Γ e
    | _ => false
noncomputable def chkA : A → Ctx → List Expr → Bool
  | .nil, Γ, e_ => match e_ with
    | [] => true
    | _ => false
  | .cons a es, Γ, e_ => match e_ with
    | x :: xs => notSt x && (chkE a false Γ x && chkA es Γ xs)
    | _ => false
noncomputable def chkL : L → Ctx → Expr → Bool
  | .disp es, Γ, e_ => match e_ with
    | .List xs _ => chkA es Γ xs
    | _ => false
  | .comp t it cond elt, Γ, e_ => match e_ with
    | .ListComp e [⟨tg, iter, ifs, z⟩] scope _ => decide (z = 0) && (notSet iter && (noCn t && (blkB Γ.N Γ.names scope (ownT t tg) && (subN ((ownT t tg).map (·.2)) (tgN [] t) && (subN (tgN [] t) ((ownT t tg).map (·.2)) && ((((ownT t tg).map (·.2)).all fun i => !memN i Γ.caps) &&
        (chkI it Γ tg iter && (chkTg t (Γ.inner scope) tg && (chkO cond true (Γ.inner scope) ifs && chkE elt false (Γ.inner scope) e)))))))))
    | _ => false
  | .lof a, Γ, e_ => match e_ with
    | .Call (.Name f _) [x] [] _ => Γ.isB f "list" && (notSt x && chkE a false Γ x)
    | _ => false
  | .srt a, Γ, e_ => match e_ with
    | .Call (.Name f _) [x] [] _ => Γ.isB f "sorted" && (notSt x && chkE a false Γ x)
    | _ => false
  | .rep a b, Γ, e_ => match e_ with
    | .BinOp l .Mult r _ => chkL a Γ l && chkE b false Γ r
    | _ => false
  | .cat a b, Γ, e_ => match e_ with
    | .BinOp l .Add r _ => chkE a false Γ l && chkE b false Γ r
    | _ => false
  | .sll a lo hi, Γ, e_ => match e_ with
    | .Subscript x (.Slice l u none _) _ => chkE a false Γ x && (chkO lo false Γ l.toList && chkO hi false Γ u.toList)
    | _ => false
  | .rev a, Γ, e_ => match e_ with
    | .Subscript x (.Slice none none (some st) _) _ => one1 st && chkE a false Γ x
    | _ => false
noncomputable def chkI : I → Ctx → Expr → Expr → Bool
  | .it a, Γ, tg, e => chkE a false Γ e
  | .rng1 a, Γ, tg, e_ => match e_ with
    | .Call (.Name f _) [x] [] _ => Γ.isB f "range" && (notSt x && chkE a false Γ x)
    | _ => false
  | .rng2 a b, Γ, tg, e_ => match e_ with
    | .Call (.Name f _) [x, y] [] _ => Γ.isB f "range" && (notSt x && (notSt y && (chkE a false Γ x && chkE b false Γ y)))
    | _ => false
  | .rng3 a b c, Γ, tg, e_ => match e_ with
    | .Call (.Name f _) [x, y, z] [] _ => Γ.isB f "range" && (notSt x && (notSt y && (notSt z && (chkE a false Γ x && (chkE b false Γ y && chkE c false Γ z)))))
    | _ => false
  | .enu a, Γ, tg, e_ => match e_ with
    | .Call (.Name f _) [x] [] _ => isTup tg && (Γ.isB f "enumerate" && (notSt x && chkE a false Γ x))
    | _ => false
  | .zip a b, Γ, tg, e_ => match e_ with
    | .Call (.Name f _) [x, y] [] _ => isTup tg && (Γ.isB f "zip" && (notSt x && (notSt y && (chkE a false Γ x && chkE b false Γ y))))
    | _ => false
end
end Y

/-! Y32: the checker's word on expressions holds: what is known, small facts. -/
namespace Y
open PySem PySem.Spec PyProof.Rows L2
/-- a class of exceptions of the program's own: raised, named in a clause -/
structure ClsOk (M : Wd) (G : Gd) (x : Str) (c : Nat) (fs : List Str) : Prop where
  mg : M.mg x = some (.ref (G.cadr c))
  cn : c < G.cn
  fld : G.cfld c = fs
  xf : XfC M.K (G.cadr c)
  hno : ∀ f ∈ fs, PySem.W.findIn M.K (.ref (G.cadr c)) f = some none
  raise : ∀ (X : Cx) (C : Cfg) (k : Nat) (mes : SL) (e : Expr) (es : List Expr) (p pos pos2 : Pos), wd X = M → C.G = G → Room k X.A → 2 ≤ k → X.calm = true → Takes X C.W → Gl X x → (x == ("__debug__" : Str)) = false → PA X (e :: es) (tA C mes) → starEach (e :: es) X.env = (false, eval e X.env) :: starEach es X.env → (backTo pos (starEach es X.env)).any (·.1) = false →
    (∀ cs r h ds h1, mes cs r h = .ok ds h1 → ds.length = fs.length) → PS X (.Raise (some (.Call (.Name x p) (e :: es) [] pos)) none pos2) (tS C (sRaise c mes))
/-- what is known of the module -/
structure MOk (M : Wd) (G : Gd) (Γ : Ctx) : Prop where
  K : G.K = M.K
  allF : AllF M.K G
  fn : ∀ x i, Γ.fns.lookup x = some i → M.mg x = some (.ref (G.fadr i))
  cst : ∀ x d, Γ.cst.lookup x = some d → ∃ u v, M.mg x = some u ∧ RelV v u ∧ cstV d = some v
  blt : ∀ x, memS x Γ.blt = true → M.mg x = none
  cls : ∀ x c fs, Γ.cls.lookup x = some (c, fs) → ClsOk M G x c fs
  exm : ∀ c c' : Nat, c < G.cn → c' < G.cn → PySem.W.exmOne M.K (.ref (G.cadr c)) (.ref (G.cadr c')) = some (decide (c' = c))
  lm : ∀ k t, Γ.lm k t = true → G.lam k t
/-- what is known of a frame, alone -/
structure FrOk (G : Gd) (Γ : Ctx) (X : Cx) (C : Cfg) : Prop where
  passes : PassesOwn (model X.prog X.w) X.A X.env X.xe
  own : OwnC X C
  cell : ∀ (j i : Nat) (a : Addr), C.oc[j]? = some (i, a) → ∃ x, X.N[i]? = some x ∧ X.env.cells.lookup x = some a
  stk : X.stack = X.env :: X.outer ∧ X.env.frame = some X.env.locals
  tab : Γ.tab = true → ∃ c P, LamX.TabB X.base X.mg c P ∧ X.env.code = .ref c ∧ (P, X.env.qual ++ "<lambda>") ∈ G.T ∧ (∀ p ∈ G.T, p.1 = P → p.2 = X.env.qual ++ "<lambda>") ∧ X.env.qual ++ "<lambda>" = Γ.qual
structure EOk (M : Wd) (G : Gd) (cs : CSem) (k : Nat) (Γ : Ctx) (X : Cx) (C : Cfg) : Prop where
  m : MOk M G Γ
  cc : CC M G cs k
  wd : Y.wd X = M
  g : C.G = G
  cs : C.cs = cs
  N : X.N = Γ.N
  nd : X.N.Nodup
  names : X.env.scope.names = Γ.names
  kind : X.env.scope.kind = .function
  calm : X.calm = true
  guards : X.A.guards = some []
  room : Room k X.A
  k2 : 2 ≤ k
  takes : Takes X C.W
  caps : C.oc.map (·.1) = Γ.caps
  capn : Γ.caps.Nodup
  fnc : ∀ x, Γ.fnc x = true → X.fn x = true
  fr : Γ.blk = false → FrOk G Γ X C
section
variable {M : Wd} {G : Gd} {cs : CSem} {k : Nat} {Γ : Ctx} {X : Cx} {C : Cfg}
theorem okN_ok {x : Str} (h : okN x = true) : (x == ("__debug__" : Str)) = false ∧ (x == ("__classdict__" : Str)) = false := by
  unfold okN at h
  rw [Bool.and_eq_true, Bool.not_eq_true', Bool.not_eq_true'] at h
  exact h
theorem memS_ok {x : Str} {l : List Str} (h : memS x l = true) : x ∈ l := by
  unfold memS at h
  obtain ⟨y, h1, h2⟩ := List.any_eq_true.mp h
  exact of_decide_eq_true h2 ▸ h1
theorem memS_no {x : Str} {l : List Str} (h : memS x l = false) : x ∉ l := fun m => by
  have : memS x l = true := List.any_eq_true.mpr ⟨x, m, decide_eq_true rfl⟩
  rw [h] at this; cases this
theorem memN_ok {i : Nat} {l : List Nat} (h : memN i l = true) : i ∈ l := by
  unfold memN at h
  obtain ⟨y, h1, h2⟩ := List.any_eq_true.mp h
  exact Nat.beq_eq.mp h2 ▸ h1
theorem memN_no {i : Nat} {l : List Nat} (h : memN i l = false) : i ∉ l := fun m => by
  have : memN i l = true := List.any_eq_true.mpr ⟨i, m, Nat.beq_refl _⟩
  rw [h] at this; cases this
theorem atN_ok {l : List Str} {i : Nat} {x : Str} (h : atN l i x = true) : l[i]? = some x := by
  unfold atN at h
  rw [nth_eq] at h
  split at h
  · rename_i y e
    rw [e, of_decide_eq_true h]
  · cases h
theorem EOk.hK (E : EOk M G cs k Γ X C) : C.G.K = X.K := by
  rw [E.g, E.m.K]
  exact congrArg Wd.K E.wd.symm
theorem EOk.hu (E : EOk M G cs k Γ X C) : X.A.units + 200 < cLine := by have := E.room.un; omega
theorem EOk.mg (E : EOk M G cs k Γ X C) : X.mg = M.mg := congrArg Wd.mg E.wd
theorem EOk.K (E : EOk M G cs k Γ X C) : X.K = M.K := congrArg Wd.K E.wd
theorem EOk.at_ (E : EOk M G cs k Γ X C) {i : Nat} {x : Str} (h : atN Γ.N i x = true) : X.N[i]? = some x := by rw [E.N]; exact atN_ok h
theorem EOk.vis (E : EOk M G cs k Γ X C) {x : Str} (h : Γ.vis x = true) : Vis X.env.scope x := by
  unfold Vis
  rw [E.names]
  unfold Ctx.vis at h
  generalize Γ.names.lookup x = o at h ⊢
  cases o with
  | none => cases h
  | some q => cases q <;> first | exact .inl rfl | exact .inr (.inl rfl) | exact .inr (.inr rfl) | cases h
theorem EOk.gl (E : EOk M G cs k Γ X C) {x : Str} (h : Γ.gl x = true) : Gl X x ∧ (x == ("__debug__" : Str)) = false := by
  unfold Gl Env.kindOf
  rw [E.names]
  unfold Ctx.gl at h
  generalize Γ.names.lookup x = o at h ⊢
  cases o with
  | none => cases h
  | some q => cases q <;> first | exact ⟨rfl, (okN_ok h).1⟩ | cases h
theorem EOk.isB (E : EOk M G cs k Γ X C) {x y : Str} (h : Γ.isB x y = true) : x = y ∧ Gl X y ∧ X.mg y = none := by
  unfold Ctx.isB at h
  rw [Bool.and_eq_true, Bool.and_eq_true] at h
  exact ⟨of_decide_eq_true h.1, (E.gl h.2.1).1, by rw [E.mg]; exact E.m.blt y h.2.2⟩
theorem EOk.fn (E : EOk M G cs k Γ X C) {x : Str} {i : Nat} (h : (match Γ.fns.lookup x with | some j => Nat.beq j i | none => false) = true) : X.mg x = some (.ref (C.G.fadr i)) := by
  split at h
  · rename_i j e
    rw [E.mg, E.g, E.m.fn x j e, Nat.beq_eq.mp h]
  · cases h
theorem EOk.allF (E : EOk M G cs k Γ X C) : AllF X.K C.G := by rw [E.K, E.g]; exact E.m.allF
theorem EOk.cc' (E : EOk M G cs k Γ X C) : CC (Y.wd X) C.G C.cs k := by rw [E.wd, E.g, E.cs]; exact E.cc
/-- the frame's own cells -/
theorem EOk.own (E : EOk M G cs k Γ X C) (h : (!Γ.blk || isNil Γ.caps) = true) : OwnC X C := by
  rw [Bool.or_eq_true, Bool.not_eq_true'] at h
  rcases h with h | h
  · exact (E.fr h).own
  · refine OwnC.nil ?_
    have e := E.caps
    cases q : Γ.caps with
    | nil => rw [q] at e; exact List.map_eq_nil_iff.mp e
    | cons a b => rw [q] at h; cases h
theorem EOk.noc (E : EOk M G cs k Γ X C) {i : Nat} (h : (!memN i Γ.caps) = true) : i ∉ C.oc.map (·.1) := by
  rw [E.caps]
  rw [Bool.not_eq_true'] at h
  exact memN_no h
theorem EOk.noc' (E : EOk M G cs k Γ X C) {i : Nat} (h : (!memN i Γ.caps) = true) : ∀ (j : Nat) (a : Addr), C.oc[j]? ≠ some (i, a) := fun j a e => E.noc h (List.mem_map.mpr ⟨_, List.mem_of_getElem? e, rfl⟩)
theorem EOk.ocj (E : EOk M G cs k Γ X C) {j : Nat} {x : Str} (h : (match nth Γ.caps j with | some i => atN Γ.N i x | none => false) = true) : ∃ i c, C.oc[j]? = some (i, c) ∧ Γ.caps[j]? = some i ∧ X.N[i]? = some x := by
  rw [nth_eq] at h
  split at h
  · rename_i i e
    have e1 := E.caps
    have e2 : (C.oc.map (·.1))[j]? = some i := by rw [e1]; exact e
    rw [List.getElem?_map] at e2
    obtain ⟨p, e3, e4⟩ := Option.map_eq_some_iff.mp e2
    exact ⟨i, p.2, by rw [e3, ← e4], e, E.at_ h⟩
  · cases h
theorem EOk.ndo (E : EOk M G cs k Γ X C) {j i : Nat} {a : Addr} (h : C.oc[j]? = some (i, a)) : ∀ (j' : Nat) (a' : Addr), C.oc[j']? = some (i, a') → j' = j := fun j' a' e => by
  have n := E.capn
  rw [← E.caps] at n
  have f : ∀ {m : Nat} {b : Addr}, C.oc[m]? = some (i, b) → (C.oc.map (·.1))[m]? = some i := fun {m b} z => by rw [List.getElem?_map, z]; rfl
  obtain ⟨p1, q1⟩ := List.getElem?_eq_some_iff.mp (f h)
  obtain ⟨p2, q2⟩ := List.getElem?_eq_some_iff.mp (f e)
  exact (List.getElem_inj n).mp (q2.trans q1.symm)
/-! ### the text's own shape -/
theorem star_cons {e : Expr} {es : List Expr} {env : Env} (h : notSt e = true) : starEach (e :: es) env = (false, eval e env) :: starEach es env := by
  cases e <;> first | rfl | cases h
theorem star_any {pos : Pos} {env : Env} : ∀ {es : List Expr}, allNS es = true → (backTo pos (starEach es env)).any (·.1) = false
  | [], _ => rfl
  | e :: es, h => by
    unfold allNS at h
    rw [Bool.and_eq_true] at h
    rw [star_cons h.1]
    have := star_any (pos := pos) (env := env) h.2
    unfold backTo at this ⊢
    rw [List.map_cons, List.any_cons, this]
    rfl
theorem star_all {pos : Pos} {env : Env} : ∀ {es : List Expr}, allNS es = true → (backTo pos (starEach es env)).all (fun x => !x.1) = true
  | [], _ => rfl
  | e :: es, h => by
    unfold allNS at h
    rw [Bool.and_eq_true] at h
    rw [star_cons h.1]
    have := star_all (pos := pos) (env := env) h.2
    unfold backTo at this ⊢
    rw [List.map_cons, List.all_cons, this]
    rfl
theorem base_ok {o : Expr} {a : Str} {env : Env} {w : Sem Value} (h : notCall o = true) : attributeBase o a env w = w := by
  cases o <;> first | rfl | cases h
theorem plain_ix {b : Expr} (h : notSl b = true) : PlainIx b := fun o i => by
  cases b <;> first | rfl | cases h
theorem marks_ok {o : CmpOp} {b : Expr} (h : notSet b = true) : behindInMarks o b = false := by
  cases b <;> first | rfl | cases h
theorem fold_ok {e : Expr} {env : Env} (h : notSet e = true) : ∀ x, foldedSetIterable e env x = pure x := fun x => by
  cases e <;> first | rfl | cases h
theorem true_ok {e : Expr} {env : Env} (h : notTest e = true) : ∀ whole, isTrue e env whole = (do let v ← whole; standAt e.pos; holding [v] (truthy v)) := fun whole => by
  cases e with
  | UnaryOp op a p => cases op <;> first | rfl | cases h
  | _ => first | rfl | cases h
theorem swaps_ok {e : Expr} {t : Option Expr} {l : Nat} {env : Env} (h : notComp e = true) : swapsWith e t l env = pure false := by
  cases e <;> first | rfl | cases h
theorem each_one {t : Expr} {env : Env} (h : notSt t = true) : (assignEach [t] env).map (·.2) = [assign t env] := by
  cases t <;> first | rfl | cases h
theorem each_cons {t : Expr} {ts : List Expr} {env : Env} (h : notSt t = true) : (assignEach (t :: ts) env).map (·.2) = assign t env :: (assignEach ts env).map (·.2) := by
  cases t <;> first | rfl | cases h
theorem each_len {env : Env} : ∀ {ts : List Expr}, (assignEach ts env).length = ts.length
  | [] => rfl
  | t :: ts => by
    have := each_len (env := env) (ts := ts)
    cases t <;> (show (assignEach ts env).length + 1 = ts.length + 1; rw [this])
theorem each_star {env : Env} : ∀ {ts : List Expr}, allNS ts = true → (assignEach ts env).findIdx? (·.1) = none
  | [], _ => rfl
  | t :: ts, h => by
    unfold allNS at h
    rw [Bool.and_eq_true] at h
    have ih := each_star (env := env) h.2
    have e : assignEach (t :: ts) env = (false, assign t env) :: assignEach ts env := by
      obtain ⟨h1, _⟩ := h
      cases t <;> first | rfl | cases h1
    rw [e, List.findIdx?_cons, ih]
    rfl
theorem chkA_ns : ∀ {es : A} {Γ : Ctx} {xs : List Expr}, chkA es Γ xs = true → allNS xs = true
  | .nil, Γ, xs, h => by
    simp only [chkA] at h
    split at h
    · rfl
    · cases h
  | .cons a es, Γ, xs, h => by
    simp only [chkA] at h
    split at h
    · simp only [Bool.and_eq_true] at h
      unfold allNS
      rw [h.1, chkA_ns h.2.2]
      rfl
    · cases h
theorem defaults_ok {p : Arguments} {env : Env} (h : noDefaults p = true) : defaultsOf p env = ([], []) := by
  obtain ⟨a, b, c, d, e, f, g⟩ := p
  cases e with
  | cons _ _ => cases h
  | nil =>
    cases g with
    | cons _ _ => cases h
    | nil => rfl
end
end Y

/-! Y33: blocks, targets. -/
namespace Y
open PySem PySem.Spec PyProof.Rows L2
section
variable {M : Wd} {G : Gd} {cs : CSem} {k : Nat} {Γ : Ctx} {X : Cx} {C : Cfg}
theorem MOk.inner {scope : Scope} (m : MOk M G Γ) : MOk M G (Γ.inner scope) := ⟨m.K, m.allF, m.fn, m.cst, m.blt, m.cls, m.exm, m.lm⟩
theorem blk_by {N : List Str} {sc scope : Scope} {own : List (Str × Nat)} (h : blkB N sc.names scope own = true) : BlkOk N sc scope own := by
  unfold blkB at h
  simp only [Bool.and_eq_true] at h
  obtain ⟨h1, h2, h3, h4⟩ := h
  have h2 := List.all_eq_true.mp h2
  have h3 := List.all_eq_true.mp h3
  have h4 := List.all_eq_true.mp h4
  refine ⟨?_, fun y hy => of_decide_eq_true (h2 y hy), fun p hp => of_decide_eq_true (h3 p hp), fun y hy e => ?_, fun y hy e => ?_⟩
  · split at h1
    · assumption
    · cases h1
  · have q := h4 y hy
    rw [e] at q
    dsimp only at q
    split at q
    · rename_i z; exact .inl z
    · rename_i z; exact .inr z
    · cases q
  · have q := h4 y hy
    rcases e with e | e
    all_goals
      rw [e] at q
      dsimp only at q
      rw [Bool.or_eq_true] at q
      rcases q with q | q
      · exact .inl (memS_ok q)
      · rw [Bool.not_eq_true'] at q
        exact .inr (memS_no q)
theorem EOk.inner (E : EOk M G cs k Γ X C) {scope : Scope} (hk : scope.kind = .function) (s : Shared) (H : Hp) (A : Addr) (cl : List (Str × Addr)) (fp : List Addr) : EOk M G cs k (Γ.inner scope) (X.blk s H scope (compEnvC scope cl A X.env) fp) C.calm where
  m := E.m.inner
  cc := E.cc
  wd := E.wd
  g := E.g
  cs := E.cs
  N := E.N
  nd := E.nd
  names := by
    show (relabel scope X.env).names = _
    unfold relabel Ctx.inner Env.kindOf
    rw [E.kind, E.names]
    simp
  kind := hk
  calm := E.calm
  guards := E.guards
  room := E.room
  k2 := E.k2
  takes := takes_none5
  caps := E.caps
  capn := E.capn
  fnc := fun x h => h
  fr := fun h => by cases h
/-! ### targets -/
/-- a name of a cell that is no place of the evaluator's -/
theorem g_nmc {i : Nat} {x : Str} {pos : Pos} (hN : X.N.Nodup) (hi : X.N[i]? = some x) (hx : X.env.scope.names.lookup x = some .cell) (hf : X.fn x = true) (no : ∀ (j : Nat) (a : Addr), C.oc[j]? ≠ some (i, a)) : PG X (.Name x pos) (gY C (.nm i)) := by
  refine ⟨fun pins s σ H v u Q I r h => (pg_name hN hi (.inr hx) (.inl hf)).run pins s σ H v u Q I r ?_⟩
  obtain ⟨μ, r, h, d, sr, rd, r', h', e, q⟩ := h
  simp only [asgT, Option.some.injEq, Prod.mk.injEq] at e
  obtain ⟨rfl, rfl⟩ := e
  have hl : i < σ.length := by rw [I.len]; exact (List.getElem?_eq_some_iff.mp hi).1
  exact q _ (sr.store rd hl no) (by rw [List.length_set]) fun j hj => by
    have ne : i ≠ j := fun z => hj (by simp [tgN, z])
    rw [List.getElem?_set_ne ne]
mutual
theorem okTg : ∀ (t : Tg) (e : Expr) {Γ : Ctx} {X : Cx} {C : Cfg}, EOk M G cs k Γ X C → chkTg t Γ e = true → PG X e (gY C t)
  | .nm i, e, Γ, X, C, E, h => by
    simp only [chkTg] at h
    split at h
    · simp only [Bool.and_eq_true] at h
      obtain ⟨h1, h2, h3⟩ := h
      split at h3
      · rename_i hl; exact g_nm E.nd (E.at_ h1) (by rw [E.names]; exact hl) (E.noc' h2)
      · rename_i hl; exact g_nmc E.nd (E.at_ h1) (by rw [E.names]; exact hl) (E.fnc _ h3) (E.noc' h2)
      · cases h3
    · cases h
  | .cn j, e, Γ, X, C, E, h => by
    simp only [chkTg] at h
    split at h
    · rw [Bool.and_eq_true, Bool.and_eq_true] at h
      obtain ⟨h0, h1, h2⟩ := h
      obtain ⟨i, c, e1, e2, e3⟩ := E.ocj h1
      split at h2
      · rename_i hl
        exact g_cn E.nd e3 (by rw [E.names]; exact hl) (E.fnc _ h0) e1 (E.ndo e1)
      · cases h2
    · cases h
  | .tup ts, e, Γ, X, C, E, h => by
    simp only [chkTg] at h
    split at h
    · rename_i es z pos
      have ns := chkTgs_ns ts es h
      refine g_tup E.hK E.calm (okTgs ts es E h) (asgTs_len ts) ?_ (each_star ns.1)
      rw [each_len]; exact ns.2
    · cases h
  | .nil, e, Γ, X, C, E, h => by simp only [chkTg] at h; cases h
  | .cons a b, e, Γ, X, C, E, h => by simp only [chkTg] at h; cases h
theorem okTgs : ∀ (t : Tg) (es : List Expr) {Γ : Ctx} {X : Cx} {C : Cfg}, EOk M G cs k Γ X C → chkTgs t Γ es = true → PGs X es (gYs C t)
  | .nil, es, Γ, X, C, E, h => by
    simp only [chkTgs] at h
    split at h
    · exact gs_nil
    · cases h
  | .cons a b, es, Γ, X, C, E, h => by
    simp only [chkTgs] at h
    split at h
    · rename_i e es
      simp only [Bool.and_eq_true] at h
      exact gs_cons (okTg a e E h.2.1) (okTgs b es E h.2.2) (each_cons h.1)
    · cases h
  | .nm i, es, Γ, X, C, E, h => by simp only [chkTgs] at h; cases h
  | .cn i, es, Γ, X, C, E, h => by simp only [chkTgs] at h; cases h
  | .tup i, es, Γ, X, C, E, h => by simp only [chkTgs] at h; cases h
theorem chkTgs_ns : ∀ (t : Tg) (es : List Expr) {Γ : Ctx}, chkTgs t Γ es = true → allNS es = true ∧ es.length = tgL t
  | .nil, es, Γ, h => by
    simp only [chkTgs] at h
    split at h
    · exact ⟨rfl, rfl⟩
    · cases h
  | .cons a b, es, Γ, h => by
    simp only [chkTgs] at h
    split at h
    · rename_i e es
      simp only [Bool.and_eq_true] at h
      obtain ⟨h1, h2⟩ := chkTgs_ns b es h.2.2
      unfold allNS tgL
      rw [h.1, h1, List.length_cons, h2]
      exact ⟨rfl, rfl⟩
    · cases h
  | .nm i, es, Γ, h => by simp only [chkTgs] at h; cases h
  | .cn i, es, Γ, h => by simp only [chkTgs] at h; cases h
  | .tup i, es, Γ, h => by simp only [chkTgs] at h; cases h
end
end
end Y

/-! Y34: the checker's word on expressions holds. -/
namespace Y
open PySem PySem.Spec PyProof.Rows L2
def isBo : Expr → Bool
  | .BoolOp _ _ _ => true
  | _ => false
section
variable {M : Wd} {G : Gd} {cs : CSem} {k : Nat}
/-- an expression's soundness: as a value, as a test -/
def Snd (M : Wd) (G : Gd) (cs : CSem) (k : Nat) (t : Bool) (Γ : Ctx) (a : Expr) (m : SE) : Prop := ∀ (X : Cx) (C : Cfg), EOk M G cs k Γ X C → (t = false → PE X a (tE C m)) ∧ (t = true → PT X a (tT C (tst m)) ∧ (isBo a = true → PW X a (tT C (tst m))))
theorem Snd.val {Γ : Ctx} {a : Expr} {m : SE} (h : Snd M G cs k false Γ a m) {X : Cx} {C : Cfg} (E : EOk M G cs k Γ X C) : PE X a (tE C m) := (h X C E).1 rfl
theorem Snd.test {Γ : Ctx} {a : Expr} {m : SE} (h : Snd M G cs k true Γ a m) {X : Cx} {C : Cfg} (E : EOk M G cs k Γ X C) : PT X a (tT C (tst m)) := ((h X C E).2 rfl).1
theorem Snd.of {t : Bool} {Γ : Ctx} {a : Expr} {m : SE} (hn : notTest a = true) (h : ∀ (X : Cx) (C : Cfg), EOk M G cs k Γ X C → PE X a (tE C m)) : Snd M G cs k t Γ a m := fun X C E =>
  ⟨fun _ => h X C E, fun _ => ⟨y_tru E.hK (h X C E) (true_ok hn), fun hb => by cases a <;> first | (cases hn; done) | (cases hb; done)⟩⟩
theorem notTest_L : ∀ {l : L} {Γ : Ctx} {a : Expr}, chkL l Γ a = true → notTest a = true := fun {l Γ a} h => by
  cases l <;> simp only [chkL] at h <;> split at h <;> first | rfl | cases h
theorem cst_ok {X : Cx} {C : Cfg} {c : Const} {d : PyData} {n : Nat} {p : Pos} (h : cstB c d = true) : PE X (.Constant c n p) (tE C (kC (.p d))) := by
  cases c <;> cases d <;> first | (cases h; done) | skip
  · exact y_cst pe_non rfl
  · rename_i a b
    have e : a = b := by simpa [cstB] using h
    subst e
    exact y_cst pe_bl rfl
  · rename_i a b
    have e : a = b := of_decide_eq_true h
    subst e
    exact y_cst pe_int rfl
  · rename_i a b
    have e : a = b := of_decide_eq_true h
    subst e
    exact y_cst pe_str rfl
theorem few1 {env : Env} {e : Expr} {pos : Pos} (h : notSt e = true) : ((backTo pos (starEach [e] env)).all (fun x => !x.1) && (backToKw pos (keywordEach [] env)).all (fun x => x.1.isSome) && decide (([e] : List Expr).length + ([] : List Keyword).length + (if ([] : List Keyword).isEmpty then 0 else 1) < 30)) = true := by
  rw [star_all (by unfold allNS; rw [h]; rfl)]
  rfl
theorem few2 {env : Env} {e f : Expr} {pos : Pos} (h : notSt e = true) (h2 : notSt f = true) : ((backTo pos (starEach [e, f] env)).all (fun x => !x.1) && (backToKw pos (keywordEach [] env)).all (fun x => x.1.isSome) && decide (([e, f] : List Expr).length + ([] : List Keyword).length + (if ([] : List Keyword).isEmpty then 0 else 1) < 30)) = true := by
  rw [star_all (by unfold allNS; rw [h]; unfold allNS; rw [h2]; rfl)]
  rfl
theorem pr_ok {Γ : Ctx} {X : Cx} {C : Cfg} (E : EOk M G cs k Γ X C) {p : Pr} {x : Str} {a : Expr} {args : List Expr} {mes : SL} {p1 p2 : Pos} (hb : Γ.isB x (prName p) = true) (ha : PA X (a :: args) (tA C mes)) (ns : allNS (a :: args) = true) : PE X (.Call (.Name x p1) (a :: args) [] p2) (tE C (kPr p mes)) := by
  obtain ⟨rfl, hg, hm⟩ := E.isB hb
  have n0 : notSt a = true := by unfold allNS at ns; rw [Bool.and_eq_true] at ns; exact ns.1
  have n1 : allNS args = true := by unfold allNS at ns; rw [Bool.and_eq_true] at ns; exact ns.2
  have he := star_cons (es := args) (env := X.env) n0
  have hpl := star_any (pos := p2) (env := X.env) n1
  cases p with
  | len => exact y_prB (cr_len E.hK) hg hm (by decide +kernel) ha (by decide +kernel) (by decide +kernel) he hpl
  | sum => exact y_prB (cr_sum E.hK E.calm) hg hm (by decide +kernel) ha (by decide +kernel) (by decide +kernel) he hpl
  | all => exact y_prB (cr_all E.hK E.calm) hg hm (by decide +kernel) ha (by decide +kernel) (by decide +kernel) he hpl
  | any => exact y_prB (cr_any E.hK E.calm) hg hm (by decide +kernel) ha (by decide +kernel) (by decide +kernel) he hpl
  | min => exact y_prB (cr_min E.hK E.calm E.hu) hg hm (by decide +kernel) ha (by decide +kernel) (by decide +kernel) he hpl
  | max => exact y_prB (cr_max E.hK E.calm E.hu) hg hm (by decide +kernel) ha (by decide +kernel) (by decide +kernel) he hpl
  | min2 => exact y_prB (cr_min2 E.calm) hg hm (by decide +kernel) ha (by decide +kernel) (by decide +kernel) he hpl
  | max2 => exact y_prB (cr_max2 E.calm) hg hm (by decide +kernel) ha (by decide +kernel) (by decide +kernel) he hpl
  | abs => exact y_prB cr_abs hg hm (by decide +kernel) ha (by decide +kernel) (by decide +kernel) he hpl
  | int => exact y_prT cr_int hg hm (by decide +kernel) ha (by decide +kernel) (by decide +kernel) he hpl
  | tup => exact y_prT (cr_tup E.hK) hg hm (by decide +kernel) ha (by decide +kernel) (by decide +kernel) he hpl
  | repr => exact y_prB (cr_repr E.hK E.hu E.guards) hg hm (by decide +kernel) ha (by decide +kernel) (by decide +kernel) he hpl
theorem ty_ok {Γ : Ctx} {X : Cx} {C : Cfg} (E : EOk M G cs k Γ X C) {T : Str} {m : String} (h : Γ.tyOk T m = true) : Gl X T ∧ X.mg T = none ∧ bootBuiltins T = some (.type m) ∧ T ≠ "__name__" ∧ (T == ("__debug__" : Str)) = false ∧ m ∈ tyNames := by
  unfold Ctx.tyOk at h
  split at h
  · rename_i y e
    obtain ⟨rfl, hg, hm⟩ := E.isB h
    refine ⟨hg, hm, ?_⟩
    unfold tyB at e
    split at e <;> first | (cases e; done) | (cases e; exact ⟨by decide +kernel, by decide +kernel, by decide +kernel, by decide +kernel⟩)
  · cases h
theorem tys_ok {Γ : Ctx} {X : Cx} {C : Cfg} (E : EOk M G cs k Γ X C) : ∀ {es : List Expr} {ms : List String}, Γ.tysOk es ms = true → PTys X es ms ∧ ∀ m ∈ ms, m ∈ tyNames
  | [], [], _ => ⟨pty_nil, fun _ z => nomatch z⟩
  | [], _ :: _, h => by cases h
  | e :: es, ms, h => by
    unfold Ctx.tysOk at h
    split at h
    · rename_i q2; cases q2
    · rename_i T p es' m ms' q1
      cases q1
      rw [Bool.and_eq_true] at h
      obtain ⟨a1, a2, a3, a4, a5, a6⟩ := ty_ok E h.1
      obtain ⟨b1, b2⟩ := tys_ok E h.2
      refine ⟨pty_cons a1 a2 a3 a4 a5 b1 (star_cons rfl), fun n hn => ?_⟩
      rcases List.mem_cons.mp hn with z | z
      · rw [z]; exact a6
      · exact b2 n z
    · cases h
theorem isi_ok {Γ : Ctx} {X : Cx} {C : Cfg} (E : EOk M G cs k Γ X C) {f : Str} {x t : Expr} {ms : List String} {ma : SE} {p1 p2 : Pos} (hf : Γ.isB f "isinstance" = true) (hx : notSt x = true) (h : Γ.isiOk t ms = true) (ha : PE X x (tE C ma)) : PE X (.Call (.Name f p1) [x, t] [] p2) (tE C (kIsi ma ms)) := by
  obtain ⟨rfl, hg, hm⟩ := E.isB hf
  unfold Ctx.isiOk at h
  split at h
  · rename_i T p3
    split at h
    · rename_i m
      obtain ⟨a1, a2, a3, a4, a5, a6⟩ := ty_ok E h
      exact y_isi1 E.hK hg hm ha a1 a2 a3 a4 a5 a6 (star_cons hx) (star_cons rfl) (star_any rfl)
    · cases h
  · rename_i es n p3
    rw [Bool.and_eq_true] at h
    obtain ⟨b1, b2⟩ := tys_ok E h.1
    exact y_isiT E.hK hg hm ha b1 (of_decide_eq_true h.2) b2 (star_cons hx) (star_cons rfl) (star_any rfl)
  · cases h
theorem lam_ok {Γ : Ctx} {X : Cx} {C : Cfg} (E : EOk M G cs k Γ X C) {kk : Nat} {js : List Nat} {params : Arguments} {body : Expr} {scope : Scope} {p : Pos} (h0 : (!Γ.blk) = true) (h1 : Γ.tab = true) (h2 : noDefaults params = true) (h3 : jsOk Γ scope.names js = true) (h4 : freeIn scope.names (capsOf Γ js) = true) (h5 : Γ.lm kk ⟨params, body, scope, Γ.qual, capsOf Γ js⟩ = true) :
    PE X (.Lambda params body scope p) (tE C (kLam kk js)) := by
  rw [Bool.not_eq_true'] at h0
  have F := E.fr h0
  obtain ⟨c, P, t1, t2, t3, t4, t5⟩ := F.tab h1
  have key : ∀ {js : List Nat}, jsOk Γ scope.names js = true → js.length = (capsOf Γ js).length ∧ ∀ (n j : Nat) (y : Str), js[n]? = some j → (capsOf Γ js)[n]? = some y → (y, NameKind.free) ∈ scope.names ∧ ∃ i a, C.oc[j]? = some (i, a) ∧ X.env.cells.lookup y = some a := by
    intro js
    induction js with
    | nil => intro _; exact ⟨rfl, fun n j y e => by simp at e⟩
    | cons j js ih =>
      intro h
      unfold jsOk at h
      rw [Bool.and_eq_true] at h
      obtain ⟨h1, h2⟩ := h
      obtain ⟨l1, l2⟩ := ih h2
      split at h1
      · rename_i i e1
        split at h1
        · rename_i x e2
          have ec : capsOf Γ (j :: js) = x :: capsOf Γ js := by
            show (match nth Γ.caps j with | some i => (match nth Γ.N i with | some x => x :: capsOf Γ js | none => capsOf Γ js) | none => capsOf Γ js) = _
            rw [e1]; dsimp only; rw [e2]
          rw [ec]
          refine ⟨by rw [List.length_cons, List.length_cons, l1], fun n j' y q1 q2 => ?_⟩
          cases n with
          | succ n => exact l2 n j' y (by simpa using q1) (by simpa using q2)
          | zero =>
            simp at q1 q2
            subst q1 q2
            split at h1
            · rename_i x' e3
              have m := List.mem_of_find?_eq_some e3
              have ex := of_decide_eq_true (List.find?_some (p := fun p : Str × NameKind => decide (p.1 = x)) e3)
              dsimp only at ex
              subst ex
              refine ⟨m, ?_⟩
              obtain ⟨i', a', z1, z2, z3⟩ := E.ocj (j := j) (x := x') (by rw [e1]; dsimp only; unfold atN; rw [e2]; exact decide_eq_true rfl)
              obtain ⟨x2, z4, z5⟩ := F.cell j i' a' z1
              rw [z3] at z4
              cases z4
              exact ⟨i', a', z1, z5⟩
            · cases h1
        · cases h1
      · cases h1
  obtain ⟨k1, k2⟩ := key h3
  have hfc : ∀ y, (y, NameKind.free) ∈ scope.names → y ∈ capsOf Γ js := fun y m => memS_ok (List.all_eq_true.mp h4 (y, NameKind.free) m)
  have hm : C.G.lam kk ⟨params, body, scope, X.env.qual ++ "<lambda>", capsOf Γ js⟩ := by
    rw [t5, E.g]; exact E.m.lm kk _ h5
  rw [← E.g] at t3 t4
  refine y_lam t1 t2 t3 t4 (defaults_ok h2) (fun y m e => ?_) hm k1 hfc k2
  obtain ⟨n, hn⟩ := List.mem_iff_getElem?.mp (hfc y.1 (by rw [← e]; exact m))
  have hl : n < js.length := by rw [k1]; exact (List.getElem?_eq_some_iff.mp hn).1
  obtain ⟨_, i, a, _, z⟩ := k2 n _ _ (List.getElem?_eq_getElem hl) hn
  exact ⟨a, z⟩
theorem key_ok {X : Cx} {e : Expr} {q : Key} (h : keyB e q = true) : PE X e (tC (L2.kV q)) := by
  unfold keyB at h
  split at h
  · rw [of_decide_eq_true h]; exact pe_int
  · rw [of_decide_eq_true h]; exact pe_str
  · cases h
end
end Y

/-! Y35: the checker's word on expressions: the induction. -/
namespace Y
open PySem PySem.Spec PyProof.Rows L2
section
variable {M : Wd} {G : Gd} {cs : CSem} {k : Nat}
theorem call_ok {Γ : Ctx} {X : Cx} {C : Cfg} (E : EOk M G cs k Γ X C) {iso : Bool} {f : Nat} {x : Str} {args : List Expr} {mes : SL} {p1 p2 : Pos} (hg : Γ.gl x = true) (hf : (match Γ.fns.lookup x with | some j => Nat.beq j f | none => false) = true) (hi : (iso || (!Γ.blk || isNil Γ.caps)) = true) (ns : allNS args = true) (ha : PA X args (tA C mes)) (h0 : args = [] → mes = aNil) :
    PE X (.Call (.Name x p1) args [] p2) (tE C (kCall iso f mes)) := by
  obtain ⟨g1, g2⟩ := E.gl hg
  have hm := E.fn hf
  have hF := E.allF f
  cases args with
  | nil =>
    rw [h0 rfl]
    cases iso with
    | true => exact y_callI0 E.cc' E.room E.guards E.takes g1 hm hF g2
    | false => exact y_call0 E.cc' E.room E.guards E.takes (E.own (by simpa using hi)) g1 hm hF g2
  | cons a args =>
    unfold allNS at ns
    rw [Bool.and_eq_true] at ns
    cases iso with
    | true => exact y_callI E.cc' E.room E.guards E.takes g1 hm hF ha g2 (star_cons ns.1) (star_any ns.2)
    | false => exact y_call E.cc' E.room E.guards E.takes (E.own (by simpa using hi)) g1 hm hF ha g2 (star_cons ns.1) (star_any ns.2)
theorem cval_ok {Γ : Ctx} {X : Cx} {C : Cfg} (E : EOk M G cs k Γ X C) {x : Str} {args : List Expr} {ma : SE} {mes : SL} {p1 p2 : Pos} (hx : PE X (.Name x p1) (tE C ma)) (hi : (!Γ.blk || isNil Γ.caps) = true) (ns : allNS args = true) (ha : PA X args (tA C mes)) (h0 : args = [] → mes = aNil) :
    PE X (.Call (.Name x p1) args [] p2) (tE C (kCval ma mes)) := by
  cases args with
  | nil =>
    rw [h0 rfl]
    exact y_cval0 E.cc' E.room E.guards E.takes (E.own hi) E.allF hx
  | cons a args =>
    unfold allNS at ns
    rw [Bool.and_eq_true] at ns
    exact y_cval E.cc' E.room E.guards E.takes (E.own hi) E.allF hx ha (star_cons ns.1) (star_any ns.2)
theorem nil_of {es : A} {Γ : Ctx} {xs : List Expr} (h : chkA es Γ xs = true) : xs = [] → evs es = aNil := fun e => by
  subst e
  cases es with
  | nil => rfl
  | cons a b => simp only [chkA] at h; cases h
theorem rev_shape {st : Expr} (h : one1 st = true) : ∃ n p1 p2, st = .UnaryOp .USub (.Constant (.int 1) n p1) p2 := by
  unfold one1 at h
  split at h
  · exact ⟨_, _, _, rfl⟩
  · cases h
theorem toList_one {o : Option Expr} {x : Expr} (h : o.toList = [x]) : o = some x := by cases o with
  | none => cases h
  | some y => cases h; rfl
mutual
theorem sndE : ∀ (e : E) (t : Bool) (Γ : Ctx) (a : Expr), chkE e t Γ a = true → Snd M G cs k t Γ a (ev e)
  | .v i, t, Γ, a, h => by
    simp only [chkE] at h
    split at h
    · simp only [Bool.and_eq_true] at h
      obtain ⟨h1, h2, h3, h4⟩ := h
      exact .of rfl fun X C E => y_v (E.noc h4) (E.at_ h1) (E.vis h2) (okN_ok h3).1 (okN_ok h3).2
    · cases h
  | .cv j, t, Γ, a, h => by
    simp only [chkE] at h
    split at h
    · rw [Bool.and_eq_true, Bool.and_eq_true] at h
      obtain ⟨h1, h2, h3⟩ := h
      refine .of rfl fun X C E => ?_
      obtain ⟨i, c, e1, e2, e3⟩ := E.ocj h1
      exact y_cv e1 e3 (E.vis h2) (okN_ok h3).1 (okN_ok h3).2
    · cases h
  | .c d, t, Γ, a, h => by
    simp only [chkE] at h
    split at h
    · exact .of rfl fun X C E => cst_ok h
    · cases h
  | .g y d, t, Γ, a, h => by
    simp only [chkE] at h
    split at h
    · rw [Bool.and_eq_true, Bool.and_eq_true] at h
      obtain ⟨h1, h2, h3⟩ := h
      refine .of rfl fun X C E => ?_
      obtain ⟨g1, g2⟩ := E.gl h2
      split at h3
      · rename_i d' e
        obtain ⟨u, v, q1, q2, q3⟩ := E.m.cst _ _ e
        rw [← dB_ok h3]
        exact y_glob g1 (by rw [E.mg]; exact q1) q2 q3 g2
      · cases h3
    · cases h
  | .fv i, t, Γ, a, h => by
    simp only [chkE] at h
    split at h
    · rw [Bool.and_eq_true] at h
      refine .of rfl fun X C E => ?_
      obtain ⟨g1, g2⟩ := E.gl h.1
      exact y_fv g1 (E.fn h.2) g2
    · cases h
  | .bin o a b, t, Γ, e, h => by
    simp only [chkE] at h
    split at h
    · simp only [Bool.and_eq_true] at h
      obtain ⟨h1, h2, h3⟩ := h
      rw [bopB_ok h1]
      exact .of rfl fun X C E => y_bin E.hK ((sndE a false Γ _ h2).val E) ((sndE b false Γ _ h3).val E)
    · cases h
  | .neg a, t, Γ, e, h => by
    simp only [chkE] at h
    split at h
    · exact .of rfl fun X C E => y_neg ((sndE a false Γ _ h).val E)
    · cases h
  | .cmp o a b, t, Γ, e, h => by
    simp only [chkE] at h
    split at h
    · simp only [Bool.and_eq_true] at h
      obtain ⟨h1, h2, h3, h4⟩ := h
      rw [copB_ok h1]
      exact fun X C E => ⟨fun _ => y_cmp E.hK E.hu ((sndE a false Γ _ h3).val E) ((sndE b false Γ _ h4).val E) (marks_ok h2), fun _ => ⟨y_tcmp E.hK E.hu ((sndE a false Γ _ h3).val E) ((sndE b false Γ _ h4).val E) (marks_ok h2), fun z => by cases z⟩⟩
    · cases h
  | .chn o1 o2 a b c, t, Γ, e, h => by
    simp only [chkE] at h
    split at h
    · simp only [Bool.and_eq_true] at h
      obtain ⟨h1, h2, h3, h4, h5, h6⟩ := h
      rw [copB_ok h1, copB_ok h2]
      exact fun X C E => ⟨fun _ => y_chn E.hK E.hu ((sndE a false Γ _ h4).val E) ((sndE b false Γ _ h5).val E) ((sndE c false Γ _ h6).val E) (marks_ok h3), fun _ => ⟨y_tchn E.hK E.hu ((sndE a false Γ _ h4).val E) ((sndE b false Γ _ h5).val E) ((sndE c false Γ _ h6).val E) (marks_ok h3), fun z => by cases z⟩⟩
    · cases h
  | .and a b, t, Γ, e, h => by
    simp only [chkE] at h
    split at h
    · rename_i x y rest pos
      rw [Bool.and_eq_true] at h
      obtain ⟨h1, h2⟩ := h
      intro X C E
      cases rest with
      | nil =>
        replace h2 : chkE b t Γ y = true := h2
        refine ⟨fun et => ?_, fun et => ?_⟩
        · subst et; exact y_and E.hK ((sndE a false Γ _ h1).val E) (y_one ((sndE b false Γ _ h2).val E))
        · subst et
          have w := y_tand (pos := pos) ((sndE a true Γ _ h1).test E) (y_tand1 (pos := pos) ((sndE b true Γ _ h2).test E))
          exact ⟨w.pt, fun _ => w⟩
      | cons r rest =>
        replace h2 : chkE b t Γ (.BoolOp .And (y :: r :: rest) pos) = true := h2
        refine ⟨fun et => ?_, fun et => ?_⟩
        · subst et; exact y_and E.hK ((sndE a false Γ _ h1).val E) ((sndE b false Γ _ h2).val E)
        · subst et
          have w := y_tand (pos := pos) ((sndE a true Γ _ h1).test E) (((sndE b true Γ _ h2 X C E).2 rfl).2 rfl)
          exact ⟨w.pt, fun _ => w⟩
    · cases h
  | .or a b, t, Γ, e, h => by
    simp only [chkE] at h
    split at h
    · rename_i x y rest pos
      rw [Bool.and_eq_true] at h
      obtain ⟨h1, h2⟩ := h
      intro X C E
      cases rest with
      | nil =>
        replace h2 : chkE b t Γ y = true := h2
        refine ⟨fun et => ?_, fun et => ?_⟩
        · subst et; exact y_or E.hK ((sndE a false Γ _ h1).val E) (y_one ((sndE b false Γ _ h2).val E))
        · subst et
          have w := y_tor (pos := pos) ((sndE a true Γ _ h1).test E) (y_tor1 (pos := pos) ((sndE b true Γ _ h2).test E))
          exact ⟨w.pt, fun _ => w⟩
      | cons r rest =>
        replace h2 : chkE b t Γ (.BoolOp .Or (y :: r :: rest) pos) = true := h2
        refine ⟨fun et => ?_, fun et => ?_⟩
        · subst et; exact y_or E.hK ((sndE a false Γ _ h1).val E) ((sndE b false Γ _ h2).val E)
        · subst et
          have w := y_tor (pos := pos) ((sndE a true Γ _ h1).test E) (((sndE b true Γ _ h2 X C E).2 rfl).2 rfl)
          exact ⟨w.pt, fun _ => w⟩
    · cases h
  | .not a, t, Γ, e, h => by
    simp only [chkE] at h
    split at h
    · intro X C E
      refine ⟨fun et => ?_, fun et => ?_⟩
      · subst et; exact y_not E.hK ((sndE a false Γ _ h).val E)
      · subst et; exact ⟨y_tnot ((sndE a true Γ _ h).test E), fun z => by cases z⟩
    · cases h
  | .ife c a b, t, Γ, e, h => by
    simp only [chkE] at h
    split at h
    · simp only [Bool.and_eq_true] at h
      obtain ⟨h0, h1, h2, h3⟩ := h
      intro X C E
      refine ⟨fun et => y_ife ((sndE c true Γ _ h1).test E) ((sndE a false Γ _ h2).val E) ((sndE b false Γ _ h3).val E), fun et => ?_⟩
      subst et; cases h0
    · cases h
  | .tup es, t, Γ, e, h => by
    simp only [chkE] at h
    split at h
    · exact .of rfl fun X C E => y_tup (sndA es Γ _ h X C E)
    · cases h
  | .imm l, t, Γ, e, h => by
    simp only [chkE] at h
    exact .of (notTest_L h) fun X C E => y_imm (sndL l Γ _ h X C E)
  | .mut l, t, Γ, e, h => by
    simp only [chkE] at h
    exact .of (notTest_L h) fun X C E => y_mut (sndL l Γ _ h X C E)
  | .ix a b, t, Γ, e, h => by
    simp only [chkE] at h
    split at h
    · simp only [Bool.and_eq_true] at h
      obtain ⟨h1, h2, h3⟩ := h
      exact .of rfl fun X C E => y_ix E.hK (by have := E.hu; omega) ((sndE a false Γ _ h2).val E) ((sndE b false Γ _ h3).val E) (plain_ix h1)
    · cases h
  | .sl a lo hi, t, Γ, e, h => by
    simp only [chkE] at h
    split at h
    · simp only [Bool.and_eq_true] at h
      obtain ⟨h1, h2, h3⟩ := h
      exact .of rfl fun X C E => y_sl E.hK ((sndE a false Γ _ h1).val E) (sndP lo Γ _ h2 X C E) (sndP hi Γ _ h3 X C E)
    · cases h
  | .call iso f es, t, Γ, e, h => by
    simp only [chkE] at h
    split at h
    · rw [Bool.and_eq_true, Bool.and_eq_true, Bool.and_eq_true] at h
      obtain ⟨h1, h2, h3, h4⟩ := h
      exact .of rfl fun X C E => call_ok E h1 h2 h3 (chkA_ns h4) (sndA es Γ _ h4 X C E) (nil_of h4)
    · cases h
  | .cval a es, t, Γ, e, h => by
    simp only [chkE] at h
    split at h
    · rw [Bool.and_eq_true, Bool.and_eq_true] at h
      obtain ⟨h1, h2, h3⟩ := h
      exact .of rfl fun X C E => cval_ok E ((sndE a false Γ _ h1).val E) h2 (chkA_ns h3) (sndA es Γ _ h3 X C E) (nil_of h3)
    · cases h
  | .pr p es, t, Γ, e, h => by
    simp only [chkE] at h
    split at h
    · rw [Bool.and_eq_true] at h
      exact .of rfl fun X C E => pr_ok E h.1 (sndA es Γ _ h.2 X C E) (chkA_ns h.2)
    · cases h
  | .mt m o es, t, Γ, e, h => by
    simp only [chkE] at h
    split at h
    · rename_i ob nm apos args cpos
      simp only [Bool.and_eq_true] at h
      obtain ⟨h1, h2, h3, h4, h5, h6⟩ := h
      have h1 := of_decide_eq_true h1
      subst h1
      have h2 := Nat.beq_eq.mp h2
      refine .of rfl fun X C E => ?_
      have ho := (sndE o false Γ _ h5).val E
      have hu := E.hu
      have ha := sndA es Γ _ h6 X C E
      have ns := chkA_ns h6
      cases m with
      | append =>
        match args, h2 with
        | [x], _ =>
          have n1 : notSt x = true := by unfold allNS at ns; rw [Bool.and_eq_true] at ns; exact ns.1
          exact y_append ho ha (base_ok h3) (few1 n1) h4 (star_cons n1) (star_any rfl)
      | popat =>
        match args, h2 with
        | [x], _ =>
          have n1 : notSt x = true := by unfold allNS at ns; rw [Bool.and_eq_true] at ns; exact ns.1
          exact y_popat ho ha (base_ok h3) (few1 n1) h4 (star_cons n1) (star_any rfl)
      | pop =>
        match args, h2 with
        | [], _ =>
          show PE X _ (tE C (kMt .pop (ev o) (evs es)))
          rw [nil_of h6 rfl]
          exact y_pop ho (base_ok h3) h4
      | get1 =>
        match args, h2 with
        | [x], _ =>
          have n1 : notSt x = true := by unfold allNS at ns; rw [Bool.and_eq_true] at ns; exact ns.1
          obtain ⟨m1, em, q⟩ := sndA1 es Γ x h6
          show PE X _ (tE C (kMt .get1 (ev o) (evs es)))
          rw [em]
          exact y_get1 hu ho (q.val E) ⟨base_ok h3, few1 n1, h4, by rw [star_cons n1]; rfl⟩
      | get2 =>
        match args, h2 with
        | [x, y], _ =>
          have n1 : notSt x = true := by unfold allNS at ns; rw [Bool.and_eq_true] at ns; exact ns.1
          have n2 : notSt y = true := by unfold allNS at ns; rw [Bool.and_eq_true] at ns; have := ns.2; unfold allNS at this; rw [Bool.and_eq_true] at this; exact this.1
          obtain ⟨m1, m2, em, q1, q2⟩ := sndA2 es Γ x y h6
          show PE X _ (tE C (kMt .get2 (ev o) (evs es)))
          rw [em]
          exact y_get2 hu ho (q1.val E) (q2.val E) ⟨base_ok h3, few2 n1 n2, h4, by rw [star_cons n1, star_cons n2]; rfl⟩
    · cases h
  | .lam kk js, t, Γ, e, h => by
    simp only [chkE] at h
    split at h
    · simp only [Bool.and_eq_true] at h
      obtain ⟨h0, h1, h2, h3, h4, h5⟩ := h
      exact .of rfl fun X C E => lam_ok E h0 h1 h2 h3 h4 h5
    · cases h
  | .isi a ms, t, Γ, e, h => by
    simp only [chkE] at h
    split at h
    · simp only [Bool.and_eq_true] at h
      obtain ⟨h0, h1, h2, h3⟩ := h
      exact .of rfl fun X C E => isi_ok E h0 h1 h2 ((sndE a false Γ _ h3).val E)
    · cases h
  | .dk ks es, t, Γ, e, h => by
    simp only [chkE] at h
    split at h
    · rename_i keys vals pos
      simp only [Bool.and_eq_true] at h
      obtain ⟨h1, h2, h3, h4, h5⟩ := h
      refine .of rfl fun X C E => ?_
      have h2 := of_decide_eq_true h2
      cases keys with
      | nil =>
        cases vals with
        | cons _ _ => cases h2
        | nil =>
          cases ks with
          | cons _ _ => cases h1
          | nil =>
            show PE X _ (tE C (kDk [] (evs es)))
            rw [nil_of h5 rfl]
            exact y_dk0
      | cons k0 keys => exact y_dk (sndD es Γ (k0 :: keys) vals ks pos h1 h2 h5 X C E) (by simp) (of_decide_eq_true h3) (of_decide_eq_true h4)
    · cases h
  | .dt0, t, Γ, e, h => by
    simp only [chkE] at h
    split at h
    · exact .of rfl fun X C E => y_dt0
    · cases h
theorem sndP : ∀ (o : O) (Γ : Ctx) (l : Option Expr), chkO o false Γ l.toList = true → ∀ (X : Cx) (C : Cfg), EOk M G cs k Γ X C → PO X l (tR C RI (slP (evO o)))
  | .no, Γ, l, h, X, C, E => by
    simp only [chkO] at h
    split at h
    · rename_i e
      cases l with
      | none => exact y_ono
      | some _ => cases e
    · cases h
  | .so a, Γ, l, h, X, C, E => by
    simp only [chkO] at h
    split at h
    · rename_i x e
      rw [toList_one e]
      exact y_oso ((sndE a false Γ _ h).val E)
    · cases h
theorem sndC : ∀ (o : O) (Γ : Ctx) (l : List Expr), chkO o true Γ l = true → ∀ (X : Cx) (C : Cfg), EOk M G cs k Γ X C → PTs X l (tT C (tCond (evO o)))
  | .no, Γ, l, h, X, C, E => by
    simp only [chkO] at h
    split at h
    · exact y_tcNo
    · cases h
  | .so a, Γ, l, h, X, C, E => by
    simp only [chkO] at h
    split at h
    · exact y_tcSo ((sndE a true Γ _ h).test E)
    · cases h
theorem sndA : ∀ (es : A) (Γ : Ctx) (l : List Expr), chkA es Γ l = true → ∀ (X : Cx) (C : Cfg), EOk M G cs k Γ X C → PA X l (tA C (evs es))
  | .nil, Γ, l, h, X, C, E => by
    simp only [chkA] at h
    split at h
    · exact y_anil
    · cases h
  | .cons a es, Γ, l, h, X, C, E => by
    simp only [chkA] at h
    split at h
    · simp only [Bool.and_eq_true] at h
      obtain ⟨h1, h2, h3⟩ := h
      exact y_acons ((sndE a false Γ _ h2).val E) (sndA es Γ _ h3 X C E) (star_cons h1)
    · cases h
theorem sndA1 : ∀ (es : A) (Γ : Ctx) (x : Expr), chkA es Γ [x] = true → ∃ m, evs es = aCons m aNil ∧ Snd M G cs k false Γ x m
  | .nil, Γ, x, h => by simp only [chkA] at h; cases h
  | .cons a es, Γ, x, h => by
    simp only [chkA, Bool.and_eq_true] at h
    obtain ⟨h1, h2, h3⟩ := h
    refine ⟨ev a, ?_, sndE a false Γ x h2⟩
    rw [evs_cons, nil_of (es := es) (Γ := Γ) (xs := []) (by simpa only [chkA] using h3) rfl]
theorem sndA2 : ∀ (es : A) (Γ : Ctx) (x y : Expr), chkA es Γ [x, y] = true → ∃ m1 m2, evs es = aCons m1 (aCons m2 aNil) ∧ Snd M G cs k false Γ x m1 ∧ Snd M G cs k false Γ y m2
  | .nil, Γ, x, y, h => by simp only [chkA] at h; cases h
  | .cons a es, Γ, x, y, h => by
    simp only [chkA, Bool.and_eq_true] at h
    obtain ⟨h1, h2, h3⟩ := h
    obtain ⟨m, e, q⟩ := sndA1 es Γ y (by simpa only [chkA] using h3)
    exact ⟨ev a, m, by rw [evs_cons, e], sndE a false Γ x h2, q⟩
theorem sndD : ∀ (es : A) (Γ : Ctx) (keys : List (Option Expr)) (vals : List Expr) (ks : List Key) (pos : Pos), keysB keys ks = true → keys.length = vals.length → chkA es Γ vals = true → ∀ (X : Cx) (C : Cfg), EOk M G cs k Γ X C → PDs X C pos keys vals ks (evs es)
  | .nil, Γ, keys, vals, ks, pos, hk, hl, h, X, C, E => by
    simp only [chkA] at h
    split at h
    · cases keys with
      | cons _ _ => cases hl
      | nil =>
        cases ks with
        | cons _ _ => cases hk
        | nil => exact pd_nil
    · cases h
  | .cons a es, Γ, keys, vals, ks, pos, hk, hl, h, X, C, E => by
    simp only [chkA] at h
    split at h
    · simp only [Bool.and_eq_true] at h
      obtain ⟨h1, h2, h3⟩ := h
      cases keys with
      | nil => cases hl
      | cons k0 keys =>
        cases k0 with
        | none => cases hk
        | some ke =>
          cases ks with
          | nil => cases hk
          | cons q ks =>
            unfold keysB at hk
            rw [Bool.and_eq_true] at hk
            exact pd_cons (key_ok hk.1) ((sndE a false Γ _ h2).val E) (sndD es Γ keys _ ks pos hk.2 (by simpa using hl) h3 X C E)
    · cases h
theorem sndL : ∀ (l : L) (Γ : Ctx) (a : Expr), chkL l Γ a = true → ∀ (X : Cx) (C : Cfg), EOk M G cs k Γ X C → PE X a (tL C (evL l))
  | .disp es, Γ, a, h, X, C, E => by
    simp only [chkL] at h
    split at h
    · exact y_ldisp (sndA es Γ _ h X C E)
    · cases h
  | .comp t it cond elt, Γ, a, h, X, C, E => by
    simp only [chkL] at h
    split at h
    · rename_i e tg iter ifs z scope pos
      simp only [Bool.and_eq_true] at h
      obtain ⟨h0, h1, hn, h2, h3, h4, h5, h6, h7, h8, h9⟩ := h
      have h0 := of_decide_eq_true h0
      subst h0
      rw [← E.N, ← E.names] at h2
      have ok : BlkOk X.N X.env.scope scope (ownT t tg) := blk_by h2
      have nc : ∀ i ∈ (ownT t tg).map (·.2), i ∉ C.oc.map (·.1) := fun i m => E.noc (List.all_eq_true.mp h5 i m)
      have sub : ∀ {xs ys : List Nat}, subN xs ys = true → ∀ i ∈ xs, i ∈ ys := fun {xs ys} hs i m => memN_ok (List.all_eq_true.mp hs i m)
      refine y_lcomp E.calm E.nd (sndI it Γ tg iter h6 X C E) ok (fun s H A cl fp => okTg t tg (E.inner ok.kind s H A cl fp) h7) (fun s H A cl fp => sndC cond _ ifs h8 _ _ (E.inner ok.kind s H A cl fp)) (fun s H A cl fp => (sndE elt false _ e h9).val (E.inner ok.kind s H A cl fp)) (fold_ok h1) (sub h3) ?_ nc
      rw [noCn_eq hn]
      exact sub h4
    · cases h
  | .lof x, Γ, a, h, X, C, E => by
    simp only [chkL] at h
    split at h
    · simp only [Bool.and_eq_true] at h
      obtain ⟨h1, h2, h3⟩ := h
      obtain ⟨rfl, hg, hm⟩ := E.isB h1
      exact y_lof E.hK hg hm ((sndE x false Γ _ h3).val E) (star_cons h2)
    · cases h
  | .srt x, Γ, a, h, X, C, E => by
    simp only [chkL] at h
    split at h
    · simp only [Bool.and_eq_true] at h
      obtain ⟨h1, h2, h3⟩ := h
      obtain ⟨rfl, hg, hm⟩ := E.isB h1
      exact y_srt E.hK E.hu hg hm ((sndE x false Γ _ h3).val E) (star_cons h2)
    · cases h
  | .rep x y, Γ, a, h, X, C, E => by
    simp only [chkL] at h
    split at h
    · rw [Bool.and_eq_true] at h
      exact y_lrep (sndL x Γ _ h.1 X C E) ((sndE y false Γ _ h.2).val E)
    · cases h
  | .cat x y, Γ, a, h, X, C, E => by
    simp only [chkL] at h
    split at h
    · rw [Bool.and_eq_true] at h
      exact y_lcat ((sndE x false Γ _ h.1).val E) ((sndE y false Γ _ h.2).val E)
    · cases h
  | .sll x lo hi, Γ, a, h, X, C, E => by
    simp only [chkL] at h
    split at h
    · simp only [Bool.and_eq_true] at h
      obtain ⟨h1, h2, h3⟩ := h
      exact y_sll E.hK ((sndE x false Γ _ h1).val E) (sndP lo Γ _ h2 X C E) (sndP hi Γ _ h3 X C E)
    · cases h
  | .rev x, Γ, a, h, X, C, E => by
    simp only [chkL] at h
    split at h
    · rw [Bool.and_eq_true] at h
      obtain ⟨n, p1, p2, rfl⟩ := rev_shape h.1
      exact y_lrev ((sndE x false Γ _ h.2).val E)
    · cases h
theorem sndI : ∀ (it : I) (Γ : Ctx) (tg a : Expr), chkI it Γ tg a = true → ∀ (X : Cx) (C : Cfg), EOk M G cs k Γ X C → PI X tg a (tI C (evI it))
  | .it x, Γ, tg, a, h, X, C, E => by
    simp only [chkI] at h
    exact y_it E.hK ((sndE x false Γ _ h).val E)
  | .rng1 x, Γ, tg, a, h, X, C, E => by
    simp only [chkI] at h
    split at h
    · simp only [Bool.and_eq_true] at h
      obtain ⟨h1, h2, h3⟩ := h
      obtain ⟨rfl, hg, hm⟩ := E.isB h1
      exact y_rng1 hg hm ((sndE x false Γ _ h3).val E) (star_cons h2)
    · cases h
  | .rng2 x y, Γ, tg, a, h, X, C, E => by
    simp only [chkI] at h
    split at h
    · simp only [Bool.and_eq_true] at h
      obtain ⟨h1, h2, h3, h4, h5⟩ := h
      obtain ⟨rfl, hg, hm⟩ := E.isB h1
      exact y_rng2 hg hm ((sndE x false Γ _ h4).val E) ((sndE y false Γ _ h5).val E) (by rw [star_cons h2, star_cons h3]; rfl) (star_cons h3)
    · cases h
  | .rng3 x y z, Γ, tg, a, h, X, C, E => by
    simp only [chkI] at h
    split at h
    · simp only [Bool.and_eq_true] at h
      obtain ⟨h1, h2, h3, h4, h5, h6, h7⟩ := h
      obtain ⟨rfl, hg, hm⟩ := E.isB h1
      exact y_rng3 hg hm ((sndE x false Γ _ h5).val E) ((sndE y false Γ _ h6).val E) ((sndE z false Γ _ h7).val E) (star_cons h2) (star_cons h3) (star_cons h4) (star_any (by unfold allNS; rw [h3]; unfold allNS; rw [h4]; rfl))
    · cases h
  | .enu x, Γ, tg, a, h, X, C, E => by
    simp only [chkI] at h
    split at h
    · simp only [Bool.and_eq_true] at h
      obtain ⟨h0, h1, h2, h3⟩ := h
      obtain ⟨rfl, hg, hm⟩ := E.isB h1
      cases tg with
      | Tuple es n p => exact y_enu E.hK hg hm ((sndE x false Γ _ h3).val E) (star_cons h2)
      | _ => cases h0
    · cases h
  | .zip x y, Γ, tg, a, h, X, C, E => by
    simp only [chkI] at h
    split at h
    · simp only [Bool.and_eq_true] at h
      obtain ⟨h0, h1, h2, h3, h4, h5⟩ := h
      obtain ⟨rfl, hg, hm⟩ := E.isB h1
      cases tg with
      | Tuple es n p => exact y_zip E.hK hg hm ((sndE x false Γ _ h4).val E) ((sndE y false Γ _ h5).val E) (star_cons h2) (star_cons h3) (star_any (by unfold allNS; rw [h3]; rfl))
      | _ => cases h0
    · cases h
end
end
end Y

/-! Y36: the checker on statements. -/
namespace Y
open PySem PySem.Spec PyProof.Rows L2
/-- no swap of stores -/
def isSt : Expr → Bool
  | .Starred .. => true
  | _ => false
def nameOf (nm : List (Str × NameKind)) (line : Nat) : Expr → Option Str
  | .Name id pos => if nm.lookup id == some .local && pos.line == line then some id else none
  | _ => none
def swN (nm : List (Str × NameKind)) (tg v : Expr) : Bool := match tg with
  | .Tuple ts _ _ => (match v with
    | .Tuple vs _ _ => !(ts.length == 2 || ts.length == 3) || (vs.length != ts.length || (vs.any isSt || ((ts.filterMap (nameOf nm ((ts.head?.map (·.pos.line)).getD 0))).length != ts.length || vs.all (foldedForSure 8))))
    | _ => true)
  | .List _ _ => false
  | _ => true
def swL (nm : List (Str × NameKind)) (tg v : Expr) : Bool := notComp v || (match tg with
  | .Name x _ => (match nm.lookup x with
    | some .local => false
    | _ => true)
  | .Subscript _ _ _ => true
  | .Tuple _ _ _ => true
  | _ => false)
def isFrz : S → Option Nat
  | .frz i => some i
  | _ => none
/-- x = [comp], x a local -/
def lcB (Γ : Ctx) (tg v : Expr) : Bool := match tg with
  | .Name y py => (match v with
    | .ListComp _ _ scope pos => (match Γ.names.lookup y with
      | some .local => py.line == pos.line && !(scope.names.any fun (n, k) => n == y && (k == .local || k == .cell))
      | _ => false)
    | _ => false)
  | _ => false
def isLc : E → Bool
  | .imm (.comp _ _ _ _) => true
  | .mut (.comp _ _ _ _) => true
  | _ => false
noncomputable def lcT (Γ : Ctx) (t : Tg) (tg : Expr) : Bool := match t with
  | .nm i => (match tg with
    | .Name y _ => atN Γ.N i y && !memN i Γ.caps
    | _ => false)
  | _ => false
/-- a, b = x, y; a, b, c = x, y, z: locals -/
noncomputable def parT (Γ : Ctx) : Tg → List Expr → Bool
  | .nil, [] => true
  | .cons (.nm i) b, .Name x _ :: es => (match Γ.names.lookup x with
    | some .local => true
    | _ => false) && (atN Γ.N i x && (!memN i Γ.caps && parT Γ b es))
  | _, _ => false
noncomputable def tgIx : Tg → List Nat
  | .cons (.nm i) b => i :: tgIx b
  | _ => []
def parB (nm : List (Str × NameKind)) (ts vs : List Expr) : Bool := vs.length == ts.length && (!vs.any isSt && ((ts.filterMap (nameOf nm ((ts.head?.map (·.pos.line)).getD 0))).length == ts.length && (((ts.filterMap (nameOf nm ((ts.head?.map (·.pos.line)).getD 0))).eraseDups.length == ts.length) && (!vs.all (foldedForSure 8) && !vs.all (constantsAlone 8)))))
noncomputable def parE (Γ : Ctx) (t : Tg) (e : E) (tg v : Expr) : Bool := match t with
  | .tup ts => (match tg with
    | .Tuple es _ _ => (match v with
      | .Tuple vs _ _ => (match e with
        | .tup xs => parT Γ ts es && (decide (tgIx ts).Nodup && ((es.length == 2 || es.length == 3) && (parB Γ.names es vs && chkA xs Γ vs)))
        | _ => false)
      | _ => false)
    | _ => false)
  | _ => false
/-- what a clause's tuple tells -/
noncomputable def xiB (n : Str) (fld : List Str) : List Expr → List XI → Bool
  | [], [] => true
  | .Constant (.str x) _ _ :: es, .c (.str y) :: xs => decide (x = y) && xiB n fld es xs
  | .Attribute (.Name m _) f _ :: es, .f k :: xs => decide (m = n) && (decide (nth fld k = some f) && xiB n fld es xs)
  | _, _ => false
noncomputable def hdB (Γ : Ctx) (n : Str) : List ExceptHandler → List (Nat × Nat × List XI) → Bool
  | [], [] => true
  | .ExceptHandler (some (.Name x _)) (some m) [.Return (some (.Tuple es _ _)) _] _ :: hs, (c, _, xs) :: l => decide (m = n) && (Γ.gl x && ((match Γ.cls.lookup x with
    | some (c', fs) => Nat.beq c' c && xiB n fs es xs
    | none => false) && (decide (es.length ≤ 1000) && hdB Γ n hs l)))
  | _, _ => false
def hdName : List ExceptHandler → Option Str
  | .ExceptHandler _ (some n) _ _ :: _ => some n
  | _ => none
noncomputable def tryB (Γ : Ctx) (hs : List ExceptHandler) (l : List (Nat × Nat × List XI)) : Bool := match hdName hs with
  | some n => Γ.N.any (fun y => decide (y = n)) && ((match Γ.names.lookup n with
    | some .local => true
    | _ => false) && (okN n && hdB Γ n hs l))
  | none => false
noncomputable def asgB (Γ : Ctx) (t : Tg) (e : E) (tg v : Expr) : Bool := (notSt tg && (chkTg t Γ tg && (chkE e false Γ v && (swL Γ.names tg v && swN Γ.names tg v)))) || ((isLc e && (lcB Γ tg v && (lcT Γ t tg && chkE e false Γ v))) || parE Γ t e tg v)
mutual
noncomputable def chk1 : S → Ctx → Stmt → Bool
  | .skip, Γ, st => match st with
    | .Pass _ => true
    | _ => false
  | .seq _ _, Γ, st => false
  | .asg t e, Γ, st => match st with
    | .Assign [tg] v _ => asgB Γ t e tg v
    | _ => false
  | .aug t o e, Γ, st => match st with
    | .AugAssign (.Name x _) op v _ => (match t with
      | .nm i => atN Γ.N i x && (!memN i Γ.caps && ((match Γ.names.lookup x with
        | some .local => true
        | some .cell => Γ.fnc x
        | _ => false) && (bopB o op && chkE e false Γ v)))
      | _ => false)
    | _ => false
  | .set o i e, Γ, st => match st with
    | .Assign [.Subscript x y _] v _ => notSl y && (chkE o false Γ x && (chkE i false Γ y && chkE e false Γ v))
    | _ => false
  | .augs o i op e, Γ, st => match st with
    | .AugAssign (.Subscript x y _) op' v _ => notSl y && (bopB op op' && (chkE o false Γ x && (chkE i false Γ y && chkE e false Γ v)))
    | _ => false
  | .ex e, Γ, st => match st with
    | .Expr v _ => notComp v && chkE e false Γ v
    | _ => false
  | .ret e, Γ, st => match st with
    | .Return (some v) _ => chkE e false Γ v
    | _ => false
  | .retn, Γ, st => match st with
    | .Return none _ => true
    | _ => false
  | .ite c a b, Γ, st => match st with
    | .If c' x y _ => chkE c true Γ c' && (chkS a Γ x && chkS b Γ y)
    | _ => false
  | .for_ t it b, Γ, st => match st with
    | .For tg iter body [] _ => notSet iter && (chkI it Γ tg iter && (chkTg t Γ tg && chkS b Γ body))
    | _ => false
  | .fork t e b, Γ, st => false
  | .while_ c b, Γ, st => match st with
    | .While c' body [] _ => chkE c true Γ c' && chkS b Γ body
    | _ => false
  | .brk, Γ, st => match st with
    | .Break _ => true
    | _ => false
  | .cnt, Γ, st => match st with
    | .Continue _ => true
    | _ => false
  | .raise c es, Γ, st => match st with
    | .Raise (some (.Call (.Name x _) (a :: args) [] _)) none _ => Γ.gl x && ((match Γ.cls.lookup x with
      | some (c', fs) => Nat.beq c' c && Nat.beq (a :: args).length fs.length
      | none => false) && chkA es Γ (a :: args))
    | _ => false
  | .tryx b l, Γ, st => match st with
    | .Try body (h :: hs) [] [] _ => tryB Γ (h :: hs) l && chkS b Γ body
    | _ => false
  | .frz _, Γ, st => false
noncomputable def chkS : S → Ctx → List Stmt → Bool
  | .skip, Γ, sts => match sts with
    | [] => true
    | _ => false
  | .seq a b, Γ, sts => match isFrz a with
    | some i => !memN i Γ.caps && chkS b Γ sts
    | none => match sts with
      | st :: rest => chk1 a Γ st && chkS b Γ rest
      | [] => false
  | _, _, _ => false
end
end Y

/-! Y37: the checker's word on statements holds. -/
namespace Y
open PySem PySem.Spec PyProof.Rows L2
section
variable {env : Env} {tg v : Expr}
theorem sw_tup {ts vs : List Expr} {n1 n2 : Nat} {p1 p2 : Pos} : swappedStores [.Tuple ts n1 p1] (.Tuple vs n2 p2) env = (if (!(ts.length == 2 || ts.length == 3) || vs.length != ts.length || env.blockKind != .function) = true then pure none else if vs.any isSt = true then pure none else
    if ((ts.filterMap (nameOf env.scope.names ((ts.head?.map (·.pos.line)).getD 0))).length != ts.length || (ts.filterMap (nameOf env.scope.names ((ts.head?.map (·.pos.line)).getD 0))).eraseDups.length != (ts.filterMap (nameOf env.scope.names ((ts.head?.map (·.pos.line)).getD 0))).length) = true then pure none else
    if vs.all (foldedForSure 8) = true then pure none else if vs.all (constantsAlone 8) = true then (do
      let _ ← (unsupported "assign.tuple-of-constant-expressions:order-of-the-stores" : Sem PUnit)
      pure (some (ts.filterMap (nameOf env.scope.names ((ts.head?.map (·.pos.line)).getD 0))))) else pure (some (ts.filterMap (nameOf env.scope.names ((ts.head?.map (·.pos.line)).getD 0))))) := rfl
theorem blk_fn (hk : env.scope.kind = .function) : env.blockKind = .function := by unfold Env.blockKind; rw [hk]; rfl
theorem swN_ok (hk : env.scope.kind = .function) (h : swN env.scope.names tg v = true) : swappedStores [tg] v env = pure none := by
  unfold swN at h
  split at h
  · rename_i ts n1 p1
    split at h
    · rename_i vs n2 p2
      rw [sw_tup, blk_fn hk]
      rw [Bool.or_eq_true] at h
      rcases h with h | h
      · rw [h]; rfl
      · rw [Bool.or_eq_true] at h
        rcases h with h | h
        · rw [h]; simp
        · split
          · rfl
          · rw [Bool.or_eq_true] at h
            rcases h with h | h
            · rw [if_pos h]
            · split
              · rfl
              · rw [Bool.or_eq_true] at h
                rcases h with h | h
                · rw [h]; rfl
                · split
                  · rfl
                  · first | rfl | rw [if_pos h]
    · rename_i hn
      unfold swappedStores
      cases v <;> first | rfl | exact absurd rfl (hn _ _ _)
  · cases h
  · rename_i hn1 hn2
    unfold swappedStores
    cases tg <;> first | rfl | exact absurd rfl (hn1 _ _ _) | exact absurd rfl (hn2 _ _)
theorem swL_ok {l : Nat} (h : swL env.scope.names tg v = true) : swapsWithSole [tg] v l env = pure false := by
  show swapsWith v (some tg) l env = pure false
  unfold swL at h
  rw [Bool.or_eq_true] at h
  rcases h with h | h
  · exact swaps_ok h
  · cases tg with
    | Name x p =>
      dsimp only at h
      have hk : (env.kindOf x == some NameKind.local) = false := by
        unfold Env.kindOf
        split at h
        · cases h
        · rename_i q
          generalize env.scope.names.lookup x = o at q ⊢
          cases o with
          | none => rfl
          | some y => cases y <;> first | rfl | exact absurd rfl q
      unfold swapsWith
      cases v <;> first | rfl | simp [hk]
    | Subscript a b p => unfold swapsWith; cases v <;> rfl
    | Tuple a b p => unfold swapsWith; cases v <;> rfl
    | _ => cases h
theorem par_sw (hk : env.scope.kind = .function) {ts vs : List Expr} {n1 n2 : Nat} {p1 p2 : Pos} {xs : List Str} (h : parB env.scope.names ts vs = true) (h2 : (ts.length == 2 || ts.length == 3) = true) (hx : ts.filterMap (nameOf env.scope.names ((ts.head?.map (·.pos.line)).getD 0)) = xs) :
    swappedStores [.Tuple ts n1 p1] (.Tuple vs n2 p2) env = pure (some xs) := by
  unfold parB at h
  simp only [Bool.and_eq_true, Bool.not_eq_true'] at h
  obtain ⟨h3, h4, h5, h6, h7, h8⟩ := h
  rw [sw_tup, blk_fn hk]
  rw [hx] at h5 h6 ⊢
  have l1 : vs.length = ts.length := by simpa using h3
  have l2 : xs.length = ts.length := by simpa using h5
  have l3 : xs.eraseDups.length = ts.length := by simpa using h6
  rw [h2, h4, h7, h8, l1, l2, l3]
  simp
end
section
variable {M : Wd} {G : Gd} {cs : CSem} {k : Nat}
theorem EOk.tr {Γ : Ctx} {X : Cx} {C : Cfg} (E : EOk M G cs k Γ X C) (hb : Γ.blk = false) {W : WX} {pn : List (Addr × Obj)} {xe : Value → Shared → Prop} (tk : Takes (X.tr pn xe) W) (ps : PassesOwn (model X.prog X.w) X.A X.env xe) : EOk M G cs k Γ (X.tr pn xe) { C with W := W } :=
  { m := E.m, cc := E.cc, wd := E.wd, g := E.g, cs := E.cs, N := E.N, nd := E.nd, names := E.names, kind := E.kind, calm := E.calm, guards := E.guards, room := E.room, k2 := E.k2, takes := tk, caps := E.caps, capn := E.capn, fnc := E.fnc,
    fr := fun h => let F := E.fr h; { passes := ps, own := ⟨fun pn' xe' => F.own.at_ pn' xe', F.own.inj⟩, cell := F.cell, stk := F.stk, tab := F.tab } }
theorem evs_len : ∀ {es : A} {Γ : Ctx} {xs : List Expr}, chkA es Γ xs = true → ∀ cs r h ds h1, evs es cs r h = .ok ds h1 → ds.length = xs.length
  | .nil, Γ, xs, h, cs, r, hh, ds, h1, e => by
    simp only [chkA] at h
    split at h
    · cases e; rfl
    · cases h
  | .cons a es, Γ, xs, h, cs, r, hh, ds, h1, e => by
    simp only [chkA] at h
    split at h
    · simp only [Bool.and_eq_true] at h
      rw [evs_cons] at e
      unfold aCons at e
      cases q : ev a cs r hh with
      | bad => rw [q] at e; cases e
      | exn _ _ _ => rw [q] at e; cases e
      | ok x h2 =>
        rw [q] at e
        simp only [Res.bind] at e
        cases q2 : evs es cs r h2 with
        | bad => rw [q2] at e; cases e
        | exn _ _ _ => rw [q2] at e; cases e
        | ok ys h3 =>
          rw [q2] at e
          cases e
          rw [List.length_cons, List.length_cons, evs_len h.2.2 _ _ _ _ _ q2]
    · cases h
/-- a comprehension's parts -/
theorem comp_parts {t : Tg} {it : I} {cond : O} {elt : E} {Γ : Ctx} {a : Expr} (h : chkL (.comp t it cond elt) Γ a = true) {X : Cx} {C : Cfg} (E : EOk M G cs k Γ X C) : ∃ (e tg iter : Expr) (ifs : List Expr) (scope : Scope) (pos : Pos) (own : List (Str × Nat)), a = .ListComp e [⟨tg, iter, ifs, 0⟩] scope pos ∧ PI X tg iter (tI C (evI it)) ∧ BlkOk X.N X.env.scope scope own ∧
    (∀ (s : Shared) (H : Hp) (A : Addr) (cl : List (Str × Addr)) (fp : List Addr), PG (X.blk s H scope (compEnvC scope cl A X.env) fp) tg (gY C.calm t)) ∧
    (∀ (s : Shared) (H : Hp) (A : Addr) (cl : List (Str × Addr)) (fp : List Addr), PTs (X.blk s H scope (compEnvC scope cl A X.env) fp) ifs (tT C.calm (tCond (evO cond)))) ∧
    (∀ (s : Shared) (H : Hp) (A : Addr) (cl : List (Str × Addr)) (fp : List Addr), PE (X.blk s H scope (compEnvC scope cl A X.env) fp) e (tE C.calm (ev elt))) ∧ (∀ x, foldedSetIterable iter X.env x = pure x) ∧
    (∀ i ∈ own.map (·.2), i ∈ tgN [] t) ∧ (∀ i ∈ tgN C.oc t, i ∈ own.map (·.2)) ∧ ∀ i ∈ own.map (·.2), i ∉ C.oc.map (·.1) := by
  simp only [chkL] at h
  split at h
  · rename_i e tg iter ifs z scope pos
    simp only [Bool.and_eq_true] at h
    obtain ⟨h0, h1, hn, h2, h3, h4, h5, h6, h7, h8, h9⟩ := h
    have h0 := of_decide_eq_true h0
    subst h0
    rw [← E.N, ← E.names] at h2
    have ok : BlkOk X.N X.env.scope scope (ownT t tg) := blk_by h2
    have sub : ∀ {xs ys : List Nat}, subN xs ys = true → ∀ i ∈ xs, i ∈ ys := fun {xs ys} hs i m => memN_ok (List.all_eq_true.mp hs i m)
    exact ⟨e, tg, iter, ifs, scope, pos, ownT t tg, rfl, sndI it Γ tg iter h6 X C E, ok, fun s H A cl fp => okTg t tg (E.inner ok.kind s H A cl fp) h7, fun s H A cl fp => sndC cond _ ifs h8 _ _ (E.inner ok.kind s H A cl fp), fun s H A cl fp => (sndE elt false _ e h9).val (E.inner ok.kind s H A cl fp), fold_ok h1, sub h3, by rw [noCn_eq hn]; exact sub h4, fun i m => E.noc (List.all_eq_true.mp h5 i m)⟩
  · cases h
theorem lc_ok {Γ : Ctx} {X : Cx} {C : Cfg} (E : EOk M G cs k Γ X C) {t : Tg} {e : Y.E} {tg v : Expr} {pos : Pos} (h1 : isLc e = true) (h2 : lcB Γ tg v = true) (h3 : lcT Γ t tg = true) (h4 : chkE e false Γ v = true) : PS X (.Assign [tg] v pos) (tS C (ex (.asg t e))) := by
  unfold lcT at h3
  cases t with
  | nm i =>
    cases tg with
    | Name y py =>
      dsimp only at h3
      rw [Bool.and_eq_true] at h3
      unfold lcB at h2
      dsimp only at h2
      split at h2
      · rename_i e0 gs scope p2
        split at h2
        · rename_i hl
          rw [Bool.and_eq_true, Bool.not_eq_true'] at h2
          have hl' : X.env.scope.names.lookup y = some .local := by rw [E.names]; exact hl
          unfold isLc at h1
          split at h1
          · rename_i t it cond elt
            obtain ⟨e', tg', iter, ifs, scope', pos', own, ea, q1, q2, q3, q4, q5, q6, q7, q8, q9⟩ := comp_parts (by simpa only [chkE] using h4) E
            cases ea
            exact y_setLc true E.calm E.nd (E.at_ h3.1) hl' (E.noc h3.2) (sw_true E.kind hl' h2.1 h2.2) q1 q2 q3 q4 q5 q6 q7 q8 q9
          · rename_i t it cond elt
            obtain ⟨e', tg', iter, ifs, scope', pos', own, ea, q1, q2, q3, q4, q5, q6, q7, q8, q9⟩ := comp_parts (by simpa only [chkE] using h4) E
            cases ea
            exact y_setLc false E.calm E.nd (E.at_ h3.1) hl' (E.noc h3.2) (sw_true E.kind hl' h2.1 h2.2) q1 q2 q3 q4 q5 q6 q7 q8 q9
          · cases h1
        · cases h2
      · cases h2
    | _ => cases h3
  | _ => cases h3
end
end Y

/-! Y38: the checker's word on statements: the induction. -/
namespace Y
open PySem PySem.Spec PyProof.Rows L2
section
variable {M : Wd} {G : Gd} {cs : CSem} {k : Nat}
theorem parT_ok {Γ : Ctx} : ∀ {t : Tg} {es : List Expr}, parT Γ t es = true → (tgIx t).length = es.length ∧ ∀ (n : Nat) (e : Expr), es[n]? = some e → ∃ i x p, (tgIx t)[n]? = some i ∧ e = .Name x p ∧ Γ.names.lookup x = some .local ∧ atN Γ.N i x = true ∧ (!memN i Γ.caps) = true
  | .nil, [], _ => ⟨rfl, fun n e h => by simp at h⟩
  | .nil, _ :: _, h => by cases h
  | .cons a b, [], h => by cases a <;> cases h
  | .cons a b, e :: es, h => by
    unfold parT at h
    split at h
    · rename_i q1 q2; cases q1
    · rename_i i b' x p es' q1 q2
      cases q1
      cases q2
      simp only [Bool.and_eq_true] at h
      obtain ⟨h1, h2, h3, h4⟩ := h
      obtain ⟨l, w⟩ := parT_ok h4
      refine ⟨by show (tgIx b).length + 1 = _; rw [l]; rfl, fun n e he => ?_⟩
      cases n with
      | zero =>
        simp at he
        subst he
        refine ⟨i, x, p, rfl, rfl, ?_, h2, h3⟩
        split at h1
        · assumption
        · cases h1
      | succ n =>
        obtain ⟨i', x', p', z1, z2⟩ := w n e (by simpa using he)
        exact ⟨i', x', p', by simpa [tgIx] using z1, z2⟩
    · cases h
  | .nm _, _ :: _, h => by cases h
  | .cn _, _ :: _, h => by cases h
  | .tup _, _ :: _, h => by cases h
  | .nm _, [], h => by cases h
  | .cn _, [], h => by cases h
  | .tup _, [], h => by cases h
theorem parT_tg {Γ : Ctx} : ∀ {t : Tg} {es : List Expr}, parT Γ t es = true → (es.length = 2 → ∃ i j, t = .cons (.nm i) (.cons (.nm j) .nil)) ∧ (es.length = 3 → ∃ i j l, t = .cons (.nm i) (.cons (.nm j) (.cons (.nm l) .nil))) := by
  have one : ∀ {t : Tg} {e : Expr} {es : List Expr}, parT Γ t (e :: es) = true → ∃ i b, t = .cons (.nm i) b ∧ parT Γ b es = true := fun {t e es} h => by
    unfold parT at h
    split at h
    · rename_i q; cases q
    · rename_i i b x p es' q
      cases q
      simp only [Bool.and_eq_true] at h
      exact ⟨i, b, rfl, h.2.2.2⟩
    · cases h
  have none : ∀ {t : Tg}, parT Γ t [] = true → t = .nil := fun {t} h => by
    unfold parT at h
    split at h
    · rfl
    · rename_i q; cases q
    · cases h
  intro t es h
  refine ⟨fun l => ?_, fun l => ?_⟩
  · match es, l with
    | [a, b], _ =>
      obtain ⟨i, b1, rfl, h1⟩ := one h
      obtain ⟨j, b2, rfl, h2⟩ := one h1
      rw [none h2]
      exact ⟨i, j, rfl⟩
  · match es, l with
    | [a, b, c], _ =>
      obtain ⟨i, b1, rfl, h1⟩ := one h
      obtain ⟨j, b2, rfl, h2⟩ := one h1
      obtain ⟨l, b3, rfl, h3⟩ := one h2
      rw [none h3]
      exact ⟨i, j, l, rfl⟩
theorem names_of {nm : List (Str × NameKind)} {line : Nat} {ts : List Expr} (h : (ts.filterMap (nameOf nm line)).length = ts.length) : ∀ (xs : List Str) (ps : List Pos), ts = (xs.zip ps).map (fun q => .Name q.1 q.2) → xs.length = ps.length → ts.filterMap (nameOf nm line) = xs := by
  intro xs
  induction xs generalizing ts with
  | nil => intro ps e l; subst e; rfl
  | cons x xs ih =>
    intro ps e l
    cases ps with
    | nil => cases l
    | cons p ps =>
      subst e
      simp only [List.zip_cons_cons, List.map_cons, List.filterMap_cons] at h ⊢
      have le : ∀ (l : List Expr), (l.filterMap (nameOf nm line)).length ≤ l.length := fun l => List.length_filterMap_le _ _
      have le2 := le (List.map (fun q : Str × Pos => Expr.Name q.1 q.2) (xs.zip ps))
      cases q : nameOf nm line (.Name x p) with
      | none =>
        rw [q] at h
        simp only [List.length_cons] at h
        omega
      | some y =>
        rw [q] at h
        simp only [List.length_cons] at h
        have e : y = x := by
          unfold nameOf at q
          dsimp only at q
          split at q
          · cases q; rfl
          · cases q
        rw [e, ih (by omega) ps rfl (by simpa using l)]
theorem par_ok {Γ : Ctx} {X : Cx} {C : Cfg} (K : EOk M G cs k Γ X C) {t : Tg} {e : E} {tg v : Expr} {pos : Pos} (h : parE Γ t e tg v = true) : PS X (.Assign [tg] v pos) (tS C (ex (.asg t e))) := by
  unfold parE at h
  split at h
  case h_2 => cases h
  rename_i ts
  split at h
  case h_2 => cases h
  rename_i es n1 p1
  split at h
  case h_2 => cases h
  rename_i vs n2 p2
  split at h
  case h_2 => cases h
  rename_i xs
  simp only [Bool.and_eq_true] at h
  obtain ⟨h1, h2, h3, h4, h5⟩ := h
  have h2 := of_decide_eq_true h2
  obtain ⟨l1, w⟩ := parT_ok h1
  obtain ⟨t2, t3⟩ := parT_tg h1
  rw [← K.names] at h4
  have hv : vs.length = es.length := by unfold parB at h4; simp only [Bool.and_eq_true] at h4; simpa using h4.1
  have hn : (es.filterMap (nameOf X.env.scope.names ((es.head?.map (·.pos.line)).getD 0))).length = es.length := by unfold parB at h4; simp only [Bool.and_eq_true] at h4; simpa using h4.2.2.1
  have ha := sndA xs Γ vs h5 X C K
  have loc : ∀ {x : Str}, Γ.names.lookup x = some .local → X.env.scope.names.lookup x = some .local := fun {x} z => by rw [K.names]; exact z
  match es, vs, hv, h3, h4, hn, ha, w, l1, t2, t3 with
  | [], _, _, h3, _, _, _, _, _, _, _ => cases h3
  | [_], _, _, h3, _, _, _, _, _, _, _ => cases h3
  | _ :: _ :: _ :: _ :: _, _, _, h3, _, _, _, _, _, _, _ => simp at h3
  | [a, b], [u1, u2], _, h3, h4, hn, ha, w, l1, t2, _ =>
    obtain ⟨i, j, rfl⟩ := t2 rfl
    obtain ⟨i', x, px, e1, rfl, k1, a1, c1⟩ := w 0 _ rfl
    obtain ⟨j', y, py, e2, rfl, k2, a2, c2⟩ := w 1 _ rfl
    cases e1
    cases e2
    have hij : i ≠ j := fun z => by subst z; simp [tgIx] at h2
    exact y_par K.calm K.nd (K.at_ a1) (K.at_ a2) hij (K.noc c1) (K.noc c2) (loc k1) (loc k2) ha (par_sw K.kind h4 h3 (names_of hn [x, y] [px, py] rfl rfl)) rfl
  | [a, b, c], [u1, u2, u3], _, h3, h4, hn, ha, w, l1, _, t3 =>
    obtain ⟨i, j, l, rfl⟩ := t3 rfl
    obtain ⟨i', x, px, e1, rfl, k1, a1, c1⟩ := w 0 _ rfl
    obtain ⟨j', y, py, e2, rfl, k2, a2, c2⟩ := w 1 _ rfl
    obtain ⟨l', z, pz, e3, rfl, k3, a3, c3⟩ := w 2 _ rfl
    cases e1
    cases e2
    cases e3
    have hij : i ≠ j := fun z => by subst z; simp [tgIx] at h2
    have hil : i ≠ l := fun z => by subst z; simp [tgIx] at h2
    have hjl : j ≠ l := fun z => by subst z; simp [tgIx] at h2
    exact y_par3 K.calm K.nd (K.at_ a1) (K.at_ a2) (K.at_ a3) hij hil hjl (K.noc c1) (K.noc c2) (K.noc c3) (loc k1) (loc k2) (loc k3) ha (par_sw K.kind h4 h3 (names_of hn [x, y, z] [px, py, pz] rfl rfl)) rfl
theorem xi_ok {n : Str} {fld : List Str} : ∀ {es : List Expr} {xs : List XI}, xiB n fld es xs = true → XiE n fld es xs
  | [], [], _ => .nil
  | [], _ :: _, h => by cases h
  | e :: es, [], h => by
    unfold xiB at h
    split at h <;> simp_all
  | e :: es, x :: xs, h => by
    unfold xiB at h
    split at h
    · rename_i q; cases q
    · rename_i a n1 p1 es' y xs' q1 q2
      cases q1; cases q2
      rw [Bool.and_eq_true] at h
      have e := of_decide_eq_true h.1
      subst e
      exact .c (xi_ok h.2)
    · rename_i m p1 f p2 es' kk xs' q1 q2
      cases q1; cases q2
      simp only [Bool.and_eq_true] at h
      have e := of_decide_eq_true h.1
      subst e
      exact .f (by rw [← nth_eq]; exact of_decide_eq_true h.2.1) (xi_ok h.2.2)
    · cases h
theorem hd_by {Γ : Ctx} {X : Cx} {C : Cfg} (K : EOk M G cs k Γ X C) {n : Str} : ∀ {hs : List ExceptHandler} {l : List (Nat × Nat × List XI)}, hdB Γ n hs l = true → HdE X C n hs l
  | [], [], _ => .nil
  | [], _ :: _, h => by cases h
  | h0 :: hs, l, h => by
    unfold hdB at h
    split at h
    · rename_i q; cases q
    · rename_i x p1 m es n1 p2 p3 p4 hs' c j xs l' q
      cases q
      simp only [Bool.and_eq_true] at h
      obtain ⟨h1, h2, h3, h4, h5⟩ := h
      have e := of_decide_eq_true h1
      subst e
      obtain ⟨g1, g2⟩ := K.gl h2
      split at h3
      · rename_i c' fs ec
        rw [Bool.and_eq_true] at h3
        have ec' := Nat.beq_eq.mp h3.1
        subst ec'
        have Cl := K.m.cls x _ fs ec
        refine .cons (by rw [K.g]; exact Cl.cn) ⟨g1, g2, .inl (by rw [K.mg, K.g]; exact Cl.mg)⟩ (by rw [K.K, K.g]; exact Cl.xf) (fun f hf => ?_) (by rw [K.g, Cl.fld]; exact xi_ok h3.2) (of_decide_eq_true h4) (hd_by K h5)
        rw [K.g, Cl.fld] at hf
        rw [K.K, K.g]
        exact Cl.hno f hf
      · cases h3
    · cases h
theorem asg_ok {Γ : Ctx} {X : Cx} {C : Cfg} (K : EOk M G cs k Γ X C) {t : Tg} {e : E} {tg v : Expr} {pos : Pos} (h : asgB Γ t e tg v = true) : PS X (.Assign [tg] v pos) (tS C (ex (.asg t e))) := by
  unfold asgB at h
  rw [Bool.or_eq_true, Bool.or_eq_true] at h
  rcases h with h | h | h
  · simp only [Bool.and_eq_true] at h
    obtain ⟨h1, h2, h3, h4, h5⟩ := h
    rw [← K.names] at h4 h5
    exact y_asg ((sndE e false Γ v h3).val K) (okTg t tg K h2) (swL_ok h4) (swN_ok K.kind h5) (each_one h1)
  · simp only [Bool.and_eq_true] at h
    obtain ⟨h1, h2, h3, h4⟩ := h
    exact lc_ok K h1 h2 h3 h4
  · exact par_ok K h
theorem frz_of {s : S} {i : Nat} (h : isFrz s = some i) : s = .frz i := by
  cases s <;> first | (cases h; rfl) | cases h
theorem swapped_sub {a b v : Expr} {p : Pos} {env : Env} : swappedStores [.Subscript a b p] v env = pure none := by
  unfold swappedStores
  cases v <;> rfl
theorem swaps_sub {a b v : Expr} {p : Pos} {env : Env} {l : Nat} : swapsWithSole [.Subscript a b p] v l env = pure false := by
  show swapsWith v (some (.Subscript a b p)) l env = pure false
  unfold swapsWith
  cases v <;> rfl
mutual
theorem snd1 : ∀ (s : S) (Γ : Ctx) (st : Stmt), chk1 s Γ st = true → Γ.blk = false → ∀ (X : Cx) (C : Cfg), EOk M G cs k Γ X C → PS X st (tS C (ex s))
  | .skip, Γ, st, h, hb, X, C, K => by
    simp only [chk1] at h
    split at h
    · exact y_pass
    · cases h
  | .seq a b, Γ, st, h, hb, X, C, K => by simp only [chk1] at h; cases h
  | .asg t e, Γ, st, h, hb, X, C, K => by
    simp only [chk1] at h
    split at h
    · exact asg_ok K h
    · cases h
  | .aug t o e, Γ, st, h, hb, X, C, K => by
    simp only [chk1] at h
    split at h
    · split at h
      · simp only [Bool.and_eq_true] at h
        obtain ⟨h1, h2, h3, h4, h5⟩ := h
        rw [bopB_ok h4]
        split at h3
        · rename_i hl
          exact y_aug (K.noc h2) K.nd (K.at_ h1) (.inl (by rw [K.names]; exact hl)) (.inr (by rw [K.names]; exact hl)) ((sndE e false Γ _ h5).val K)
        · rename_i hl
          exact y_aug (K.noc h2) K.nd (K.at_ h1) (.inr (by rw [K.names]; exact hl)) (.inl (K.fnc _ h3)) ((sndE e false Γ _ h5).val K)
        · cases h3
      · cases h
    · cases h
  | .set o i e, Γ, st, h, hb, X, C, K => by
    simp only [chk1] at h
    split at h
    · simp only [Bool.and_eq_true] at h
      obtain ⟨h0, h1, h2, h3⟩ := h
      refine y_set K.hu ((sndE e false Γ _ h3).val K) ((sndE o false Γ _ h1).val K) ((sndE i false Γ _ h2).val K) swaps_sub swapped_sub rfl fun v => ?_
      rename_i x y p v' p'
      cases y <;> first | rfl | cases h0
    · cases h
  | .augs o i op e, Γ, st, h, hb, X, C, K => by
    simp only [chk1] at h
    split at h
    · simp only [Bool.and_eq_true] at h
      obtain ⟨h0, h1, h2, h3, h4⟩ := h
      rw [bopB_ok h1]
      refine y_augs K.hK K.hu ((sndE o false Γ _ h2).val K) ((sndE i false Γ _ h3).val K) ((sndE e false Γ _ h4).val K) fun ov iv new => ?_
      rename_i x y p op' v p'
      cases y <;> first | rfl | cases h0
    · cases h
  | .ex e, Γ, st, h, hb, X, C, K => by
    simp only [chk1] at h
    split at h
    · rw [Bool.and_eq_true] at h
      exact y_ex ((sndE e false Γ _ h.2).val K) (swaps_ok h.1)
    · cases h
  | .ret e, Γ, st, h, hb, X, C, K => by
    simp only [chk1] at h
    split at h
    · exact y_ret ((sndE e false Γ _ h).val K)
    · cases h
  | .retn, Γ, st, h, hb, X, C, K => by
    simp only [chk1] at h
    split at h
    · exact y_retn
    · cases h
  | .ite c a b, Γ, st, h, hb, X, C, K => by
    simp only [chk1] at h
    split at h
    · simp only [Bool.and_eq_true] at h
      exact y_ite ((sndE c true Γ _ h.1).test K) (sndS a Γ _ h.2.1 hb X C K) (sndS b Γ _ h.2.2 hb X C K)
    · cases h
  | .for_ t it b, Γ, st, h, hb, X, C, K => by
    simp only [chk1] at h
    split at h
    · simp only [Bool.and_eq_true] at h
      obtain ⟨h1, h2, h3, h4⟩ := h
      exact y_for (clk_ex b) (K.fr hb).passes K.calm (sndI it Γ _ _ h2 X C K) (okTg t _ K h3) (sndS b Γ _ h4 hb X C K) (fold_ok h1)
    · cases h
  | .fork t e b, Γ, st, h, hb, X, C, K => by simp only [chk1] at h; cases h
  | .while_ c b, Γ, st, h, hb, X, C, K => by
    simp only [chk1] at h
    split at h
    · rw [Bool.and_eq_true] at h
      exact y_while (clk_ex b) (K.fr hb).passes ((sndE c true Γ _ h.1).test K) (sndS b Γ _ h.2 hb X C K)
    · cases h
  | .brk, Γ, st, h, hb, X, C, K => by
    simp only [chk1] at h
    split at h
    · exact y_brk
    · cases h
  | .cnt, Γ, st, h, hb, X, C, K => by
    simp only [chk1] at h
    split at h
    · exact y_cnt
    · cases h
  | .raise c es, Γ, st, h, hb, X, C, K => by
    simp only [chk1] at h
    split at h
    · rename_i x p1 a args p2 p3
      simp only [Bool.and_eq_true] at h
      obtain ⟨h1, h2, h3⟩ := h
      obtain ⟨g1, g2⟩ := K.gl h1
      split at h2
      · rename_i c' fs ec
        rw [Bool.and_eq_true] at h2
        have e1 := Nat.beq_eq.mp h2.1
        subst e1
        have e2 := Nat.beq_eq.mp h2.2
        have ns := chkA_ns h3
        unfold allNS at ns
        rw [Bool.and_eq_true] at ns
        exact (K.m.cls x _ fs ec).raise X C k (evs es) a args p1 p2 p3 K.wd K.g K.room K.k2 K.calm K.takes g1 g2 (sndA es Γ _ h3 X C K) (star_cons ns.1) (star_any ns.2) fun cs r h ds h1 e => by rw [evs_len h3 _ _ _ _ _ e, e2]
      · cases h2
    · cases h
  | .tryx b l, Γ, st, h, hb, X, C, K => by
    simp only [chk1] at h
    split at h
    · rename_i body h0 hs p
      rw [Bool.and_eq_true] at h
      obtain ⟨h1, h2⟩ := h
      unfold tryB at h1
      split at h1
      · rename_i n en
        simp only [Bool.and_eq_true] at h1
        obtain ⟨a1, a2, a3, a4⟩ := h1
        obtain ⟨y, m1, m2⟩ := List.any_eq_true.mp a1
        have m2 := of_decide_eq_true m2
        subst m2
        obtain ⟨i, hi⟩ := List.mem_iff_getElem?.mp m1
        have hN : X.N[i]? = some y := by rw [K.N]; exact hi
        have hl : X.env.scope.names.lookup y = some .local := by
          rw [K.names]
          split at a2
          · assumption
          · cases a2
        have F := K.fr hb
        exact y_try F.stk.1 F.stk.2 K.nd hN hl K.takes (okN_ok a3).1 (okN_ok a3).2 (by rw [K.K, K.g]; exact K.m.exm) (fun W pn xe tk ps => sndS b Γ body h2 hb _ _ (K.tr hb tk ps)) (clk_ex b) (hd_by K a4)
      · cases h1
    · cases h
  | .frz i, Γ, st, h, hb, X, C, K => by simp only [chk1] at h; cases h
theorem sndS : ∀ (s : S) (Γ : Ctx) (sts : List Stmt), chkS s Γ sts = true → Γ.blk = false → ∀ (X : Cx) (C : Cfg), EOk M G cs k Γ X C → PSs X sts (tS C (ex s))
  | .skip, Γ, sts, h, hb, X, C, K => by
    simp only [chkS] at h
    split at h
    · exact y_snil
    · cases h
  | .seq a b, Γ, sts, h, hb, X, C, K => by
    simp only [chkS] at h
    split at h
    · rename_i i e
      rw [Bool.and_eq_true] at h
      rw [frz_of e]
      exact y_frz (K.noc h.1) (sndS b Γ sts h.2 hb X C K)
    · split at h
      · rw [Bool.and_eq_true] at h
        exact y_scons (clk_ex a) (snd1 a Γ _ h.1 hb X C K) (sndS b Γ _ h.2 hb X C K)
      · cases h
  | .asg t e, Γ, sts, h, hb, X, C, K => by simp only [chkS] at h; cases h
  | .aug t o e, Γ, sts, h, hb, X, C, K => by simp only [chkS] at h; cases h
  | .set o i e, Γ, sts, h, hb, X, C, K => by simp only [chkS] at h; cases h
  | .augs o i op e, Γ, sts, h, hb, X, C, K => by simp only [chkS] at h; cases h
  | .ex e, Γ, sts, h, hb, X, C, K => by simp only [chkS] at h; cases h
  | .ret e, Γ, sts, h, hb, X, C, K => by simp only [chkS] at h; cases h
  | .retn, Γ, sts, h, hb, X, C, K => by simp only [chkS] at h; cases h
  | .ite c a b, Γ, sts, h, hb, X, C, K => by simp only [chkS] at h; cases h
  | .for_ t it b, Γ, sts, h, hb, X, C, K => by simp only [chkS] at h; cases h
  | .fork t e b, Γ, sts, h, hb, X, C, K => by simp only [chkS] at h; cases h
  | .while_ c b, Γ, sts, h, hb, X, C, K => by simp only [chkS] at h; cases h
  | .brk, Γ, sts, h, hb, X, C, K => by simp only [chkS] at h; cases h
  | .cnt, Γ, sts, h, hb, X, C, K => by simp only [chkS] at h; cases h
  | .raise c es, Γ, sts, h, hb, X, C, K => by simp only [chkS] at h; cases h
  | .tryx b l, Γ, sts, h, hb, X, C, K => by simp only [chkS] at h; cases h
  | .frz i, Γ, sts, h, hb, X, C, K => by simp only [chkS] at h; cases h
end
end
end Y

/-! Y39: what a top's objects tell, by a look. -/
namespace Y
open PySem PySem.Spec PyProof.Rows L2 NdefX
/-! ### arguments -/
theorem zip_look : ∀ {ps : List Str} {us : List Value}, ps.Nodup → us.length = ps.length → (∀ n ∈ ps, ((ps.zip us).lookup n).isNone = false) ∧ ps.filterMap (fun n => ((ps.zip us).lookup n).map (n, ·)) = ps.zip us := by
  intro ps
  induction ps with
  | nil =>
    intro us _ _
    refine ⟨fun n h => ?_, rfl⟩
    cases h
  | cons p ps ih =>
    intro us nd hl
    cases us with
    | nil => cases hl
    | cons u us =>
      obtain ⟨n1, n2⟩ := List.nodup_cons.mp nd
      obtain ⟨a, b⟩ := ih (us := us) n2 (by simpa using hl)
      have ne : ∀ n ∈ ps, (n == p) = false := fun n m => beq_eq_false_iff_ne.mpr fun e => n1 (e ▸ m)
      refine ⟨fun n m => ?_, ?_⟩
      · simp only [List.zip_cons_cons, List.lookup_cons]
        cases q : n == p with
        | true => rfl
        | false =>
          rcases List.mem_cons.mp m with e | e
          · subst e; simp at q
          · exact a n e
      · simp only [List.zip_cons_cons, List.filterMap_cons, List.lookup_cons, beq_self_eq_true, Option.map_some]
        congr 1
        refine Eq.trans ?_ b
        have : ∀ (l : List Str), (∀ n ∈ l, (n == p) = false) → l.filterMap (fun n => (match n == p with | true => some u | false => List.lookup n (ps.zip us)).map fun x => (n, x)) = l.filterMap (fun n => (List.lookup n (ps.zip us)).map fun x => (n, x)) := by
          intro l
          induction l with
          | nil => intro _; rfl
          | cons x l ih2 =>
            intro h
            rw [List.filterMap_cons, List.filterMap_cons, h x (by simp), ih2 fun n m => h n (List.mem_cons_of_mem _ m)]
        exact this ps ne
theorem bind_plain {fd : FuncData} {us : List Value} {as : List Arg} (hp : fd.params = ⟨[], as, none, [], [], none, []⟩) (hd : fd.defaults = .none) (nd : (as.map (·.arg)).Nodup) (hl : us.length = (as.map (·.arg)).length) : bindArgs fd ⟨us, []⟩ = pure ((as.map (·.arg)).zip us) := by
  obtain ⟨z1, z2⟩ := zip_look nd hl
  unfold bindArgs
  rw [hp, hd]
  have e1 : ¬ us.length > (as.map (·.arg)).length := by omega
  have e2 : (as.map (·.arg)).filter (fun n => (((as.map (·.arg)).zip us).lookup n).isNone) = [] := List.filter_eq_nil_iff.mpr fun n m => by rw [z1 n m]; decide
  simp only [List.map_nil, List.nil_append, List.append_nil, List.forIn_nil, pure_bind, seqItems?, notAStandIn, Option.getD_none, List.length_nil, e1]
  have dF : decide False = false := rfl
  simp only [dF, Bool.false_and, List.drop_nil, List.length_nil, Nat.sub_zero, List.take_length, List.drop_length, e2, List.zip_nil_right, List.forIn_nil, pure_bind, List.isEmpty_nil, Bool.not_true, z2, Bool.false_eq_true, if_false]
/-- parameters by place alone -/
def argsOf : Arguments → Option (List Arg)
  | ⟨[], as, none, [], [], none, []⟩ => some as
  | _ => none
theorem argsOf_ok {p : Arguments} {as : List Arg} (h : argsOf p = some as) : p = ⟨[], as, none, [], [], none, []⟩ := by
  unfold argsOf at h
  split at h
  · cases h; rfl
  · cases h
/-- a look at a def's scope -/
def fscB (N P : List Str) (sc : Scope) : Bool := (match sc.kind with
  | .function => true
  | _ => false) && (!sc.isCoroutine && (!sc.isGenerator && (decide N.Nodup && (decide (N.take P.length = P) && ((P.all fun x => visK (sc.names.lookup x) && !(match sc.names.lookup x with
  | some .free => true
  | _ => false)) && sc.names.all fun y => match y.2 with
  | .free => false
  | _ => true)))))
theorem fscB_ok {N P : List Str} {sc : Scope} (h : fscB N P sc = true) : FnScope N P sc := by
  unfold fscB at h
  simp only [Bool.and_eq_true, Bool.not_eq_true'] at h
  obtain ⟨h1, h2, h3, h4, h5, h6, h7⟩ := h
  refine ⟨?_, h2, h3, of_decide_eq_true h4, of_decide_eq_true h5, fun x m => ?_, fun y m e => ?_⟩
  · split at h1
    · assumption
    · cases h1
  · have q := List.all_eq_true.mp h6 x m
    rw [Bool.and_eq_true] at q
    generalize sc.names.lookup x = o at q ⊢
    cases o with
    | none => cases q.1
    | some k => cases k <;> first | exact .inl rfl | exact .inr rfl | (cases q.1; done) | (cases q.2; done)
  · have q := List.all_eq_true.mp h7 y m
    rw [e] at q
    cases q
/-! ### a def's object -/
def isNone : Value → Bool
  | .none => true
  | _ => false
theorem isNone_ok {v : Value} (h : isNone v = true) : v = .none := by cases v <;> first | rfl | cases h
/-- the parts of a def's object -/
structure DefP where
  name : Str
  qual : Str
  as : List Arg
  body : List Stmt
  scope : Scope
  kV : Value
  doc : Value
  pm : Value
  an : Option Addr
  cdv : Value
  ct : Value
  oc : Value
  od : Option Addr
  osl : Array (Option Value)
abbrev DefP.fd (d : DefP) : FuncData := PySem.W.fnOf d.name d.qual ⟨[], d.as, none, [], [], none, []⟩ d.body d.scope .none d.kV d.doc d.pm d.an d.cdv d.ct
def defP (K : PySem.W.Frag) (a : Addr) : Option DefP := match K.lookup a with
  | some ⟨oc, od, .func fd, osl⟩ => (match fd.body with
    | .stmts body => (match argsOf fd.params with
      | some as => if isNone fd.defaults && (isNil fd.closure && (Nat.beq fd.globals mainGlobals && Nat.beq fd.builtins builtinsNs)) then some ⟨fd.name, fd.qualname, as, body, fd.scope, fd.kwdefaults, fd.doc, fd.pyModule, fd.annotations, fd.code, fd.closureTuple, oc, od, osl⟩ else none
      | none => none)
    | _ => none)
  | _ => none
theorem defP_ok {K : PySem.W.Frag} {a : Addr} {d : DefP} (h : defP K a = some d) : K.lookup a = some ⟨d.oc, d.od, .func d.fd, d.osl⟩ := by
  unfold defP at h
  split at h
  · rename_i oc od fd osl e
    split at h
    · rename_i body eb
      split at h
      · rename_i as ea
        split at h
        · rename_i c
          simp only [Bool.and_eq_true] at c
          obtain ⟨c1, c2, c3, c4⟩ := c
          cases h
          rw [e]
          have e1 := argsOf_ok ea
          have e2 := isNone_ok c1
          have e3 : fd.closure = [] := by
            cases q : fd.closure with
            | nil => rfl
            | cons _ _ => rw [q] at c2; cases c2
          have e4 := Nat.beq_eq.mp c3
          have e5 := Nat.beq_eq.mp c4
          obtain ⟨f1, f2, f3, f4, f5, f6, f7, f8, f9, f10, f11, f12, f13, f14, f15⟩ := fd
          dsimp only at e1 e2 e3 e4 e5 eb
          subst e1 e2 e3 e4 e5 eb
          rfl
        · cases h
      · cases h
    · cases h
  · cases h
/-- a def of the module, as the claim tells it -/
structure DefI where
  adr : Addr
  tab : Option Addr
  N : List Str
  fn : Fn
def defB (K : PySem.W.Frag) (Γ : Ctx) (d : DefI) (p : DefP) : Ctx := { Γ with N := d.N, caps := d.fn.caps, names := p.scope.names, blk := false, fnc := fun _ => true, tab := d.tab.isSome, qual := (p.qual ++ ".<locals>.") ++ "<lambda>" }
def capB (N : List Str) (names : List (Str × NameKind)) : List Nat → Bool
  | [] => true
  | i :: r => (match N[i]? with
    | some x => (match names.lookup x with
      | some .cell => true
      | _ => false)
    | none => false) && capB N names r
noncomputable def okDef (K : PySem.W.Frag) (Γ : Ctx) (d : DefI) : Bool := match defP K d.adr with
  | some p => PySem.W.codeIn K p.cdv p.qual && (fscB d.N (p.as.map (·.arg)) p.scope && (Nat.beq d.fn.np p.as.length && (Nat.beq d.fn.ns d.N.length && (decide d.fn.caps.Nodup && (capB d.N p.scope.names d.fn.caps && ((match d.tab with
    | none => true
    | some P => (match p.cdv with
      | .ref c => PySem.W.codeHdIn K c P
      | _ => false)) && chkS d.fn.body (defB K Γ d p) p.body))))))
  | none => false
section
variable {M : Wd} {G : Gd} {Γ : Ctx}
theorem capB_ok {N : List Str} {names : List (Str × NameKind)} : ∀ {l : List Nat}, capB N names l = true → ∀ i ∈ l, ∃ x, N[i]? = some x ∧ names.lookup x = some .cell
  | [], _, i, m => nomatch m
  | j :: r, h, i, m => by
    unfold capB at h
    rw [Bool.and_eq_true] at h
    rcases List.mem_cons.mp m with e | e
    · subst e
      obtain ⟨h, _⟩ := h
      split at h
      · rename_i x ex
        refine ⟨x, ex, ?_⟩
        split at h
        · assumption
        · cases h
      · cases h
    · exact capB_ok h.2 i e
/-- a module's facts do not lean on what is told of a def -/
theorem MOk.same {Γ' : Ctx} (m : MOk M G Γ) (e1 : Γ'.fns = Γ.fns) (e2 : Γ'.cst = Γ.cst) (e3 : Γ'.blt = Γ.blt) (e4 : Γ'.cls = Γ.cls) (e5 : Γ'.lm = Γ.lm) : MOk M G Γ' :=
  ⟨m.K, m.allF, by rw [e1]; exact m.fn, by rw [e2]; exact m.cst, by rw [e3]; exact m.blt, by rw [e4]; exact m.cls, m.exm, by rw [e5]; exact m.lm⟩
theorem EOk.of_run {cs : CSem} {k : Nat} {N : List Str} {scope : Scope} {qual : Str} {cd : Value} {caps : List Nat} {X : Cx} {C : Cfg} {st : Bool} (m : MOk M G Γ) (cc : CC M G cs k) (k2 : 2 ≤ k) (r : Run st M G cs k N scope qual cd caps X C)
    (e1 : Γ.N = N) (e2 : Γ.caps = caps) (e3 : Γ.names = scope.names) (hk : scope.kind = .function) (e4 : ∀ x, Γ.fnc x = true → st = true) (nd : caps.Nodup)
    (ht : Γ.tab = true → st = true ∧ ∃ c P, cd = .ref c ∧ LamX.TabB M.base M.mg c P ∧ (P, (qual ++ ".<locals>.") ++ "<lambda>") ∈ G.T ∧ (∀ p ∈ G.T, p.1 = P → p.2 = (qual ++ ".<locals>.") ++ "<lambda>") ∧ (qual ++ ".<locals>.") ++ "<lambda>" = Γ.qual) : EOk M G cs k Γ X C where
  m := m
  cc := cc
  wd := r.wd
  g := r.g
  cs := r.cs
  N := by rw [e1]; exact r.N
  nd := r.nd
  names := by rw [e3, r.scope]
  kind := by rw [r.scope]; exact hk
  calm := r.calm
  guards := r.guards
  room := r.room
  k2 := k2
  takes := r.takes
  caps := by rw [e2]; exact r.caps
  capn := by rw [e2]; exact nd
  fnc := fun x h => by rw [r.fn (e4 x h)]
  fr := fun _ => ⟨r.passes, r.own, r.cell, r.stk, fun t => by
    obtain ⟨hs, c, P, t1, t2, t3, t4, t5⟩ := ht t
    refine ⟨c, P, ?_, by rw [r.code hs, t1], by rw [r.qual]; exact t3, by rw [r.qual]; exact t4, by rw [r.qual]; exact t5⟩
    have hw := r.wd
    have hb : X.base = M.base := congrArg Wd.base hw
    have hm : X.mg = M.mg := congrArg Wd.mg hw
    rw [hb, hm]; exact t2⟩
/-- a def that was looked at is sound -/
theorem fn_parts (m : MOk M G Γ) {d : DefI} {p : DefP} (h : okDef M.K Γ d = true) (hp : defP M.K d.adr = some p)
    (ht : ∀ P, d.tab = some P → ∀ c, p.cdv = .ref c → PySem.W.codeHdIn M.K c P = true → LamX.TabB M.base M.mg c P ∧ (P, (p.qual ++ ".<locals>.") ++ "<lambda>") ∈ G.T ∧ ∀ q ∈ G.T, q.1 = P → q.2 = (p.qual ++ ".<locals>.") ++ "<lambda>") :
    PySem.W.codeIn M.K p.cdv p.qual = true ∧ FnScope d.N (p.as.map (·.arg)) p.scope ∧ d.fn.np = (p.as.map (·.arg)).length ∧ d.fn.ns = d.N.length ∧ d.fn.caps.Nodup ∧ (∀ i ∈ d.fn.caps, ∃ x, d.N[i]? = some x ∧ p.scope.names.lookup x = some .cell) ∧
    ∀ (cs : CSem) (k : Nat) (X : Cx) (C : Cfg), 2 ≤ k → CC M G cs k → Run true M G cs k d.N p.scope p.qual p.cdv d.fn.caps X C → PSs X p.body (tS C (ex d.fn.body)) := by
  unfold okDef at h
  rw [hp] at h
  dsimp only at h
  simp only [Bool.and_eq_true] at h
  obtain ⟨h1, h2, h3, h4, h5, h6, h7, h8⟩ := h
  have S := fscB_ok h2
  refine ⟨h1, S, by rw [Nat.beq_eq.mp h3, List.length_map], Nat.beq_eq.mp h4, of_decide_eq_true h5, capB_ok h6, fun cs k X C k2 cc r => ?_⟩
  refine sndS d.fn.body (defB M.K Γ d p) p.body h8 rfl X C (EOk.of_run (m.same rfl rfl rfl rfl rfl) cc k2 r rfl rfl rfl S.kind (fun _ _ => rfl) (of_decide_eq_true h5) fun t => ⟨rfl, ?_⟩)
  have t : d.tab.isSome = true := t
  cases q : d.tab with
  | none => rw [q] at t; cases t
  | some P =>
    rw [q] at h7
    dsimp only at h7
    split at h7
    · rename_i c ec
      obtain ⟨t1, t2, t3⟩ := ht P q c ec h7
      exact ⟨c, P, ec, t1, t2, t3, rfl⟩
    · cases h7
theorem fn_snd (m : MOk M G Γ) {d : DefI} {i : Nat} (hi : G.fadr i = d.adr) (h : okDef M.K Γ d = true)
    (ht : ∀ P p, d.tab = some P → defP M.K d.adr = some p → ∀ c, p.cdv = .ref c → PySem.W.codeHdIn M.K c P = true → LamX.TabB M.base M.mg c P ∧ (P, (p.qual ++ ".<locals>.") ++ "<lambda>") ∈ G.T ∧ ∀ q ∈ G.T, q.1 = P → q.2 = (p.qual ++ ".<locals>.") ++ "<lambda>") : FnSnd M G i d.fn := by
  cases hp : defP M.K d.adr with
  | none => unfold okDef at h; rw [hp] at h; cases h
  | some p =>
  obtain ⟨h1, S, h3, h4, h5, h6, h7⟩ := fn_parts m h hp fun P e c ec hh => ht P p e hp c ec hh
  have nd : (p.as.map (·.arg)).Nodup := by
    have e := S.pre
    have := S.nd
    rw [← e]
    exact this.sublist (List.take_sublist _ _)
  exact ⟨p.name, p.qual, _, p.body, p.scope, .none, p.kV, p.doc, p.pm, p.cdv, p.ct, p.oc, p.an, p.od, p.osl, d.N, p.as.map (·.arg), by rw [hi]; exact defP_ok hp, h1, S, fun us hl => bind_plain (fd := p.fd) rfl rfl nd hl, h3, h4, h5, h6, h7⟩
/-! ### lambdas without parameters -/
structure LamI where
  N : List Str
  lm : Lm
noncomputable def lamCtx (Γ : Ctx) (l : LamI) (t : LamT) : Ctx := { Γ with N := l.N, caps := (List.range t.caps.length).map (0 + ·), names := t.scope.names, blk := false, fnc := fun _ => false, tab := false, lm := fun _ _ => false }
noncomputable def okLam (Γ : Ctx) (l : LamI) (t : LamT) : Bool := (match argsOf t.params with
  | some [] => true
  | _ => false) && (nscB l.N [] t.caps t.scope && (Nat.beq l.lm.np 0 && chkE l.lm.body false (lamCtx Γ l t) t.body))
theorem lm_snd (m : MOk M G Γ) {l : LamI} {t : LamT} (h : okLam Γ l t = true) : LmSnd M G t l.lm := by
  unfold okLam at h
  simp only [Bool.and_eq_true] at h
  obtain ⟨h1, h2, h3, h4⟩ := h
  have S := nscope_by h2
  have ea : t.params = ⟨[], [], none, [], [], none, []⟩ := by
    split at h1
    · rename_i e; exact argsOf_ok e
    · cases h1
  refine ⟨l.N, [], S, fun cl pm cv ctv us hl => ?_, by rw [Nat.beq_eq.mp h3]; rfl, fun cs k X C cd k2 cc r => ?_⟩
  · exact bind_plain (fd := PySem.W.kla_fn "<lambda>" t.qual t.params t.body t.scope cl pm cv ctv) (as := []) ea rfl List.nodup_nil hl
  · have m' : MOk M G (lamCtx Γ l t) := ⟨m.K, m.allF, m.fn, m.cst, m.blt, m.cls, m.exm, fun kk t' z => by cases z⟩
    refine (sndE l.lm.body false (lamCtx Γ l t) t.body h4).val (EOk.of_run m' cc k2 r rfl rfl rfl S.kind (fun _ z => by cases z) ?_ fun z => by cases z)
    refine List.pairwise_map.mpr (List.Pairwise.imp (fun {a b} h e => h ?_) List.nodup_range)
    have e : 0 + a = 0 + b := e
    omega
end
end Y

/-! Y40: a class of exceptions by a look. -/
namespace Y
open PySem PySem.Spec PyProof.Rows L2 NdefX
/-- the address that a name of the module bears -/
def adrIn (K : PySem.W.Frag) (x : Str) : Addr := match PySem.W.nsIn K mainGlobals x with
  | some (some (.ref a)) => a
  | _ => 0
def isRef (K : PySem.W.Frag) (x : Str) : Bool := match PySem.W.nsIn K mainGlobals x with
  | some (some (.ref _)) => true
  | _ => false
theorem isRef_ok {K : PySem.W.Frag} {x : Str} (h : isRef K x = true) : PySem.W.nsIn K mainGlobals x = some (some (.ref (adrIn K x))) := by
  unfold isRef at h
  unfold adrIn
  split at h
  · rename_i a e; rw [e]
  · cases h
def isExc (C : Addr) (o : Obj) : Bool := decide (o.cls = .type "type") && ((match o.data with
  | .cls c => (match c.mro with
    | .ref C' :: bm => Nat.beq C' C && PySem.HandSPX.refsVE bm
    | _ => false) && (c.hasDict && !c.hasDel)
  | _ => false) && (match o.slots.toList with
  | [_, _, _, _, some (.builtin s), _] => decide (s = "ValueError.__new__")
  | _ => false))
theorem isExc_ok {C : Addr} {o : Obj} (h : isExc C o = true) : ∃ nm q N bs bm sn sub ab col dd k0 k1 k2 k3 k5, o = excClassObj nm q C N bs bm true sn sub ab col dd k0 k1 k2 k3 k5 "ValueError.__new__" ∧ PySem.HandSPX.refsVE bm = true := by
  unfold isExc at h
  simp only [Bool.and_eq_true] at h
  obtain ⟨h1, h2, h3⟩ := h
  have h1 := of_decide_eq_true h1
  obtain ⟨cls, dd, data, ⟨sl⟩⟩ := o
  dsimp only at h1 h2 h3
  subst h1
  split at h2
  · rename_i c
    rw [Bool.and_eq_true, Bool.and_eq_true, Bool.not_eq_true'] at h2
    obtain ⟨h2, h4, h5⟩ := h2
    split at h2
    · rename_i C' bm em
      rw [Bool.and_eq_true] at h2
      obtain ⟨h2, h6⟩ := h2
      have h2 := Nat.beq_eq.mp h2
      subst h2
      split at h3
      · rename_i k0 k1 k2 k3 s k5
        have h3 := of_decide_eq_true h3
        subst h3
        obtain ⟨f1, f2, f3, f4, f5, f6, f7, f8, f9, f10, f11⟩ := c
        dsimp only at em h4 h5
        subst em h4 h5
        exact ⟨_, _, _, _, bm, _, _, _, _, _, _, _, _, _, _, rfl, h6⟩
      · cases h3
    · cases h2
  · cases h2
/-- the text of such an __init__ -/
def iniRest : List Stmt → List Str → Bool
  | [], fs => isNil fs
  | .Assign [.Attribute (.Name s _) f _] (.Name g _) _ :: b, h :: fs => decide (s = "self") && (decide (f = h) && (decide (g = h) && iniRest b fs))
  | _, _ => false
def iniHead : Stmt → Option Str
  | .Expr (.Call (.Attribute (.Name B _) at_ p2) [.Name s _, .Constant (.str _) _ _] [] pos) _ => if decide (at_ = "__init__") && (decide (s = "self") && (p2.endLine == pos.line)) then some B else none
  | _ => none
theorem iniRest_ok : ∀ {b : List Stmt} {fs : List Str}, iniRest b fs = true → IniB b fs
  | [], fs, h => by
    cases fs with
    | nil => exact .nil
    | cons _ _ => cases h
  | st :: b, fs, h => by
    unfold iniRest at h
    split at h
    · rename_i q; cases q
    · rename_i s p1 f p2 g p3 p4 b' h0 fs' q
      cases q
      simp only [Bool.and_eq_true] at h
      obtain ⟨h1, h2, h3, h4⟩ := h
      have h1 := of_decide_eq_true h1
      have h2 := of_decide_eq_true h2
      have h3 := of_decide_eq_true h3
      subst h1 h2 h3
      exact .cons (fun env => rfl) (iniRest_ok h4)
    · cases h
theorem ini_eval {B txt : Str} {p1 p2 p3 p4 pos : Pos} {j : Nat} (hl : (p2.endLine == pos.line) = true) (env : Env) : eval (.Call (.Attribute (.Name B p1) "__init__" p2) [.Name "self" p3, .Constant (.str txt) j p4] [] pos) env = (do
      let ov ← eval (.Name B p1) env
      standAt p2.atName
      let (f, first) ← holding [ov] (getMethod ov "__init__" (L2.plainOf (.Name B p1) env))
      callWith pos f first (backTo pos (starEach [.Name "self" p3, .Constant (.str txt) j p4] env)) (backToKw pos (keywordEach [] env))) := by
  show (do
    let ov ← attributeBase (.Name B p1) "__init__" env (eval (.Name B p1) env)
    standAt p2.atName
    methodCall (.Name B p1) "__init__" p2 pos env ov 2 (backTo pos (starEach [.Name "self" p3, .Constant (.str txt) j p4] env)) (backToKw pos (keywordEach [] env))) = _
  rw [base_ok rfl]
  have e : ∀ ov, methodCall (.Name B p1) "__init__" p2 pos env ov 2 (backTo pos (starEach [.Name "self" p3, .Constant (.str txt) j p4] env)) (backToKw pos (keywordEach [] env)) = (do
      let (f, first) ← holding [ov] (getMethod ov "__init__" (L2.plainOf (.Name B p1) env))
      callWith pos f first (backTo pos (starEach [.Name "self" p3, .Constant (.str txt) j p4] env)) (backToKw pos (keywordEach [] env))) := fun ov => mcall_line rfl hl
  simp only [e]
/-- what is looked at -/
structure ClsI where
  name : Str
  fs : List Str
def okCls (K : PySem.W.Frag) (C : Addr) (fs : List Str) : Bool := (match K.lookup C with
  | some o => isExc C o
  | none => false) && (decide (PySem.W.findIn K (.ref C) "__setattr__" = some (some (.builtin "object.__setattr__"))) && (decide (PySem.W.subIn K (.ref C) (.type "BaseException") = some true) && (decide (PySem.W.typeIn K (.ref C) = some (.type "type")) && (PySem.W.keepIn K (.ref C) &&
    (xfB K C && (fs.all fun f => okN f && decide (PySem.W.findIn K (.ref C) f = some none)))))))
def iniName (K : PySem.W.Frag) (C : Addr) : Addr := match PySem.W.findIn K (.ref C) "__init__" with
  | some (some (.ref f)) => f
  | _ => 0
def isVE (K : PySem.W.Frag) (C0 : Addr) (mc : Value) : Bool := match PySem.W.findCls K (.ref C0) mc "__init__" with
  | some (.val (.builtin s)) => decide (s = "ValueError.__init__")
  | _ => false
def okBase (K : PySem.W.Frag) (B : Str) : Bool := isRef K B && (okN B && (decide (PySem.W.typeIn K (.ref (adrIn K B)) = some (.type "type")) && (decide (PySem.W.specialIn K (.ref (adrIn K B)) "__getattribute__" = some (some (.builtin "type.__getattribute__"))) && (PySem.W.readsIn K (adrIn K B) (.type "type") && isVE K (adrIn K B) (.type "type")))))
def okIni (K : PySem.W.Frag) (C : Addr) (fs : List Str) : Bool := decide (PySem.W.findIn K (.ref C) "__init__" = some (some (.ref (iniName K C)))) && (decide (PySem.W.typeIn K (.ref (iniName K C)) = some (.type "function")) && (match defP K (iniName K C) with
  | some p => decide (p.as.map (·.arg) = ("self" : Str) :: fs) && (PySem.W.codeIn K p.cdv p.qual && (fscB (("self" : Str) :: fs) (("self" : Str) :: fs) p.scope && (!isNil fs && (decide (fs.length ≤ 800) && (match p.body with
    | st :: b => (match iniHead st with
      | some B => iniRest b fs && ((match p.scope.names.lookup B with
        | some .globalImplicit => true
        | _ => false) && okBase K B)
      | none => false)
    | [] => false)))))
  | none => false))
theorem iniHead_ok {st : Stmt} {B : Str} (h : iniHead st = some B) : ∃ p1 p2 p3 txt j p4 pos pos2, st = .Expr (.Call (.Attribute (.Name B p1) "__init__" p2) [.Name "self" p3, .Constant (.str txt) j p4] [] pos) pos2 ∧ (p2.endLine == pos.line) = true := by
  unfold iniHead at h
  split at h
  · rename_i B' p1 at_ p2 s p3 txt j p4 pos pos2
    split at h
    · rename_i c
      cases h
      simp only [Bool.and_eq_true] at c
      obtain ⟨c1, c2, c3⟩ := c
      have c1 := of_decide_eq_true c1
      have c2 := of_decide_eq_true c2
      subst c1 c2
      exact ⟨p1, p2, p3, txt, j, p4, pos, pos2, rfl, c3⟩
    · cases h
  · cases h
theorem cls_by {M : Wd} {G : Gd} {x : Str} {c : Nat} {fs : List Str} (hm : M.mg x = some (.ref (G.cadr c))) (hf : G.cfld c = fs) (hn : c < G.cn) (h : okCls M.K (G.cadr c) fs = true) (hi : okIni M.K (G.cadr c) fs = true) (hg : ∀ n v, PySem.W.nsIn M.K mainGlobals n = some (some v) → M.mg n = some v) : ClsOk M G x c fs := by
  unfold okCls at h
  simp only [Bool.and_eq_true] at h
  obtain ⟨h1, h2, h3, h4, h5, h6, h7⟩ := h
  have hno : ∀ f ∈ fs, okN f = true ∧ PySem.W.findIn M.K (.ref (G.cadr c)) f = some none := fun f m => by
    have q := List.all_eq_true.mp h7 f m
    rw [Bool.and_eq_true] at q
    exact ⟨q.1, of_decide_eq_true q.2⟩
  have T : OexC M.K (G.cadr c) := by
    refine ⟨?_, of_decide_eq_true h2, of_decide_eq_true h3, of_decide_eq_true h4, h5⟩
    split at h1
    · rename_i o e
      obtain ⟨nm, q, N, bs, bm, sn, sub, ab, col, dd, k0, k1, k2, k3, k5, eo, er⟩ := isExc_ok h1
      exact ⟨nm, q, N, bs, bm, sn, sub, ab, col, dd, k0, k1, k2, k3, k5, by rw [e, eo], er⟩
    · cases h1
  refine ⟨hm, hn, hf, xfB_ok h6, fun f m => (hno f m).2, fun X C k mes e es p pos pos2 w1 w2 hr k2 hc tk gl hdb ha he hpl hlen => ?_⟩
  unfold okIni at hi
  simp only [Bool.and_eq_true] at hi
  obtain ⟨i1, i2, i3⟩ := hi
  have i1 := of_decide_eq_true i1
  have i2 := of_decide_eq_true i2
  cases hp : defP M.K (iniName M.K (G.cadr c)) with
  | none => rw [hp] at i3; cases i3
  | some d =>
  rw [hp] at i3
  dsimp only at i3
  simp only [Bool.and_eq_true] at i3
  obtain ⟨j1, j2, j3, j4, j5, j6⟩ := i3
  have j1 := of_decide_eq_true j1
  have j5 := of_decide_eq_true j5
  have lk := defP_ok hp
  cases eb : d.body with
  | nil => rw [eb] at j6; cases j6
  | cons st b =>
  rw [eb] at j6
  dsimp only at j6
  cases eh : iniHead st with
  | none => rw [eh] at j6; cases j6
  | some B =>
  rw [eh] at j6
  dsimp only at j6
  simp only [Bool.and_eq_true] at j6
  obtain ⟨b1, b2, b3⟩ := j6
  obtain ⟨p1, p2, p3, txt, j, p4, q1, q2, est, hl⟩ := iniHead_ok eh
  subst est
  unfold okBase at b3
  simp only [Bool.and_eq_true] at b3
  obtain ⟨c1, c2, c3, c4, c5, c6⟩ := b3
  have c3 := of_decide_eq_true c3
  have c4 := of_decide_eq_true c4
  have vV : PySem.W.findCls M.K (.ref (adrIn M.K B)) (.type "type") "__init__" = some (.val (.builtin "ValueError.__init__")) := by
    unfold isVE at c6
    split at c6
    · rename_i s e
      rw [e, of_decide_eq_true c6]
    · cases c6
  cases efs : fs with
  | nil => rw [efs] at j4; cases j4
  | cons f fs' =>
  have S := fscB_ok j3
  have nd : (d.as.map (·.arg)).Nodup := by rw [j1]; exact S.nd
  have hgl : d.scope.names.lookup B = some .globalImplicit := by
    split at b2
    · assumption
    · cases b2
  have fd_eq : d.fd = PySem.W.fnOf d.name d.qual ⟨[], d.as, none, [], [], none, []⟩ (.Expr (.Call (.Attribute (.Name B p1) "__init__" p2) [.Name "self" p3, .Constant (.str txt) j p4] [] q1) q2 :: b) d.scope .none d.kV d.doc d.pm d.an d.cdv d.ct := by
    unfold DefP.fd
    rw [eb]
  have eK : X.K = M.K := congrArg Wd.K w1
  have eP : X.prog = M.P := congrArg Wd.P w1
  have ew : X.w = M.w := congrArg Wd.w w1
  have em : X.mg = M.mg := congrArg Wd.mg w1
  have eB : X.base = M.base := congrArg Wd.base w1
  rw [efs] at b1 S hno hf hlen
  have F1 : FnOk M.P M.w M.K M.mg M.base CX0 1 (iniName M.K (G.cadr c)) d.fd (("self" : Str) :: f :: fs') (spInit (G.cadr c) (f :: fs')) := by
    rw [fd_eq] at lk ⊢
    exact ini_ok (k := 0) (pl := fun env => L2.plainOf (.Name B p1) env) lk j2 S T (iniRest_ok b1) (by rw [efs] at j5; simp at j5; omega) hgl (hg _ _ (isRef_ok c1)) (okN_ok c2).1 c3 c4 c5 vV
      (fun g m => ⟨(okN_ok (hno g m).1).1, (okN_ok (hno g m).1).2, (hno g m).2⟩) (fun env => ini_eval hl env) (fun env => rfl)
  rw [← w2] at T i1 i2 F1 hf hm hn
  rw [← eK] at T i1 i2 F1
  rw [← eP, ← ew, ← em, ← eB] at F1
  rw [← em] at hm
  have hb : L2.Binds X.K d.fd (("self" : Str) :: f :: fs') [] := .all fun us hl => by
    rw [efs] at j1
    rw [← j1] at hl ⊢
    exact bind_plain (fd := d.fd) rfl rfl nd hl
  rw [← hf] at F1 hlen hb
  exact y_raise T i1 i2 F1 (hr.mono k2) hb pass0 gl hm hc tk ha hdb he hpl hlen (by rw [hf, ← efs]; omega) hn
end Y

/-! Y41: a whole module. -/
namespace Y
open PySem PySem.Spec PyProof.Rows L2 NdefX
structure DefS where
  name : Str
  tab : Bool
  N : List Str
  fn : Fn
structure ModI where
  defs : List DefS
  lams : List LamI
  cls : List ClsI
  cst : List (Str × PyData)
  blt : List Str
  law : Nat
/-- a def's code object, its table -/
def codIn (K : PySem.W.Frag) (a : Addr) : Addr := match defP K a with
  | some p => (match p.cdv with
    | .ref c => c
    | _ => 0)
  | none => 0
def tabAt (K : PySem.W.Frag) (c : Addr) : Addr := match K.lookup c with
  | some ⟨_, _, .fields vs, _⟩ => (match vs.getD 11 .none with
    | .ref P => P
    | _ => 0)
  | _ => 0
def qualIn (K : PySem.W.Frag) (a : Addr) : Str := match defP K a with
  | some p => (p.qual ++ ".<locals>.") ++ "<lambda>"
  | none => ""
def tabsOf (K : PySem.W.Frag) : List DefS → List (Addr × Addr × Str)
  | [] => []
  | d :: r => if d.tab then (codIn K (adrIn K d.name), tabAt K (codIn K (adrIn K d.name)), qualIn K (adrIn K d.name)) :: tabsOf K r else tabsOf K r
noncomputable def fnsOf : Nat → List DefS → List (Str × Nat)
  | _, [] => []
  | i, d :: r => (d.name, i) :: fnsOf (i + 1) r
noncomputable def clsOf : Nat → List ClsI → List (Str × Nat × List Str)
  | _, [] => []
  | i, d :: r => (d.name, i, d.fs) :: clsOf (i + 1) r
noncomputable def ctxL (md : ModI) : Ctx := { N := [], caps := [], names := [], blk := false, fnc := fun _ => false, fns := fnsOf 0 md.defs, cst := md.cst, blt := md.blt, cls := clsOf 0 md.cls, lm := fun _ _ => false, tab := false, qual := "" }
noncomputable def lmB (md : ModI) (k : Nat) (t : LamT) : Bool := match nth md.lams k with
  | some l => okLam (ctxL md) l t
  | none => false
noncomputable def ctxM (md : ModI) : Ctx := { ctxL md with lm := lmB md }
noncomputable def gdOf (K : PySem.W.Frag) (md : ModI) (l0 : Str) : Gd where
  K := K
  fadr := fun i => match nth md.defs i with
    | some d => adrIn K d.name
    | none => adrIn K l0
  cadr := fun c => match nth md.cls c with
    | some d => adrIn K d.name
    | none => 0
  cfld := fun c => match nth md.cls c with
    | some d => d.fs
    | none => []
  cn := md.cls.length
  lam := fun k t => lmB md k t = true
  T := (tabsOf K md.defs).map fun p => (p.2.1, p.2.2)
noncomputable def progOf (md : ModI) : Prog := ⟨fun i => (nth md.defs i).map (·.fn), fun k => (nth md.lams k).map (·.lm)⟩
noncomputable def DefS.toI (K : PySem.W.Frag) (d : DefS) : DefI := ⟨adrIn K d.name, if d.tab then some (tabAt K (codIn K (adrIn K d.name))) else none, d.N, d.fn⟩
def cstU (K : PySem.W.Frag) (x : Str) (d : PyData) : Bool := match PySem.W.nsIn K mainGlobals x with
  | some (some (.int i _)) => (match d with
    | .int j => decide (i = j)
    | _ => false)
  | some (some (.str i _)) => (match d with
    | .str j => decide (i = j)
    | _ => false)
  | _ => false
def bltU (K : PySem.W.Frag) (x : Str) : Bool := match PySem.W.nsIn K mainGlobals x with
  | some none => true
  | _ => false
def exmB (K : PySem.W.Frag) (l : List ClsI) : List ClsI → Nat → Bool
  | [], _ => true
  | a :: r, i => exm1 K a i l 0 && exmB K l r (i + 1)
where exm1 (K : PySem.W.Frag) (a : ClsI) (i : Nat) : List ClsI → Nat → Bool
  | [], _ => true
  | b :: r, j => decide (PySem.W.exmOne K (.ref (adrIn K a.name)) (.ref (adrIn K b.name)) = some (decide (j = i))) && exm1 K a i r (j + 1)
def tabB1 (K : PySem.W.Frag) (ts : List Addr) (T : List (Addr × Addr × Str)) (p : Addr × Addr × Str) : Bool := memN p.2.1 ts && ((match K.lookup p.2.1 with
  | none => true
  | some _ => false) && (PySem.W.codeHdIn K p.1 p.2.1 && (!Nat.beq mainGlobals p.2.1 && T.all fun q => !Nat.beq q.2.1 p.2.1 || decide (q.2.2 = p.2.2))))
def noListB (K : PySem.W.Frag) : Bool := K.all fun p => match p.2.cls with
  | .type s => !decide (s = "list")
  | _ => true
noncomputable def okLaw (md : ModI) (d : DefS) (x : Str) (K : PySem.W.Frag) : Bool := (match defP K (adrIn K d.name) with
  | some p => decide (p.as.map (·.arg) = [x])
  | none => false)
noncomputable def okMod (K : PySem.W.Frag) (md : ModI) (ts : List Addr) : Bool :=
  (md.defs.all fun d => isRef K d.name && okDef K (ctxM md) (d.toI K)) && ((md.cls.all fun c => isRef K c.name && (okCls K (adrIn K c.name) c.fs && okIni K (adrIn K c.name) c.fs)) && (exmB K md.cls md.cls 0 && ((md.cst.all fun p => cstU K p.1 p.2) && ((md.blt.all fun x => bltU K x) &&
    (((tabsOf K md.defs).all (tabB1 K ts (tabsOf K md.defs))) && (noListB K && (match nth md.defs md.law with
    | some d => okLaw md d "script" K
    | none => false)))))))
section
variable {K : PySem.W.Frag} {md : ModI} {ts : List Addr} {mg : Str → Option Value}
theorem fns_ok : ∀ {l : List DefS} {n : Nat} {x : Str} {i : Nat}, (fnsOf n l).lookup x = some i → ∃ d, n ≤ i ∧ nth l (i - n) = some d ∧ d.name = x
  | [], n, x, i, h => by cases h
  | d :: r, n, x, i, h => by
    unfold fnsOf at h
    rw [List.lookup_cons] at h
    split at h
    · rename_i e
      cases h
      exact ⟨d, Nat.le_refl _, by rw [Nat.sub_self]; rfl, (beq_iff_eq.mp e).symm⟩
    · obtain ⟨d', h1, h2, h3⟩ := fns_ok h
      refine ⟨d', by omega, ?_, h3⟩
      have : i - n = (i - (n + 1)) + 1 := by omega
      rw [this]; exact h2
theorem cls_ok : ∀ {l : List ClsI} {n : Nat} {x : Str} {i : Nat} {fs : List Str}, (clsOf n l).lookup x = some (i, fs) → ∃ d, n ≤ i ∧ nth l (i - n) = some d ∧ d.name = x ∧ d.fs = fs
  | [], n, x, i, fs, h => by cases h
  | d :: r, n, x, i, fs, h => by
    unfold clsOf at h
    rw [List.lookup_cons] at h
    split at h
    · rename_i e
      cases h
      exact ⟨d, Nat.le_refl _, by rw [Nat.sub_self]; rfl, (beq_iff_eq.mp e).symm, rfl⟩
    · obtain ⟨d', h1, h2, h3⟩ := cls_ok h
      refine ⟨d', by omega, ?_, h3⟩
      have : i - n = (i - (n + 1)) + 1 := by omega
      rw [this]; exact h2
theorem exm1_ok {a : ClsI} {i : Nat} : ∀ {l : List ClsI} {j k : Nat} {b : ClsI}, exmB.exm1 K a i l j = true → l[k]? = some b → PySem.W.exmOne K (.ref (adrIn K a.name)) (.ref (adrIn K b.name)) = some (decide (j + k = i))
  | [], j, k, b, h, e => by simp at e
  | c :: r, j, k, b, h, e => by
    unfold exmB.exm1 at h
    rw [Bool.and_eq_true] at h
    cases k with
    | zero => simp at e; subst e; exact of_decide_eq_true h.1
    | succ k =>
      have := exm1_ok (k := k) h.2 (by simpa using e)
      rw [this, show j + 1 + k = j + (k + 1) by omega]
theorem exmB_ok {L : List ClsI} : ∀ {l : List ClsI} {n i j : Nat} {a b : ClsI}, exmB K L l n = true → l[i]? = some a → L[j]? = some b → PySem.W.exmOne K (.ref (adrIn K a.name)) (.ref (adrIn K b.name)) = some (decide (j = n + i))
  | [], n, i, j, a, b, h, e, _ => by simp at e
  | c :: r, n, i, j, a, b, h, e, e2 => by
    unfold exmB at h
    rw [Bool.and_eq_true] at h
    cases i with
    | zero =>
      simp at e; subst e
      have := exm1_ok (k := j) h.1 e2
      rw [this]; simp
    | succ i =>
      have := exmB_ok (i := i) h.2 (by simpa using e) e2
      rw [this, show n + 1 + i = n + (i + 1) by omega]
theorem cst_in {P : Program} {w : World} {base : Heap} {x : Str} {d : PyData} (h : cstU K x d = true) (hg : ∀ n v, PySem.W.nsIn K mainGlobals n = some (some v) → mg n = some v) : ∃ u v, mg x = some u ∧ RelV v u ∧ cstV d = some v := by
  unfold cstU at h
  split at h
  · rename_i i t e
    split at h
    · rename_i j
      have z := of_decide_eq_true h
      subst z
      exact ⟨_, .int i, hg _ _ e, ⟨t, rfl⟩, rfl⟩
    · cases h
  · rename_i i t e
    split at h
    · rename_i j
      have z := of_decide_eq_true h
      subst z
      exact ⟨_, .str i, hg _ _ e, ⟨t, rfl⟩, rfl⟩
    · cases h
  · cases h
theorem tabs_mem : ∀ {l : List DefS} {d : DefS}, d ∈ l → d.tab = true → (codIn K (adrIn K d.name), tabAt K (codIn K (adrIn K d.name)), qualIn K (adrIn K d.name)) ∈ tabsOf K l
  | d :: r, d', m, t => by
    unfold tabsOf
    rcases List.mem_cons.mp m with e | e
    · subst e
      rw [if_pos t]
      exact List.mem_cons_self
    · have := tabs_mem e t
      split
      · exact List.mem_cons_of_mem _ this
      · exact this
theorem lookup_any {α β : Type} [BEq α] {l : List (α × β)} {x : α} {y : β} (h : l.lookup x = some y) : ∃ x', (x', y) ∈ l ∧ (x == x') = true := by
  induction l with
  | nil => cases h
  | cons p r ih =>
    rw [List.lookup_cons] at h
    split at h
    · rename_i e
      cases h
      exact ⟨p.1, List.mem_cons_self, e⟩
    · obtain ⟨x', m, e⟩ := ih h
      exact ⟨x', List.mem_cons_of_mem _ m, e⟩
theorem noList {K : PySem.W.Frag} (h : noListB K = true) {a : Addr} {o : Obj} (e : K.lookup a = some o) : o.cls ≠ .type "list" := fun z => by
  obtain ⟨a', m, _⟩ := lookup_any e
  have q := List.all_eq_true.mp h (a', o) m
  dsimp only at q
  rw [z] at q
  simp at q
theorem mok {P : Program} {w : World} {base : Heap} {l0 : Str} (h : okMod K md ts = true) (hg : ∀ n v, PySem.W.nsIn K mainGlobals n = some (some v) → mg n = some v) (hn : ∀ n, PySem.W.nsIn K mainGlobals n = some none → mg n = none) (hl : ∃ d, nth md.defs md.law = some d ∧ d.name = l0)
    (Γ : Ctx) (g1 : Γ.fns = fnsOf 0 md.defs) (g2 : Γ.cst = md.cst) (g3 : Γ.blt = md.blt) (g4 : Γ.cls = clsOf 0 md.cls) (g5 : ∀ k t, Γ.lm k t = true → lmB md k t = true) : MOk ⟨P, w, K, mg, base⟩ (gdOf K md l0) Γ := by
  unfold okMod at h
  simp only [Bool.and_eq_true] at h
  obtain ⟨h1, h2, h3, h4, h5, h6, h7, h8⟩ := h
  have df : ∀ d ∈ md.defs, isRef K d.name = true ∧ okDef K (ctxM md) (d.toI K) = true := fun d m => by
    have q := List.all_eq_true.mp h1 d m
    rw [Bool.and_eq_true] at q
    exact q
  have isF : ∀ d ∈ md.defs, ∃ oc od fd osl, K.lookup (adrIn K d.name) = some ⟨oc, od, .func fd, osl⟩ := fun d m => by
    have q := (df d m).2
    unfold okDef at q
    cases hp : defP K (d.toI K).adr with
    | none => rw [hp] at q; cases q
    | some p => exact ⟨_, _, _, _, defP_ok hp⟩
  have memN_ : ∀ {i : Nat} {d : DefS}, nth md.defs i = some d → d ∈ md.defs := fun {i d} e => List.mem_of_getElem? (by rw [← nth_eq]; exact e)
  refine ⟨rfl, fun i => ?_, fun x i e => ?_, fun x d e => ?_, fun x e => ?_, fun x c fs e => ?_, fun c c' hc hc' => ?_, fun k t e => g5 k t e⟩
  · show ∃ oc od fd osl, K.lookup (match nth md.defs i with | some d => adrIn K d.name | none => adrIn K l0) = some ⟨oc, od, .func fd, osl⟩
    cases q : nth md.defs i with
    | some d => exact isF d (memN_ q)
    | none =>
      obtain ⟨d, e1, e2⟩ := hl
      rw [← e2]
      exact isF d (memN_ e1)
  · rw [g1] at e
    obtain ⟨d, _, e2, e3⟩ := fns_ok e
    rw [Nat.sub_zero] at e2
    show mg x = some (.ref (match nth md.defs i with | some d => adrIn K d.name | none => adrIn K l0))
    rw [e2, ← e3]
    exact hg _ _ (isRef_ok (df d (memN_ e2)).1)
  · rw [g2] at e
    obtain ⟨x', m, ex⟩ := lookup_any e
    have ex := beq_iff_eq.mp ex
    subst ex
    exact cst_in (P := P) (w := w) (base := base) (List.all_eq_true.mp h4 (x, d) m) hg
  · rw [g3] at e
    have q := List.all_eq_true.mp h5 x (memS_ok e)
    unfold bltU at q
    split at q
    · rename_i z; exact hn _ z
    · cases q
  · rw [g4] at e
    obtain ⟨d, _, e2, e3, e4⟩ := cls_ok e
    rw [Nat.sub_zero] at e2
    have m : d ∈ md.cls := List.mem_of_getElem? (by rw [← nth_eq]; exact e2)
    have q := List.all_eq_true.mp h2 d m
    simp only [Bool.and_eq_true] at q
    obtain ⟨q1, q2, q3⟩ := q
    have ea : (gdOf K md l0).cadr c = adrIn K d.name := by
      show (match nth md.cls c with | some d => adrIn K d.name | none => 0) = _
      rw [e2]
    have ef : (gdOf K md l0).cfld c = fs := by
      show (match nth md.cls c with | some d => d.fs | none => []) = _
      rw [e2]; exact e4
    rw [e4] at q2 q3
    refine cls_by ?_ ef ?_ (by rw [ea]; exact q2) (by rw [ea]; exact q3) hg
    · rw [ea, ← e3]; exact hg _ _ (isRef_ok q1)
    · rw [nth_eq] at e2
      exact (List.getElem?_eq_some_iff.mp e2).1
  · have hc : c < md.cls.length := hc
    have hc' : c' < md.cls.length := hc'
    have e1 : nth md.cls c = some (md.cls[c]) := by rw [nth_eq]; exact List.getElem?_eq_getElem hc
    have e2 : nth md.cls c' = some (md.cls[c']) := by rw [nth_eq]; exact List.getElem?_eq_getElem hc'
    show PySem.W.exmOne K (.ref (match nth md.cls c with | some d => adrIn K d.name | none => 0)) (.ref (match nth md.cls c' with | some d => adrIn K d.name | none => 0)) = _
    rw [e1, e2]
    have := exmB_ok (i := c) (j := c') h3 (List.getElem?_eq_getElem hc) (List.getElem?_eq_getElem hc')
    rw [Nat.zero_add] at this
    exact this
end
end Y

/-! Y42: the law's end. -/
namespace Y
open PySem PySem.Spec PyProof.Rows L2 NdefX
/-- the script as a value of the evaluator -/
noncomputable def scriptD (ns : List Int) : D := .p (.list (ns.map .int))
theorem mg_none' {K : PySem.W.Frag} {h : Heap} {mg : Str → Option Value} (KX : K.In h) (G : h.Ns mainGlobals mg) : ∀ n, PySem.W.nsIn K mainGlobals n = some none → mg n = none := fun n e => PySem.W.mg_none_of KX G e
/-- the law's call, from a run of the evaluator -/
theorem law_at {l : PySem.W.OpenLaw} {w : World} {K : PySem.W.Frag} {md : ModI} {n : Nat} {mg : Str → Option Value} {fa : Addr} {h : Heap} {ts : List Addr} {d : DefS}
    (hk : okMod K md ts = true) (KX : K.In h) (G : h.Ns mainGlobals mg) (hd : nth md.defs md.law = some d) (hfa : mg d.name = some (.ref fa)) (hts : ∀ P ∈ ts, h.get? P = some { cls := .none, data := .fields #[] })
    (hE : ∀ ns : List Int, ns.length ≤ 63 → (∀ z ∈ ns, Builtin.Int.intBits z ≤ 1048576) → ∃ h', runFn d.fn (CS (progOf md) n) [scriptD ns] [] = .ok (.p (.bool true)) h') :
    ∃ cs : List (Addr × Addr), (∀ p ∈ cs, h.get? p.2 = some { cls := .none, data := .fields #[] }) ∧ (∀ p ∈ cs, K.lookup p.2 = none) ∧ (∀ p ∈ cs, PySem.W.CodeHd h p.1 p.2) ∧ ∀ base : Heap, K.In base → base.Ns mainGlobals mg → (∀ p ∈ cs, LamX.TabB base mg p.1 p.2) →
      ∀ (s : Shared) (H : Hp) (a : Addr) (o : Obj) (ns : List Int), ns.length ≤ 63 → (∀ z ∈ ns, Builtin.Int.intBits z ≤ 1048576) → (∀ p ∈ cs, H p.2 = some (.tbl #[])) → H a = some (.frz o (.lst (ns.map V.int))) → Room (n + 3) callerA → Env0 l.prog w K mg base callerA [] s H →
        codeAny (model l.prog w) callerA (.call (.ref fa) ⟨[.ref a], []⟩) (CR (L2.CX l.prog w) [] l.prog w H s (fun v _ => v = .bl true) fun _ _ _ => False) s := by
  have ok := hk
  unfold okMod at ok
  simp only [Bool.and_eq_true] at ok
  obtain ⟨o1, o2, o3, o4, o5, o6, o7, o8⟩ := ok
  rw [hd] at o8
  dsimp only at o8
  unfold okLaw at o8
  have r4 := o8
  have dm : d ∈ md.defs := List.mem_of_getElem? (by rw [← nth_eq]; exact hd)
  have df := List.all_eq_true.mp o1 d dm
  rw [Bool.and_eq_true] at df
  have hg : ∀ (h' : Heap) (mg' : Str → Option Value), K.In h' → h'.Ns mainGlobals mg' → (∀ n v, PySem.W.nsIn K mainGlobals n = some (some v) → mg' n = some v) ∧ ∀ n, PySem.W.nsIn K mainGlobals n = some none → mg' n = none := fun h' mg' X' G' => ⟨fun n v e => PySem.W.mg_of X' G' e, fun n e => PySem.W.mg_none_of X' G' e⟩
  have ea : fa = adrIn K d.name := by
    have := (hg h mg KX G).1 _ _ (isRef_ok df.1)
    rw [hfa] at this
    cases this; rfl
  obtain ⟨p, hp, hps⟩ : ∃ p, defP K (adrIn K d.name) = some p ∧ p.as.map (·.arg) = [("script" : Str)] := by
    split at r4
    · rename_i p e
      exact ⟨p, e, of_decide_eq_true r4⟩
    · cases r4
  have tb := fun q (m : q ∈ tabsOf K md.defs) => (show tabB1 K ts (tabsOf K md.defs) q = true from List.all_eq_true.mp o6 q m)
  have tb' : ∀ q ∈ tabsOf K md.defs, q.2.1 ∈ ts ∧ K.lookup q.2.1 = none ∧ PySem.W.codeHdIn K q.1 q.2.1 = true ∧ mainGlobals ≠ q.2.1 ∧ ∀ q' ∈ tabsOf K md.defs, q'.2.1 = q.2.1 → q'.2.2 = q.2.2 := fun q m => by
    have z := tb q m
    unfold tabB1 at z
    simp only [Bool.and_eq_true] at z
    obtain ⟨z1, z2, z3, z4, z5⟩ := z
    refine ⟨memN_ok z1, ?_, z3, ?_, fun q' m' e => ?_⟩
    · split at z2
      · assumption
      · cases z2
    · intro e
      rw [← e] at z4
      simp at z4
    · have y := List.all_eq_true.mp z5 q' m'
      rw [Bool.or_eq_true] at y
      rcases y with y | y
      · rw [e] at y
        simp at y
      · exact of_decide_eq_true y
  have S8 : fscB d.N (p.as.map (·.arg)) p.scope = true := by
    have q := df.2
    unfold okDef at q
    rw [show (d.toI K).adr = adrIn K d.name from rfl, hp] at q
    dsimp only at q
    simp only [Bool.and_eq_true] at q
    exact q.2.1
  have nd : (p.as.map (·.arg)).Nodup := by rw [hps]; simp
  refine ⟨(tabsOf K md.defs).map fun q => (q.1, q.2.1), fun q m => ?_, fun q m => ?_, fun q m => ?_, fun base KB GB TB s H a o ns hl hb hT hS hr e0 => ?_⟩
  · obtain ⟨q', m', e⟩ := List.mem_map.mp m
    rw [← e]
    exact hts _ (tb' q' m').1
  · obtain ⟨q', m', e⟩ := List.mem_map.mp m
    rw [← e]
    exact (tb' q' m').2.1
  · obtain ⟨q', m', e⟩ := List.mem_map.mp m
    rw [← e]
    exact PySem.W.codeHd_of_K KX (tb' q' m').2.2.1
  · -- the def
    let M : Wd := ⟨l.prog, w, K, mg, base⟩
    have hgb := hg base mg KB GB
    have m := fun (Γ : Ctx) (g1 : Γ.fns = fnsOf 0 md.defs) (g2 : Γ.cst = md.cst) (g3 : Γ.blt = md.blt) (g4 : Γ.cls = clsOf 0 md.cls) (g5 : ∀ k t, Γ.lm k t = true → lmB md k t = true) => mok (P := l.prog) (w := w) (base := base) (l0 := d.name) hk hgb.1 hgb.2 ⟨d, hd, rfl⟩ Γ g1 g2 g3 g4 g5
    have mM : MOk M (gdOf K md d.name) (ctxM md) := m _ rfl rfl rfl rfl fun _ _ z => z
    have mL : MOk M (gdOf K md d.name) (ctxL md) := m _ rfl rfl rfl rfl fun _ _ z => by cases z
    have tabq : ∀ (d' : DefS), d' ∈ md.defs → ∀ (P : Addr) (p : DefP), (d'.toI K).tab = some P → defP K (adrIn K d'.name) = some p → ∀ c, p.cdv = .ref c → PySem.W.codeHdIn K c P = true →
        LamX.TabB base mg c P ∧ (P, (p.qual ++ ".<locals>.") ++ "<lambda>") ∈ (gdOf K md d.name).T ∧ ∀ q ∈ (gdOf K md d.name).T, q.1 = P → q.2 = (p.qual ++ ".<locals>.") ++ "<lambda>" := fun d' m' P p et ep c ec hh => by
      have t : d'.tab = true := by
        cases q : d'.tab with
        | true => rfl
        | false =>
          unfold DefS.toI at et
          rw [q] at et
          cases et
      have eP : P = tabAt K (codIn K (adrIn K d'.name)) := by
        unfold DefS.toI at et
        rw [t] at et
        cases et; rfl
      have ecod : codIn K (adrIn K d'.name) = c := by
        unfold codIn
        rw [ep]; dsimp only; rw [ec]
      have eq : qualIn K (adrIn K d'.name) = (p.qual ++ ".<locals>.") ++ "<lambda>" := by
        unfold qualIn
        rw [ep]
      have mem := tabs_mem (K := K) m' t
      rw [← eP, ecod, eq] at mem
      refine ⟨?_, List.mem_map.mpr ⟨_, mem, rfl⟩, fun q mq e => ?_⟩
      · have := TB (c, P) (List.mem_map.mpr ⟨_, mem, rfl⟩)
        exact this
      · obtain ⟨q', mq', e'⟩ := List.mem_map.mp mq
        rw [← e'] at e ⊢
        exact (tb' _ mem).2.2.2.2 q' mq' e
    have snd : ∀ i F, (progOf md).fn i = some F → FnSnd M (gdOf K md d.name) i F := fun i F e => by
      have e : (nth md.defs i).map (·.fn) = some F := e
      obtain ⟨d', e1, e2⟩ := Option.map_eq_some_iff.mp e
      subst e2
      have m' : d' ∈ md.defs := List.mem_of_getElem? (by rw [← nth_eq]; exact e1)
      have q := List.all_eq_true.mp o1 d' m'
      rw [Bool.and_eq_true] at q
      refine fn_snd mM (d := d'.toI K) ?_ q.2 (tabq d' m')
      show (match nth md.defs i with | some d => adrIn K d.name | none => adrIn K d.name) = _
      rw [e1]; rfl
    have lms : ∀ kk L, (progOf md).lm kk = some L → ∀ t, (gdOf K md d.name).lam kk t → LmSnd M (gdOf K md d.name) t L := fun kk L e t ht => by
      have e : (nth md.lams kk).map (·.lm) = some L := e
      obtain ⟨l', e1, e2⟩ := Option.map_eq_some_iff.mp e
      subst e2
      have ht : lmB md kk t = true := ht
      unfold lmB at ht
      rw [e1] at ht
      exact lm_snd mL ht
    have cc := cc_all snd lms n
    have okd : okDef K (ctxM md) (d.toI K) = true := df.2
    obtain ⟨h2, S, h5, h6, h7, h8, h9⟩ := fn_parts mM (d := d.toI K) okd hp fun P e c ec hh => tabq d dm P p e hp c ec hh
    have h1 := defP_ok hp
    rw [← ea] at h1
    obtain ⟨h', e⟩ := hE ns hl hb
    have tabs : LamX.Tabs (gdOf K md d.name).T H := fun q m => by
      obtain ⟨q', m', e⟩ := List.mem_map.mp m
      rw [← e]
      exact LamX.TabS.nil (hT (q'.1, q'.2.1) (List.mem_map.mpr ⟨q', m', rfl⟩))
    have fin : AftC (gdOf K md d.name) [] H (fun v _ => v = .bl true) (fun _ _ _ => False) (runFn d.fn (CS (progOf md) n) [scriptD ns] []) := by
      rw [e]
      intro μ' v H' g s' rd
      exact rd.bool'
    have pds : Pds K H (ns.map PyData.int) (ns.map V.int) := by
      clear hS hT hl hb e fin
      induction ns with
      | nil => exact .nil
      | cons x xs ih => exact .cons (.int x) ih
    have hrel : HRel (gdOf K md d.name) [] [] H := ⟨rfl, fun l l' b _ _ q1 q2 => by simp at q1, fun l o' b q1 q2 _ => by simp at q1, rfl, fun j l i b q _ => by simp at q, Nat.zero_le _, fun i x q => by simp at q, List.nodup_nil, tabs⟩
    have bd : BindsTo s p.fd ⟨[.ref a], []⟩ ((p.as.map (·.arg)).zip [.ref a]) := .of_eq (bind_plain (fd := p.fd) (us := [.ref a]) (as := p.as) rfl rfl nd (by rw [hps]; rfl))
    exact fn_run (M := M) h1 h2 S h5 h6 h7 h8 (fun X C r => h9 _ (n + 2) X C (by omega) cc r) (fun _ => bd) hr rfl e0 (show Vals [V.ref a] [Value.ref a] from .cons rfl .nil) hrel (.cons (.p (.lst hS pds)) .nil) fin
end Y

/-! Y43: the row's walk. -/
namespace Y
open PySem PySem.Spec PyProof.Rows L2 NdefX
/-- what is tracked at the law's entry: the script, the tables -/
noncomputable def entryH (a : Addr) (o : Obj) (xs : List V) (Ps : List Addr) : Hp := fun b => if b = a then some (.frz o (.lst xs)) else if memN b Ps then some (.tbl #[]) else none
section
variable {a b : Addr} {o : Obj} {xs : List V} {Ps : List Addr}
theorem entry_a : entryH a o xs Ps a = some (.frz o (.lst xs)) := if_pos rfl
theorem entry_t (h : b ∈ Ps) (n : b ≠ a) : entryH a o xs Ps b = some (.tbl #[]) := by
  unfold entryH
  have q : memN b Ps = true := List.any_eq_true.mpr ⟨b, h, Nat.beq_refl _⟩
  rw [if_neg n, if_pos q]
theorem entry_n (h : b ∉ Ps) (n : b ≠ a) : entryH a o xs Ps b = none := by
  unfold entryH
  rw [if_neg n, if_neg fun z => h (memN_ok z)]
theorem entry_some {u : HO} (h : entryH a o xs Ps b = some u) : (b = a ∧ u = .frz o (.lst xs)) ∨ (b ≠ a ∧ b ∈ Ps ∧ u = .tbl #[]) := by
  by_cases n : b = a
  · subst n
    rw [entry_a] at h
    cases h
    exact .inl ⟨rfl, rfl⟩
  · by_cases m : b ∈ Ps
    · rw [entry_t m n] at h
      cases h
      exact .inr ⟨n, m, rfl⟩
    · rw [entry_n m n] at h
      cases h
end
theorem law_call {P : Program} {w : World} {K : PySem.W.Frag} {mg mb : Str → Option Value} {CT : CXT} {fa a : Addr} {tbs : List (Addr × Addr)} {s : Shared} {vs : List Value} {ns : List Int}
    (inK : K.In s.heap) (glob : s.heap.Ns mainGlobals mg) (blt : s.heap.Ns builtinsNs mb) (boot : ∀ x : Str, x ≠ "__name__" → mb x = bootBuiltins x) (nolim : s.heap.NoLimit) (gens : s.gens = #[]) (nl : noListB K = true)
    (tE : ∀ p ∈ tbs, s.heap.get? p.2 = some { cls := .none, data := .fields #[] }) (tK : ∀ p ∈ tbs, K.lookup p.2 = none) (tC : ∀ p ∈ tbs, PySem.W.CodeHd s.heap p.1 p.2)
    (bmod : ∃ (bm : Addr) (ob : Obj), mg "__builtins__" = some (.ref bm) ∧ bm ≠ builtinsNs ∧ s.heap.get? bm = some ob ∧ ob.cls = .type "module" ∧ ob.dict = some builtinsNs ∧ ob.data = .plain)
    (lst : s.heap.get? a = some { cls := .type "list", data := .seq vs.toArray }) (hints : IntsAre vs ns) (len : ns.length ≤ sizeLine)
    (run : ∀ base : Heap, K.In base → base.Ns mainGlobals mg → (∀ p ∈ tbs, LamX.TabB base mg p.1 p.2) → ∀ (H : Hp) (o : Obj), (∀ p ∈ tbs, H p.2 = some (.tbl #[])) → H a = some (.frz o (.lst (ns.map V.int))) → Env0 P w K mg base callerA [] s H →
      codeAny (model P w) callerA (.call (.ref fa) ⟨[.ref a], []⟩) (CR CT [] P w H s (fun v _ => v = .bl true) fun _ _ _ => False) s)
    (noX : ∀ H e s', CT [] H s (fun _ _ _ => False) e s' → False) :
    codeAny (model P w) callerA (.call (.ref fa) ⟨[.ref a], []⟩) (fun r s' => r = .ok (.ret (.bool true)) ∧ OldK s.heap s'.heap ∧ s'.os = s.os ∧ AllBare s'.gens) s := by
  have vi := vals_ints hints
  have Pmem : ∀ {p : Addr × Addr}, p ∈ tbs → p.2 ∈ tbs.map (·.2) := fun {p} m => List.mem_map.mpr ⟨p, m, rfl⟩
  have Pobj : ∀ {b : Addr}, b ∈ tbs.map (·.2) → ∃ p ∈ tbs, p.2 = b := fun {b} m => by
    obtain ⟨p, hp, e⟩ := List.mem_map.mp m
    exact ⟨p, hp, e⟩
  have Pna : ∀ {p : Addr × Addr}, p ∈ tbs → p.2 ≠ a := fun {p} m e => by
    have q := tE p m
    rw [e, lst] at q
    have q2 := congrArg Obj.data (Option.some.inj q)
    cases q2
  have aK : K.lookup a = none := by
    cases q : K.lookup a with
    | none => rfl
    | some o =>
      have e := inK a o q
      rw [lst] at e
      cases e
      exact absurd rfl (noList nl q)
  let H : Hp := entryH a { cls := .type "list", data := .seq vs.toArray } (ns.map V.int) (tbs.map (·.2))
  have Ht : ∀ p ∈ tbs, H p.2 = some (.tbl #[]) := fun p m => entry_t (Pmem m) (Pna m)
  have Hok : HOk P w H s.heap := fun b u e => by
    rcases entry_some e with ⟨rfl, rfl⟩ | ⟨_, m, rfl⟩
    · exact ⟨lst, by rw [List.length_map]; exact len, vs, _, vi, lst⟩
    · obtain ⟨p, hp, rfl⟩ := Pobj m
      exact tE p hp
  -- what is neither a sequence nor an empty record is untracked
  have free : ∀ {b : Addr} {o : Obj}, s.heap.get? b = some o → (∀ xs k, o.data ≠ .seq xs k) → o.data ≠ .fields #[] → H b = none := fun {b o} e n1 n2 => by
    cases q : H b with
    | none => rfl
    | some u =>
      rcases entry_some q with ⟨rfl, _⟩ | ⟨_, m, _⟩
      · rw [lst] at e
        cases e
        exact absurd rfl (n1 _ _)
      · obtain ⟨p, hp, rfl⟩ := Pobj m
        rw [tE p hp] at e
        cases e
        exact absurd rfl n2
  have stay : ∀ {b : Addr} {o : Obj}, s.heap.get? b = some o → H b = none → (hidT s.heap H).get? b = some o := fun e n => hidT_get e n
  have dictFree : ∀ {b : Addr} {o : Obj} {es : Array DictEntry} {k : Nat}, s.heap.get? b = some o → o.data = .dict es k → H b = none := fun {b o es k} e d =>
    free e (fun xs k' z => by rw [d] at z; cases z) fun z => by rw [d] at z; cases z
  have nsB : ∀ {b : Addr} {m : Str → Option Value}, s.heap.Ns b m → (hidT s.heap H).Ns b m := fun {b m} z => by
    obtain ⟨o, es, k, e, d, r⟩ := z
    exact ⟨o, es, k, stay e (dictFree e d), d, r⟩
  have KB : K.In (hidT s.heap H) := fun b o e => stay (inK b o e) <| by
    cases q : H b with
    | none => rfl
    | some u =>
      rcases entry_some q with ⟨rfl, _⟩ | ⟨_, m, _⟩
      · rw [aK] at e; cases e
      · obtain ⟨p, hp, rfl⟩ := Pobj m
        rw [tK p hp] at e; cases e
  have TB : ∀ p ∈ tbs, LamX.TabB (hidT s.heap H) mg p.1 p.2 := fun p hp => by
    have eT := tE p hp
    refine ⟨?_, ?_, fun z => ?_⟩
    · obtain ⟨o, us, f1, f2, f3, f4, f5, f6, f7, c1, c2, c3, c4⟩ := tC p hp
      refine ⟨o, us, f1, f2, f3, f4, f5, f6, f7, stay c1 (free c1 (fun xs k z => ?_) fun z => ?_), c2, c3, c4⟩
      · rw [c3] at z; cases z
      · rw [c3] at z; cases z
        have := c4.1
        simp at this
    · obtain ⟨bm, ob, b1, b2, b3, b4, b5, b6⟩ := bmod
      refine ⟨bm, ob, b1, b2, fun q => ?_, fun q => ?_, stay b3 (free b3 (fun xs k z => ?_) fun z => ?_), b4, b5, b6⟩
      · obtain ⟨o, es, k, e, d, _⟩ := glob
        rw [q, e] at b3; cases b3
        rw [d] at b6; cases b6
      · rw [q, eT] at b3; cases b3
        cases b6
      · rw [b6] at z; cases z
      · rw [b6] at z; cases z
    · obtain ⟨o, es, k, e, d, _⟩ := glob
      rw [z, eT] at e; cases e
      cases d
  have nlB : (hidT s.heap H).NoLimit := by
    obtain ⟨mc, q1, q2⟩ := nolim
    exact ⟨mc, nsB q1, q2⟩
  have md : L2.Mod K mg (hidT s.heap H) := ⟨KB, nsB glob, ⟨mb, nsB blt, boot⟩, nlB⟩
  have env : Env0 P w K mg (hidT s.heap H) callerA [] s H := by
    refine ⟨rfl, md, fun b o e => of_hidT e, Nat.le_of_eq (hidT_size _ _), trivial, fun b hb => ?_, Hok, .of_eq gens⟩
    cases hb
  refine codeAny_mono (run _ KB (nsB glob) TB H _ Ht entry_a env) fun r s' h => ?_
  cases r with
  | error e => exact (noX H e s' h).elim
  | ok fl =>
    cases fl with
    | ret u =>
      obtain ⟨v, H', os, bare, un, ok', ru, ev⟩ := h
      have ev : v = .bl true := ev
      subst ev
      have eu : u = Value.bool true := ru
      subst eu
      have old : ∀ (b : Addr) (o : Obj), b ∉ tbs.map (·.2) → s.heap.get? b = some o → s'.heap.get? b = some o := fun b o nb e => by
        by_cases ea : b = a
        · subst ea
          have z := un.frzs b _ _ (entry_a (Ps := tbs.map (·.2)))
          have z1 := (ok' b _ z).1
          rw [lst] at e
          cases e
          exact z1
        · exact un.keep b o e (entry_n nb ea) (fun z => by cases z) (by simp)
      have more : ∀ p ∈ tbs, ∃ ms : Array Value, s'.heap.get? p.2 = some { cls := .none, data := .fields ms } := fun p hp => by
        obtain ⟨ms, z⟩ := un.tbls p.2 #[] (Ht p hp)
        rw [Array.empty_append] at z
        exact ⟨ms, ok' p.2 _ z⟩
      refine ⟨rfl, ⟨fun b o e => ?_, fun b o e => ?_⟩, os, bare⟩
      · by_cases m : b ∈ tbs.map (·.2)
        · obtain ⟨p, hp, rfl⟩ := Pobj m
          obtain ⟨ms, z⟩ := more p hp
          rw [tE p hp] at e
          cases e
          refine .inr (.inl ⟨((tC p hp).tab (tE p hp)).isCodeTable, rfl, #[], ms, rfl, ?_⟩)
          rw [Array.empty_append]; exact z
        · exact .inl (old b o m e)
      · by_cases m : b ∈ tbs.map (·.2)
        · obtain ⟨p, hp, rfl⟩ := Pobj m
          obtain ⟨ms, z⟩ := more p hp
          exact ⟨_, z⟩
        · exact ⟨o, old b o m e⟩
    | next => exact h.elim
    | brk => exact h.elim
    | cont => exact h.elim
/-- a row's walk, from a look at the top and a run of the evaluator -/
theorem law_walk {l : PySem.W.OpenLaw} {n : Nat} {md : ModI} {q : Program} {loose : List Str} {XP : (Str → Option Value) → Heap → Prop} {K : Params → PySem.W.Frag} {as : List Addr} {eas : ∀ P, as = (K P).map (·.1)} {ts : List Addr} {d : DefRec} {ds : DefS}
    (hn : l.most = some 63) (hdf : d.params.defaults = []) (hr : Room (n + 3) callerA) (hd : nth md.defs md.law = some ds) (hnm : d.name = ds.name) (ok : ∀ P, okMod (K P) md ts = true)
    (hE : ∀ ns : List Int, ns.length ≤ 63 → (∀ z ∈ ns, Builtin.Int.intBits z ≤ 1048576) → ∃ h', runFn ds.fn (CS (progOf md) n) [scriptD ns] [] = .ok (.p (.bool true)) h') :
    PySem.W.WalkO q loose XP (PySem.W.kmHook K as eas ts).says l.row.toRowW d [] (fun f vs => PySem.call f vs) := by
  refine Att.attach_callB hn hdf fun w s₀ s mg mb fa o pm cd doc a vs ns G Y ho hd' hcd hmg hobj hints hlen hbits hg => ?_
  have inK := PySem.W.km_in_of Y
  have okK := ok w.params
  obtain ⟨tbs, t1, t2, t3, run⟩ := law_at (l := l) (w := w) (n := n) okK inK G.T.g hd (by rw [← hnm]; exact hmg) (fun P m => PySem.W.km_tabs_of Y P m) hE
  have nl : noListB (K w.params) = true := by
    unfold okMod at okK
    simp only [Bool.and_eq_true] at okK
    exact okK.2.2.2.2.2.2.1
  exact law_call inK G.T.g G.T.b G.T.builtins G.T.nolimit hg nl t1 t2 t3 G.T.bmain hobj hints (Nat.le_trans hlen (by rw [sizeLine_eq]; decide)) (fun base KB GB TB H o hT hS e0 => run base KB GB TB s H a o ns hlen hbits hT hS hr e0) fun H e s' h => by
    obtain ⟨_, _, _, _, _, _, _, _, _, _, _, _, z⟩ := h
    exact z
end Y

/-! Y44: runs of the evaluator: small facts; the pen. -/
namespace Y
open PySem
noncomputable abbrev iD (i : Int) : D := .p (.int i)
noncomputable abbrev sD (x : Str) : D := .p (.str x)
noncomputable abbrev iT (xs : List Int) : D := .p (.tuple (xs.map .int))
noncomputable abbrev iL (xs : List Int) : D := .p (.list (xs.map .int))
noncomputable abbrev iO (xs : List Int) : Ob := .lst (xs.map iD)
/-! ### operators on ints -/
section
variable (h : Hh) (i j : Int)
theorem bin_add : binV .add (iD i) (iD j) = some (iD (i + j)) := rfl
theorem bin_sub : binV .sub (iD i) (iD j) = some (iD (i - j)) := rfl
theorem bin_mul (h1 : -18446744073709551616 < i) (h2 : i < 18446744073709551616) : binV .mul (iD i) (iD j) = some (iD (i * j)) := by
  have e : small64 i = true := by unfold small64; exact Nat.ble_eq.mpr (by omega)
  simp only [binV, intBop, mulOk, e, Bool.true_or, if_true, pint]
theorem bin_mul' (h1 : -18446744073709551616 < j) (h2 : j < 18446744073709551616) : binV .mul (iD i) (iD j) = some (iD (i * j)) := by
  have e : small64 j = true := by unfold small64; exact Nat.ble_eq.mpr (by omega)
  simp only [binV, intBop, mulOk, e, Bool.true_or, Bool.or_true, if_true, pint]
theorem log2_small {n : Nat} (h : n < 18446744073709551616) : n.log2 < 9000 := by
  by_cases z : n = 0
  · subst z; decide
  · have := (Nat.log2_lt z (k := 64)).mpr (by simpa using h)
    omega
theorem bin_fdiv (h1 : 0 < j) (h2 : j < 18446744073709551616) : binV .fdiv (iD i) (iD j) = some (iD (i / j)) := by
  have e1 : decide (0 < j) = true := decide_eq_true h1
  have e2 : decide (j.natAbs.log2 < 9000) = true := decide_eq_true (log2_small (by omega))
  simp only [binV, intBop, e1, e2, Bool.and_self, if_true, pint]
theorem bin_mod (h1 : 0 < j) : binV .mod (iD i) (iD j) = some (iD (i % j)) := by
  simp only [binV, intBop, h1, if_true, pint]
theorem bin_pow (n : Nat) (h1 : -18446744073709551616 < i) (h2 : i < 18446744073709551616) (h3 : n ≤ 1000000) : binV .pow (iD i) (iD (n : Int)) = some (iD (i ^ n)) := by
  have e1 : decide ((0 : Int) ≤ n) = true := decide_eq_true (by omega)
  have e2 : decide ((n : Int) ≤ 1000000) = true := decide_eq_true (by omega)
  have e3 : Nat.blt i.natAbs 18446744073709551616 = true := Nat.ble_eq.mpr (by omega)
  simp only [binV, intBop, e1, e2, e3, Bool.and_self, if_true, pint, Int.toNat_natCast]
theorem neg_i : negV (iD i) = some (iD (-i)) := rfl
theorem cmp_lt : cmpV .lt h (iD i) (iD j) = some (decide (i < j)) := rfl
theorem cmp_le : cmpV .le h (iD i) (iD j) = some (decide (i ≤ j)) := rfl
theorem cmp_gt : cmpV .gt h (iD i) (iD j) = some (decide (j < i)) := rfl
theorem cmp_ge : cmpV .ge h (iD i) (iD j) = some (decide (j ≤ i)) := rfl
theorem cmp_eq : cmpV .eq h (iD i) (iD j) = some (decide (i = j)) := rfl
theorem cmp_ne : cmpV .ne h (iD i) (iD j) = some (!decide (i = j)) := rfl
theorem tru_b (b : Bool) : truthV h (bl b) = some b := rfl
theorem tru_p (b : Bool) : truthV h (.p (.bool b)) = some b := rfl
theorem tru_i : truthV h (iD i) = some (i != 0) := rfl
theorem pr_int : prV .int h [iD i] = some (iD i) := rfl
theorem pr_min2 : prV .min2 h [iD i, iD j] = some (iD (if j < i then j else i)) := rfl
theorem pr_max2 : prV .max2 h [iD i, iD j] = some (iD (if j > i then j else i)) := rfl
theorem pr_abs : prV .abs h [iD i] = some (iD (if i < 0 then -i else i)) := rfl
end
/-! ### what holds behind a run -/
def OW {α : Type} (o : Option α) (k : α → Prop) : Prop := match o with
  | some a => k a
  | none => False
def TW (o : Option Bool) (A B : Prop) : Prop := match o with
  | some true => A
  | some false => B
  | none => False
abbrev XP := Nat → List D → Hh → Prop
def EW {α : Type} (m : Res α) (Q : α → Hh → Prop) (X : XP) : Prop := match m with
  | .ok a h => Q a h
  | .exn c fs h => X c fs h
  | .bad => False
structure Ps where
  nx : Rho → Hh → Prop
  rt : D → Hh → Prop
  bk : Rho → Hh → Prop
  ct : Rho → Hh → Prop
  xn : XP
def SW (m : SR) (P : Ps) : Prop := match m with
  | .nx r h => P.nx r h
  | .rt d h => P.rt d h
  | .bk r h => P.bk r h
  | .ct r h => P.ct r h
  | .exn c fs _ h => P.xn c fs h
  | .bad => False
theorem ow_some {α : Type} (a : α) (k : α → Prop) : OW (some a) k = k a := rfl
theorem tw_dec (p : Prop) [Decidable p] (A B : Prop) : TW (some (decide p)) A B = ((p → A) ∧ (¬ p → B)) := by
  by_cases h : p <;> simp [TW, h]
theorem tw_ndec (p : Prop) [Decidable p] (A B : Prop) : TW (some (!decide p)) A B = ((p → B) ∧ (¬ p → A)) := by
  by_cases h : p <;> simp [TW, h]
theorem tw_t (A B : Prop) : TW (some true) A B = A := rfl
theorem tw_f (A B : Prop) : TW (some false) A B = B := rfl
theorem EW.mono {α : Type} {m : Res α} {Q Q' : α → Hh → Prop} {X X' : XP} (h : EW m Q X) (q : ∀ a h, Q a h → Q' a h) (x : ∀ c fs h, X c fs h → X' c fs h) : EW m Q' X' := by
  cases m with
  | ok a h' => exact q _ _ h
  | exn c fs h' => exact x _ _ _ h
  | bad => exact h
theorem EW.ok {α : Type} {m : Res α} {Q : α → Hh → Prop} (h : EW m Q fun _ _ _ => False) : ∃ a h', m = .ok a h' ∧ Q a h' := by
  cases m with
  | ok a h' => exact ⟨a, h', rfl, h⟩
  | exn c fs h' => exact h.elim
  | bad => exact h.elim
theorem SW.mono {m : SR} {P P' : Ps} (h : SW m P) (a : ∀ r h, P.nx r h → P'.nx r h) (b : ∀ d h, P.rt d h → P'.rt d h) (c : ∀ r h, P.bk r h → P'.bk r h) (d : ∀ r h, P.ct r h → P'.ct r h) (e : ∀ c fs h, P.xn c fs h → P'.xn c fs h) : SW m P' := by
  cases m with
  | nx r h' => exact a _ _ h
  | rt x h' => exact b _ _ h
  | bk r h' => exact c _ _ h
  | ct r h' => exact d _ _ h
  | exn x y r h' => exact e _ _ _ h
  | bad => exact h
theorem ew_bind {α β : Type} (m : Res α) (f : α → Hh → Res β) (Q : β → Hh → Prop) (X : XP) : EW (m.bind f) Q X = EW m (fun a h => EW (f a h) Q X) X := by cases m <;> rfl
theorem ew_opt {α : Type} (o : Option α) (h : Hh) (Q : α → Hh → Prop) (X : XP) : EW (opt o h) Q X = OW o fun a => Q a h := by cases o <;> rfl
theorem ew_obl (o : Option Bool) (h : Hh) (Q : D → Hh → Prop) (X : XP) : EW (obl o h) Q X = OW o fun b => Q (bl b) h := by cases o <;> rfl
theorem ew_ok {α : Type} (a : α) (h : Hh) (Q : α → Hh → Prop) (X : XP) : EW (.ok a h) Q X = Q a h := rfl
theorem ew_exn {α : Type} (c : Nat) (fs : List D) (h : Hh) (Q : α → Hh → Prop) (X : XP) : EW (.exn c fs h) Q X = X c fs h := rfl
theorem sw_then {α : Type} (m : Res α) (r : Rho) (f : α → Hh → SR) (P : Ps) : SW (thenS m r f) P = EW m (fun a h => SW (f a h) P) P.xn := by cases m <;> rfl
section
variable (cs : CSem) (r : Rho) (h : Hh) (Q : D → Hh → Prop) (X : XP)
theorem e_v (i : Nat) : EW (ev (.v i) cs r h) Q X = OW (nth r.sl i) fun o => OW o fun d => Q d h := by
  show EW (kV i cs r h) Q X = _
  unfold kV
  cases nth r.sl i with
  | none => rfl
  | some o => cases o <;> rfl
theorem e_cv (j : Nat) : EW (ev (.cv j) cs r h) Q X = OW (nth r.cl j) fun l => OW (nth h l) fun o => match o with
    | .cell (some d) => Q d h
    | _ => False := by
  show EW (kCv j cs r h) Q X = _
  unfold kCv
  cases nth r.cl j with
  | none => rfl
  | some l =>
    simp only [ow_some]
    cases nth h l with
    | none => rfl
    | some o =>
      cases o with
      | cell d => cases d <;> rfl
      | _ => rfl
theorem e_c (d : PyData) : EW (ev (.c d) cs r h) Q X = Q (.p d) h := rfl
theorem e_g (x : Str) (d : PyData) : EW (ev (.g x d) cs r h) Q X = Q (.p d) h := rfl
theorem e_fv (i : Nat) : EW (ev (.fv i) cs r h) Q X = Q (.fn i) h := rfl
theorem e_bin (o : Bop) (a b : E) : EW (ev (.bin o a b) cs r h) Q X = EW (ev a cs r h) (fun x h1 => EW (ev b cs r h1) (fun y h2 => OW (binV o x y) fun z => Q z h2) X) X := by
  rw [ev_bin]; unfold kBin; simp only [ew_bind, ew_opt]
theorem e_neg (a : E) : EW (ev (.neg a) cs r h) Q X = EW (ev a cs r h) (fun x h1 => OW (negV x) fun z => Q z h1) X := by
  rw [ev_neg]; unfold kNeg; simp only [ew_bind, ew_opt]
theorem e_cmp (o : Cop) (a b : E) : EW (ev (.cmp o a b) cs r h) Q X = EW (ev a cs r h) (fun x h1 => EW (ev b cs r h1) (fun y h2 => OW (cmpV o h2 x y) fun z => Q (bl z) h2) X) X := by
  rw [ev_cmp]; unfold kCmp; simp only [ew_bind, ew_obl]
theorem e_chn (o1 o2 : Cop) (a b c : E) : EW (ev (.chn o1 o2 a b c) cs r h) Q X = EW (ev a cs r h) (fun x h1 => EW (ev b cs r h1) (fun y h2 => TW (cmpV o1 h2 x y) (EW (ev c cs r h2) (fun z h3 => OW (cmpV o2 h3 y z) fun k => Q (bl k) h3) X) (Q (bl false) h2)) X) X := by
  rw [ev_chn]; unfold kChn; simp only [ew_bind]
  congr 1; funext x h1; congr 1; funext y h2
  cases cmpV o1 h2 x y with
  | none => rfl
  | some k => cases k <;> simp only [ew_bind, ew_obl, ew_ok, tw_t, tw_f]
theorem e_and (a b : E) : EW (ev (.and a b) cs r h) Q X = EW (ev a cs r h) (fun x h1 => TW (truthV h1 x) (EW (ev b cs r h1) Q X) (Q x h1)) X := by
  rw [ev_and]; unfold kAnd; simp only [ew_bind]
  congr 1; funext x h1
  cases truthV h1 x with
  | none => rfl
  | some k => cases k <;> rfl
theorem e_or (a b : E) : EW (ev (.or a b) cs r h) Q X = EW (ev a cs r h) (fun x h1 => TW (truthV h1 x) (Q x h1) (EW (ev b cs r h1) Q X)) X := by
  rw [ev_or]; unfold kOr; simp only [ew_bind]
  congr 1; funext x h1
  cases truthV h1 x with
  | none => rfl
  | some k => cases k <;> rfl
theorem e_not (a : E) : EW (ev (.not a) cs r h) Q X = EW (ev a cs r h) (fun x h1 => OW (truthV h1 x) fun b => Q (bl (!b)) h1) X := by
  rw [ev_not]; unfold kNot; simp only [ew_bind]
  congr 1; funext x h1
  cases truthV h1 x <;> rfl
theorem e_ife (t a b : E) : EW (ev (.ife t a b) cs r h) Q X = EW (ev t cs r h) (fun x h1 => TW (truthV h1 x) (EW (ev a cs r h1) Q X) (EW (ev b cs r h1) Q X)) X := by
  rw [ev_ife]; unfold kIf; simp only [ew_bind]
  congr 1; funext x h1
  cases truthV h1 x with
  | none => rfl
  | some k => cases k <;> rfl
theorem e_tup (es : A) : EW (ev (.tup es) cs r h) Q X = EW (evs es cs r h) (fun ds h1 => Nat.ble ds.length LINE = true ∧ Q (mkTup ds) h1) X := by
  rw [ev_tup]; unfold kTup; simp only [ew_bind]
  congr 1; funext ds h1
  cases q : Nat.ble ds.length LINE <;> simp [EW]
theorem e_imm (l : L) : EW (ev (.imm l) cs r h) Q X = EW (evL l cs r h) (fun ds h1 => Q (mkLst ds) h1) X := by
  rw [ev_imm]; unfold kImm; simp only [ew_bind, ew_ok]
theorem e_mut (l : L) : EW (ev (.mut l) cs r h) Q X = EW (evL l cs r h) (fun ds h1 => Q (.ref h1.length) (h1 ++ [.lst ds])) X := by
  rw [ev_mut]; unfold kMut; simp only [ew_bind, ew_ok]
theorem e_ix (a b : E) : EW (ev (.ix a b) cs r h) Q X = EW (ev a cs r h) (fun x h1 => EW (ev b cs r h1) (fun y h2 => OW (ixV h2 x y) fun z => Q z h2) X) X := by
  rw [ev_ix]; unfold kIx; simp only [ew_bind, ew_opt]
theorem e_callT (f : Nat) (es : A) : EW (ev (.call true f es) cs r h) Q X = EW (evs es cs r h) (fun ds h1 => EW (isoCall cs f ds h1) Q X) X := by
  rw [ev_call]; unfold kCall; simp only [ew_bind]
theorem e_callF (f : Nat) (es : A) : EW (ev (.call false f es) cs r h) Q X = EW (evs es cs r h) (fun ds h1 => EW ((cs (.fn f) ds h1).back r.cl h1) Q X) X := by
  rw [ev_call]; unfold kCall; simp only [ew_bind]
theorem e_cval (a : E) (es : A) : EW (ev (.cval a es) cs r h) Q X = EW (ev a cs r h) (fun x h1 => isCal x = true ∧ EW (evs es cs r h1) (fun ds h2 => EW ((calV cs x ds h2).back r.cl h2) Q X) X) X := by
  rw [ev_cval]; unfold kCval; simp only [ew_bind]
  congr 1; funext x h1
  cases q : isCal x
  · simp [EW]
  · simp [ew_bind]
theorem e_pr (p : Pr) (es : A) : EW (ev (.pr p es) cs r h) Q X = EW (evs es cs r h) (fun ds h1 => OW (prV p h1 ds) fun z => Q z h1) X := by
  rw [ev_pr]; unfold kPr; simp only [ew_bind, ew_opt]
theorem e_mt (m : Mt) (o : E) (es : A) : EW (ev (.mt m o es) cs r h) Q X = EW (ev o cs r h) (fun x h1 => mkOk m h1 x = true ∧ EW (evs es cs r h1) (fun ds h2 => EW (mtV m h2 x ds) Q X) X) X := by
  rw [ev_mt]; unfold kMt; simp only [ew_bind]
  congr 1; funext x h1
  cases q : mkOk m h1 x
  · simp [EW]
  · simp [ew_bind]
theorem e_isi (a : E) (ts : List String) : EW (ev (.isi a ts) cs r h) Q X = EW (ev a cs r h) (fun x h1 => OW (isiV h1 x ts) fun b => Q (bl b) h1) X := by
  rw [ev_isi]; unfold kIsi; simp only [ew_bind, ew_obl]
theorem e_lam (k : Nat) (js : List Nat) : EW (ev (.lam k js) cs r h) Q X = OW (locs r.cl js) fun ls => Q (.clo k ls) h := by
  rw [ev_lam]; unfold kLam
  cases locs r.cl js <;> rfl
variable (QL : List D → Hh → Prop)
theorem a_nil : EW (evs .nil cs r h) QL X = QL [] h := rfl
theorem a_cons (a : E) (es : A) : EW (evs (.cons a es) cs r h) QL X = EW (ev a cs r h) (fun x h1 => EW (evs es cs r h1) (fun ds h2 => QL (x :: ds) h2) X) X := by
  rw [evs_cons]; unfold aCons; simp only [ew_bind, ew_ok]
theorem l_disp (es : A) : EW (evL (.disp es) cs r h) QL X = EW (evs es cs r h) (fun ds h1 => Nat.ble ds.length LINE = true ∧ QL ds h1) X := by
  rw [evL_disp]; unfold lDisp; simp only [ew_bind]
  congr 1; funext ds h1
  cases q : Nat.ble ds.length LINE <;> simp [EW]
theorem l_lof (a : E) : EW (evL (.lof a) cs r h) QL X = EW (ev a cs r h) (fun x h1 => OW (lofV h1 x) fun ds => QL ds h1) X := by
  rw [evL_lof]; unfold lLof; simp only [ew_bind, ew_opt]
theorem l_rep (a : L) (b : E) : EW (evL (.rep a b) cs r h) QL X = EW (evL a cs r h) (fun x h1 => EW (ev b cs r h1) (fun y h2 => OW (repV x y) fun ds => QL ds h2) X) X := by
  rw [evL_rep]; unfold lRep; simp only [ew_bind, ew_opt]
theorem l_cat (a b : E) : EW (evL (.cat a b) cs r h) QL X = EW (ev a cs r h) (fun x h1 => EW (ev b cs r h1) (fun y h2 => OW (catV h2 x y) fun ds => QL ds h2) X) X := by
  rw [evL_cat]; unfold lCat; simp only [ew_bind, ew_opt]
theorem l_srt (a : E) : EW (evL (.srt a) cs r h) QL X = EW (ev a cs r h) (fun x h1 => OW (srtV h1 x) fun ds => QL ds h1) X := by
  rw [evL_srt]; unfold lSrt; simp only [ew_bind, ew_opt]
theorem l_rev (a : E) : EW (evL (.rev a) cs r h) QL X = EW (ev a cs r h) (fun x h1 => OW (seqL h1 x) fun ds => QL ds.reverse h1) X := by
  rw [evL_rev]; unfold lRev; simp only [ew_bind]
  congr 1; funext x h1
  cases seqL h1 x <;> rfl
theorem l_comp (t : Tg) (it : I) (cond : O) (elt : E) : EW (evL (.comp t it cond elt) cs r h) QL X = EW (evI it cs r h) (fun w h1 => Nat.ble w.len LINE = true ∧ EW (compV w (compB cs t (evO cond) (ev elt) r) h1).calm QL X) X := by
  rw [evL_comp]; unfold lComp; simp only [ew_bind]
  congr 1; funext w h1
  cases q : Nat.ble w.len LINE <;> simp [EW]
variable (QW : Wk → Hh → Prop)
theorem i_it (a : E) : EW (evI (.it a) cs r h) QW X = EW (ev a cs r h) (fun x h1 => OW (walkV h1 x) fun w => QW w h1) X := by
  rw [evI_it]; unfold iIt; simp only [ew_bind, ew_opt]
theorem i_rng1 (a : E) : EW (evI (.rng1 a) cs r h) QW X = EW (ev a cs r h) (fun x h1 => OW (rngV1 (iD 0) x) fun w => QW w h1) X := by
  rw [evI_rng1]; unfold iRng1; simp only [ew_bind, ew_opt]
theorem i_rng2 (a b : E) : EW (evI (.rng2 a b) cs r h) QW X = EW (ev a cs r h) (fun x h1 => EW (ev b cs r h1) (fun y h2 => OW (rngV1 x y) fun w => QW w h2) X) X := by
  rw [evI_rng2]; unfold iRng2; simp only [ew_bind, ew_opt]
theorem i_rng3 (a b c : E) : EW (evI (.rng3 a b c) cs r h) QW X = EW (ev a cs r h) (fun x h1 => EW (ev b cs r h1) (fun y h2 => EW (ev c cs r h2) (fun z h3 => OW (rngV x y z) fun w => QW w h3) X) X) X := by
  rw [evI_rng3]; unfold iRng3; simp only [ew_bind, ew_opt]
theorem i_enu (a : E) : EW (evI (.enu a) cs r h) QW X = EW (ev a cs r h) (fun x h1 => OW (enuV x) fun w => QW w h1) X := by
  rw [evI_enu]; unfold iEnu; simp only [ew_bind, ew_opt]
theorem i_zip (a b : E) : EW (evI (.zip a b) cs r h) QW X = EW (ev a cs r h) (fun x h1 => EW (ev b cs r h1) (fun y h2 => OW (zipV x y) fun w => QW w h2) X) X := by
  rw [evI_zip]; unfold iZip; simp only [ew_bind, ew_opt]
variable (P : Ps)
theorem s_skip : SW (ex .skip cs r h) P = P.nx r h := rfl
theorem s_seq (a b : S) : SW (ex (.seq a b) cs r h) P = SW (ex a cs r h) { P with nx := fun r1 h1 => SW (ex b cs r1 h1) P } := by
  rw [ex_seq]; unfold sSeq
  cases ex a cs r h <;> rfl
theorem sw_asg (t : Tg) (x : D) : SW (asgS t x r h) P = OW (asgT t x r h) fun z => P.nx z.1 z.2 := by
  unfold asgS
  cases asgT t x r h <;> rfl
theorem s_asg (t : Tg) (e : E) : SW (ex (.asg t e) cs r h) P = EW (ev e cs r h) (fun x h1 => OW (asgT t x r h1) fun z => P.nx z.1 z.2) P.xn := by
  rw [ex_asg]; unfold sAsg; simp only [sw_then, sw_asg]
theorem s_aug (t : Tg) (o : Bop) (e : E) : SW (ex (.aug t o e) cs r h) P = OW (readT t r h) fun d => EW (ev e cs r h) (fun x h1 => OW (augV o d x) fun y => OW (asgT t y r h1) fun z => P.nx z.1 z.2) P.xn := by
  rw [ex_aug]; unfold sAug
  cases readT t r h with
  | none => rfl
  | some d =>
    simp only [sw_then, ow_some]
    congr 1; funext x h1
    cases augV o d x with
    | none => rfl
    | some y => simp only [sw_asg, ow_some]
theorem sw_nxO (o : Option Hh) : SW (nxO r o) P = OW o fun h' => P.nx r h' := by cases o <;> rfl
theorem s_set (o i e : E) : SW (ex (.set o i e) cs r h) P = EW (ev e cs r h) (fun x h1 => EW (ev o cs r h1) (fun y h2 => EW (ev i cs r h2) (fun z h3 => OW (setV h3 y z x) fun h4 => P.nx r h4) P.xn) P.xn) P.xn := by
  rw [ex_set]; unfold sSet; simp only [sw_then, sw_nxO]
theorem s_augs (o i : E) (op : Bop) (e : E) : SW (ex (.augs o i op e) cs r h) P = EW (ev o cs r h) (fun y h1 => EW (ev i cs r h1) (fun z h2 => OW (getV h2 y z) fun a => EW (ev e cs r h2) (fun x h3 => OW (augV op a x) fun b => OW (setV h3 y z b) fun h4 => P.nx r h4) P.xn) P.xn) P.xn := by
  rw [ex_augs]; unfold sAugs; simp only [sw_then]
  congr 1; funext y h1; congr 1; funext z h2
  cases getV h2 y z with
  | none => rfl
  | some a =>
    simp only [sw_then, ow_some]
    congr 1; funext x h3
    cases augV op a x with
    | none => rfl
    | some b => simp only [sw_nxO, ow_some]
theorem s_ex (e : E) : SW (ex (.ex e) cs r h) P = EW (ev e cs r h) (fun _ h1 => P.nx r h1) P.xn := by
  rw [ex_ex]; unfold sEx; simp only [sw_then]; rfl
theorem s_ret (e : E) : SW (ex (.ret e) cs r h) P = EW (ev e cs r h) P.rt P.xn := by
  rw [ex_ret]; unfold sRet; simp only [sw_then]; rfl
theorem s_retn : SW (ex .retn cs r h) P = P.rt (.p .none) h := rfl
theorem s_ite (c : E) (a b : S) : SW (ex (.ite c a b) cs r h) P = EW (ev c cs r h) (fun x h1 => TW (truthV h1 x) (SW (ex a cs r h1) P) (SW (ex b cs r h1) P)) P.xn := by
  rw [ex_ite]; unfold sIte testE; simp only [sw_then, ew_bind, ew_opt]
  congr 1; funext x h1
  cases truthV h1 x with
  | none => rfl
  | some k => cases k <;> rfl
theorem s_for (t : Tg) (it : I) (b : S) : SW (ex (.for_ t it b) cs r h) P = EW (evI it cs r h) (fun w h1 => SW (forV w (ex b cs) t r h1) P) P.xn := by
  rw [ex_for_]; unfold sFor; simp only [sw_then]
theorem s_while (c : E) (b : S) : SW (ex (.while_ c b) cs r h) P = SW (whileF (testE cs (ev c)) (ex b cs) FUEL r h) P := rfl
theorem s_brk : SW (ex .brk cs r h) P = P.bk r h := rfl
theorem s_cnt : SW (ex .cnt cs r h) P = P.ct r h := rfl
theorem s_raise (c : Nat) (es : A) : SW (ex (.raise c es) cs r h) P = EW (evs es cs r h) (fun ds h1 => P.xn c ds h1) P.xn := by
  rw [ex_raise]; unfold sRaise; simp only [sw_then]; rfl
theorem s_frz (i : Nat) : SW (ex (.frz i) cs r h) P = OW (frzV i r h) fun z => P.nx z.1 z.2 := by
  rw [ex_frz]; unfold sFrz
  cases frzV i r h <;> rfl
end
/-! ### loops -/
theorem sw_forL {body : Rho → Hh → SR} {t : Tg} {P : Ps} (Iv : Nat → Rho → Hh → Prop) {xs : List D} {r : Rho} {h : Hh} (h0 : Iv 0 r h)
    (hs : ∀ (i : Nat) (x : D) (r : Rho) (h : Hh), xs[i]? = some x → Iv i r h → OW (asgT t x r h) fun z => SW (body z.1 z.2) { nx := fun r2 h2 => Iv (i + 1) r2 h2, ct := fun r2 h2 => Iv (i + 1) r2 h2, bk := P.nx, rt := P.rt, xn := P.xn })
    (hd : ∀ r h, Iv xs.length r h → P.nx r h) : SW (forL body t xs r h) P := by
  have key : ∀ (ys : List D) (i : Nat) (r : Rho) (h : Hh), xs.drop i = ys → i ≤ xs.length → Iv i r h → SW (forL body t ys r h) P := by
    intro ys
    induction ys with
    | nil =>
      intro i r h e hi hv
      have : i = xs.length := by
        have := congrArg List.length e
        rw [List.length_drop] at this
        simp at this
        omega
      subst this
      exact hd r h hv
    | cons y ys ih =>
      intro i r h e hi hv
      have hx : xs[i]? = some y := by
        have := congrArg (fun l => l[0]?) e
        simpa using this
      have e2 : xs.drop (i + 1) = ys := by
        rw [← List.drop_drop, e]; rfl
      have hl : i < xs.length := (List.getElem?_eq_some_iff.mp hx).1
      have q := hs i y r h hx hv
      unfold forL
      cases qa : asgT t y r h with
      | none => rw [qa] at q; exact q.elim
      | some z =>
        rw [qa] at q
        replace q : SW (body z.1 z.2) _ := q
        show SW (turnS (body z.1 z.2) (forL body t ys)) P
        cases qb : body z.1 z.2 with
        | nx r2 h2 => rw [qb] at q; exact ih (i + 1) r2 h2 e2 hl q
        | ct r2 h2 => rw [qb] at q; exact ih (i + 1) r2 h2 e2 hl q
        | bk r2 h2 => rw [qb] at q; exact q
        | rt d h2 => rw [qb] at q; exact q
        | exn c fs r2 h2 => rw [qb] at q; exact q
        | bad => rw [qb] at q; exact q
  exact key xs 0 r h rfl (Nat.zero_le _) h0
theorem rangeI_at {lo c : Int} {n i : Nat} {x : D} (e : (rangeI lo n c)[i]? = some x) : i < n ∧ x = iD (lo + i * c) := by
  unfold rangeI at e
  rw [List.getElem?_map] at e
  obtain ⟨k, e1, e2⟩ := Option.map_eq_some_iff.mp e
  have hl := (List.getElem?_eq_some_iff.mp e1).1
  rw [List.length_range] at hl
  rw [List.getElem?_range hl] at e1
  cases e1
  exact ⟨hl, e2.symm⟩
theorem rangeI_len {lo c : Int} {n : Nat} : (rangeI lo n c).length = n := by unfold rangeI; rw [List.length_map, List.length_range]
/-- a loop over a range by ones -/
theorem sw_rng {body : Rho → Hh → SR} {t : Tg} {P : Ps} (Iv : Nat → Rho → Hh → Prop) {i j : Int} {r : Rho} {h : Hh} (hi : -4611686018427387904 < i ∧ i < 4611686018427387904) (hj : -4611686018427387904 < j ∧ j < 4611686018427387904) (h0 : Iv 0 r h)
    (hs : ∀ (k : Nat) (r : Rho) (h : Hh), k < (j - i).toNat → Iv k r h → OW (asgT t (iD (i + k)) r h) fun z => SW (body z.1 z.2) { nx := fun r2 h2 => Iv (k + 1) r2 h2, ct := fun r2 h2 => Iv (k + 1) r2 h2, bk := P.nx, rt := P.rt, xn := P.xn })
    (hd : ∀ r h, Iv (j - i).toNat r h → P.nx r h) : OW (rngV1 (iD i) (iD j)) fun w => SW (forV w body t r h) P := by
  have e : rngV1 (iD i) (iD j) = some (.fx (rangeI i (j - i).toNat 1)) := by
    have s1 : small62 i = true := by unfold small62; exact Nat.ble_eq.mpr (by omega)
    have s2 : small62 j = true := by unfold small62; exact Nat.ble_eq.mpr (by omega)
    simp only [rngV1, s1, s2, Bool.and_self, if_true]
  rw [e]
  refine sw_forL Iv h0 (fun k x r h hx hv => ?_) fun r h hv => hd r h (by rw [rangeI_len] at hv; exact hv)
  obtain ⟨hk, rfl⟩ := rangeI_at hx
  rw [Int.mul_one]
  exact hs k r h hk hv
/-! ### calls -/
theorem fn_run1 {F : Fn} {cs : CSem} {ds : List D} {h : Hh} {Q : D → Hh → Prop} {X : XP} (hp : Nat.beq ds.length F.np = true) (hc : F.cut = false) (h0 : F.caps = []) (hb : SW (ex F.body cs (frameF F ds h.length) h) { nx := fun _ h => Q (.p .none) h, rt := Q, bk := fun _ _ => False, ct := fun _ _ => False, xn := X }) : EW (runFn F cs ds h) Q X := by
  unfold runFn
  rw [if_pos hp, hc, h0]
  dsimp only
  cases q : ex F.body cs (frameF F ds h.length) h <;> rw [q] at hb <;> exact hb
theorem CS_fn {P : Prog} {n i : Nat} {F : Fn} (hf : P.fn i = some F) (ds : List D) (h : Hh) : CS P (n + 1) (.fn i) ds h = runFn F (CS P n) ds h := by
  show (match P.fn i with | some F => runFn F (CS P n) ds h | none => .bad) = _
  rw [hf]
/-- a call of plain values alone sees an empty heap -/
theorem refs_plain : ∀ {ds : List D}, ds.all D.isP = true → ds.flatMap refD = []
  | [], _ => rfl
  | d :: ds, h => by
    rw [List.all_cons, Bool.and_eq_true] at h
    rw [List.flatMap_cons, refs_plain h.2]
    cases d <;> first | rfl | cases h.1
theorem renL_plain {f : Nat → Option Nat} : ∀ {ds : List D}, ds.all D.isP = true → renL f ds = some ds
  | [], _ => rfl
  | d :: ds, h => by
    rw [List.all_cons, Bool.and_eq_true] at h
    unfold renL
    rw [renL_plain h.2]
    cases d <;> first | rfl | cases h.1
theorem scat_nil {h : Hh} {f : Nat → Option Nat} {r : Hh} : scatter h f [] r = some h := by unfold scatter; rfl
theorem iso_plain {cs : CSem} {f : Nat} {ds : List D} {h : Hh} (hp : ds.all D.isP = true) : isoCall cs f ds h = match cs (.fn f) ds [] with
    | .ok (.p d) _ => .ok (.p d) h
    | .ok (.fn i) _ => .ok (.fn i) h
    | .exn c fs _ => (match renL (nth []) fs with
      | some fs' => .exn c fs' h
      | none => .bad)
    | _ => .bad := by
  unfold isoCall isoAt handed
  rw [refs_plain hp]
  simp only [List.flatMap_nil, List.append_nil, once, List.reverse_nil, renL_plain hp, gather]
  cases cs (.fn f) ds [] with
  | ok d h1 => cases d <;> simp only [ren, scat_nil, nth_nil]
  | exn c fs h1 =>
    simp only [scat_nil]
    all_goals (cases renL (nth []) fs <;> rfl)
  | bad => rfl
theorem iso_ok {cs : CSem} {f : Nat} {ds : List D} {h h' : Hh} {d : PyData} (hp : ds.all D.isP = true) (e : cs (.fn f) ds [] = .ok (.p d) h') : isoCall cs f ds h = .ok (.p d) h := by rw [iso_plain hp, e]
theorem iso_exn {cs : CSem} {f : Nat} {ds : List D} {h h' : Hh} {c : Nat} {fs : List D} (hp : ds.all D.isP = true) (e : cs (.fn f) ds [] = .exn c fs h') (hf : fs.all D.isP = true) : isoCall cs f ds h = .exn c fs h := by rw [iso_plain hp, e]; simp only [renL_plain hf]

/-! ### the pen -/
noncomputable def penO (cells : List Int) (a d n f : Int) : Ob := .dk [(.inr "cells", iL cells), (.inr "at", iD a), (.inr "digits", iD d), (.inr "count", iD n), (.inr "fold", iD f)]
section
variable (c : List Int) (a d n f v : Int)
theorem pen_cells : ixV [penO c a d n f] (.ref 0) (sD "cells") = some (iL c) := by kernel_rfl
theorem pen_at : ixV [penO c a d n f] (.ref 0) (sD "at") = some (iD a) := by kernel_rfl
theorem pen_digits : ixV [penO c a d n f] (.ref 0) (sD "digits") = some (iD d) := by kernel_rfl
theorem pen_count : ixV [penO c a d n f] (.ref 0) (sD "count") = some (iD n) := by kernel_rfl
theorem pen_fold : ixV [penO c a d n f] (.ref 0) (sD "fold") = some (iD f) := by kernel_rfl
theorem pen_at' : setV [penO c a d n f] (.ref 0) (sD "at") (iD v) = some [penO c v d n f] := by kernel_rfl
theorem pen_digits' : setV [penO c a d n f] (.ref 0) (sD "digits") (iD v) = some [penO c a v n f] := by kernel_rfl
theorem pen_count' : setV [penO c a d n f] (.ref 0) (sD "count") (iD v) = some [penO c a d v f] := by kernel_rfl
theorem pen_fold' : setV [penO c a d n f] (.ref 0) (sD "fold") (iD v) = some [penO c a d n v] := by kernel_rfl
end
/-- a pen that was asked at most c times -/
def PenOk (o : Ob) (c : Nat) : Prop := ∃ (cells : List Int) (a d n f : Int), o = penO cells a d n f ∧ cells.length ≤ 63 ∧ 0 ≤ a ∧ 0 ≤ d ∧ 0 ≤ n ∧ n ≤ c ∧ 0 ≤ f ∧ f < 2147483399
noncomputable def drawB : S := (.seq (.set (.v 0) (.c (.str (Str.ofString "count"))) (.bin .add (.ix (.v 0) (.c (.str (Str.ofString "count")))) (.c (.int 1))))
  (.seq (.ite (.and (.cmp .eq (.ix (.v 0) (.c (.str (Str.ofString "digits")))) (.c (.int 0))) (.cmp .lt (.ix (.v 0) (.c (.str (Str.ofString "at")))) (.pr .len (.cons (.ix (.v 0) (.c (.str (Str.ofString "cells")))) .nil)))) (.seq (.asg (.nm 2) (.ix (.ix (.v 0) (.c (.str (Str.ofString "cells")))) (.ix (.v 0) (.c (.str (Str.ofString "at"))))))
  (.seq (.set (.v 0) (.c (.str (Str.ofString "at"))) (.bin .add (.ix (.v 0) (.c (.str (Str.ofString "at")))) (.c (.int 1))))
  (.seq (.ite (.cmp .ge (.v 2) (.bin .pow (.c (.int 10)) (.c (.int 18)))) (.seq (.set (.v 0) (.c (.str (Str.ofString "digits"))) (.bin .sub (.v 2) (.bin .pow (.c (.int 10)) (.c (.int 18)))))
  .skip) (.seq (.set (.v 0) (.c (.str (Str.ofString "fold"))) (.bin .mod (.pr .int (.cons (.bin .add (.bin .mul (.ix (.v 0) (.c (.str (Str.ofString "fold")))) (.c (.int 38993))) (.v 2)) .nil)) (.c (.int 2147483399))))
  .skip))
  .skip))) .skip)
  (.seq (.ite (.cmp .gt (.ix (.v 0) (.c (.str (Str.ofString "digits")))) (.c (.int 0))) (.seq (.asg (.nm 3) (.bin .mod (.pr .int (.cons (.ix (.v 0) (.c (.str (Str.ofString "digits")))) .nil)) (.v 1)))
  (.seq (.set (.v 0) (.c (.str (Str.ofString "digits"))) (.bin .fdiv (.ix (.v 0) (.c (.str (Str.ofString "digits")))) (.v 1)))
  (.seq (.ret (.v 3))
  .skip))) .skip)
  (.seq (.asg (.nm 4) (.bin .add (.bin .add (.ix (.v 0) (.c (.str (Str.ofString "fold")))) (.bin .mul (.ix (.v 0) (.c (.str (Str.ofString "count")))) (.c (.int 7603)))) (.c (.int 79))))
  (.seq (.ret (.bin .mod (.bin .fdiv (.pr .int (.cons (.bin .mod (.bin .pow (.v 4) (.c (.int 33))) (.c (.int 2305843009213693951))) .nil)) (.c (.int 32))) (.v 1)))
  .skip)))))
end Y

/-! Y45: the laws' helpers. -/
namespace Y
open PySem
theorem p10_18 : binV .pow (iD 10) (iD 18) = some (iD 1000000000000000000) := by kernel_rfl
theorem bin_pow33 {i : Int} (h1 : -18446744073709551616 < i) (h2 : i < 18446744073709551616) : binV .pow (iD i) (iD 33) = some (iD (i ^ 33)) := bin_pow i 33 h1 h2 (by decide)
theorem len_iL (h : Hh) (xs : List Int) : prV .len h [iL xs] = some (iD xs.length) := by
  show (match lenV h (iL xs) with | some n => some (D.p (.int n)) | none => none) = _
  unfold lenV
  simp [seqT, seqL]
theorem atI_get {α : Type} {xs : List α} {i : Int} (h0 : 0 ≤ i) (h1 : i < xs.length) : atI xs i = xs[i.toNat]? := by
  unfold atI ixN
  rw [if_pos h0, if_pos h1]
  exact nth_eq xs i.toNat
theorem ix_iL {h : Hh} {xs : List Int} {i : Int} (h0 : 0 ≤ i) (h1 : i < xs.length) : ixV h (iL xs) (iD i) = some (iD (xs.getD i.toNat 0)) := by
  have e : ixV h (iL xs) (iD i) = atI ((xs.map PyData.int).map D.p) i := rfl
  rw [e, atI_get h0 (by simpa using h1), List.getElem?_map, List.getElem?_map, List.getD_eq_getElem?_getD]
  have hl : i.toNat < xs.length := by omega
  rw [List.getElem?_eq_getElem hl]
  rfl
theorem pen_mk {cells : List Int} {a d n f : Int} {c : Nat} (hl : cells.length ≤ 63) (ha : 0 ≤ a) (hd : 0 ≤ d) (hn : 0 ≤ n) (hn2 : n ≤ c) (hf : 0 ≤ f) (hf2 : f < 2147483399) : PenOk (penO cells a d n f) c := ⟨cells, a, d, n, f, rfl, hl, ha, hd, hn, hn2, hf, hf2⟩
theorem draw_run {cs : CSem} {o : Ob} {c : Nat} {m : Int} (hp : PenOk o c) (hc : c < 1000000000) (hm : 1 ≤ m) (hm2 : m < 18446744073709551616) :
    SW (ex drawB cs ⟨[some (.ref 0), some (iD m), none, none, none], []⟩ [o]) ⟨fun _ _ => False, fun d h => ∃ x o', d = iD x ∧ h = [o'] ∧ PenOk o' (c + 1) ∧ 0 ≤ x ∧ x < m, fun _ _ => False, fun _ _ => False, fun _ _ _ => False⟩ := by
  obtain ⟨cells, a, dg, n, f, rfl, hl, ha, hd, hn, hn2, hf, hf2⟩ := hp
  unfold drawB
  have mp : 0 < m := by omega
  have tail : ∀ (cells : List Int) (a dg f : Int), cells.length ≤ 63 → 0 ≤ a → 0 ≤ dg → 0 ≤ f → f < 2147483399 →
      (0 < dg → ∃ x o', iD (dg % m) = iD x ∧ [penO cells a (dg / m) (n + 1) f] = [o'] ∧ PenOk o' (c + 1) ∧ 0 ≤ x ∧ x < m) ∧
      (∃ x o', iD ((f + (n + 1) * 7603 + 79) ^ 33 % 2305843009213693951 / 32 % m) = iD x ∧ [penO cells a dg (n + 1) f] = [o'] ∧ PenOk o' (c + 1) ∧ 0 ≤ x ∧ x < m) := fun cells a dg f h1 h2 h3 h4 h5 =>
    ⟨fun h => ⟨_, _, rfl, rfl, pen_mk h1 h2 (Int.ediv_nonneg h3 (by omega)) (by omega) (by omega) h4 h5, Int.emod_nonneg _ (by omega), Int.emod_lt_of_pos _ mp⟩, ⟨_, _, rfl, rfl, pen_mk h1 h2 h3 (by omega) (by omega) h4 h5, Int.emod_nonneg _ (by omega), Int.emod_lt_of_pos _ mp⟩⟩
  simp (maxSteps := 4000000) (disch := omega) only [s_seq, s_set, s_ite, s_asg, s_ret, s_skip, e_bin, e_ix, e_v, e_c, e_cmp, e_and, e_pr, a_cons, a_nil, nth_zero, nth_succ, ow_some, pen_count, pen_digits, pen_at, pen_cells, pen_fold, pen_count', pen_digits', pen_at', pen_fold', bin_add, bin_sub, bin_mul', bin_mod, bin_fdiv, bin_pow33, cmp_eq, cmp_lt, cmp_ge, cmp_gt, tru_b, tw_dec, len_iL, p10_18, pr_int, asgT, List.set_cons_zero, List.set_cons_succ]
  refine ⟨fun h1 => ⟨fun h2 => ?_, fun h2 => ⟨fun h3 => (tail cells a dg f hl ha hd hf hf2).1 h3, fun h3 => (tail cells a dg f hl ha hd hf hf2).2⟩⟩, fun h1 => ⟨fun h2 => absurd h2 h1, fun h2 => ⟨fun h3 => (tail cells a dg f hl ha hd hf hf2).1 h3, fun h3 => (tail cells a dg f hl ha hd hf hf2).2⟩⟩⟩
  simp (maxSteps := 4000000) (disch := omega) only [ix_iL, ow_some, cmp_ge, tw_dec, bin_sub, bin_add, bin_mod, bin_fdiv, bin_mul', bin_pow33, pr_int, pen_digits', pen_digits, pen_fold', pen_fold, pen_count, cmp_gt]
  refine ⟨fun h3 => ⟨fun h4 => ?_, fun h4 => ?_⟩, fun h3 => ⟨fun h4 => ?_, fun h4 => ?_⟩⟩
  · exact (tail cells (a + 1) _ f hl (by omega) (by omega) hf hf2).1 h4
  · exact (tail cells (a + 1) _ f hl (by omega) (by omega) hf hf2).2
  · exact (tail cells (a + 1) _ _ hl (by omega) hd (Int.emod_nonneg _ (by decide)) (Int.emod_lt_of_pos _ (by decide))).1 h4
  · exact (tail cells (a + 1) _ _ hl (by omega) hd (Int.emod_nonneg _ (by decide)) (Int.emod_lt_of_pos _ (by decide))).2

/-! ### calls that hand in one object of plain values -/
noncomputable def obClean : Ob → Bool
  | .lst ds => ds.all D.isP
  | .dk kvs => kvs.all fun p => p.2.isP
  | .dt kvs => kvs.all fun p => p.2.isP
  | _ => false
theorem refK_plain {κ : Type} : ∀ {l : List (κ × D)}, (l.all fun p => p.2.isP) = true → (l.flatMap fun p => refD p.2) = []
  | [], _ => rfl
  | p :: r, h => by
    rw [List.all_cons, Bool.and_eq_true] at h
    rw [List.flatMap_cons, refK_plain h.2]
    obtain ⟨k, d⟩ := p
    cases d <;> first | rfl | cases h.1
theorem renK_plain {κ : Type} {f : Nat → Option Nat} : ∀ {l : List (κ × D)}, (l.all fun p => p.2.isP) = true → renK f l = some l
  | [], _ => rfl
  | (k, d) :: r, h => by
    rw [List.all_cons, Bool.and_eq_true] at h
    unfold renK
    rw [renK_plain h.2]
    cases d <;> first | rfl | cases h.1
theorem refO_clean {o : Ob} (h : obClean o = true) : refO o = [] := by
  cases o with
  | lst ds => exact refs_plain h
  | dk l => exact refK_plain h
  | dt l => exact refK_plain h
  | _ => cases h
theorem renO_clean {o : Ob} {f : Nat → Option Nat} (h : obClean o = true) : renO f o = some o := by
  cases o with
  | lst ds => unfold renO; dsimp only; rw [renL_plain h]
  | dk l => unfold renO; dsimp only; rw [renK_plain h]
  | dt l => unfold renO; dsimp only; rw [renK_plain h]
  | _ => cases h
theorem iso_one {cs : CSem} {f l : Nat} {ds : List D} {h t : Hh} {o o' : Ob} {d : PyData} (hl : nth h l = some o) (hc : obClean o = true) (hp : ds.all D.isP = true) (e : cs (.fn f) (.ref 0 :: ds) [o] = .ok (.p d) (o' :: t)) (hc' : obClean o' = true) : isoCall cs f (.ref l :: ds) h = .ok (.p d) (h.set l o') := by
  have e1 : handed h (.ref l :: ds) = [l] := by
    unfold handed
    rw [List.flatMap_cons, refs_plain hp]
    have : refP h l = [] := by unfold refP; rw [hl]; exact refO_clean hc
    simp only [refD, List.append_nil, List.flatMap_cons, List.flatMap_nil, this, once, hasN, List.reverse_cons, List.reverse_nil, List.nil_append]
    rfl
  have e2 : renL (idx [l]) (.ref l :: ds) = some (.ref 0 :: ds) := by
    unfold renL
    have : idx [l] l = some 0 := by unfold idx; rw [if_pos (Nat.beq_refl l)]
    rw [renL_plain hp]
    unfold ren
    dsimp only
    rw [this]
  have e3 : gather h (idx [l]) [l] = some [o] := by
    unfold gather
    rw [hl]
    dsimp only
    rw [renO_clean hc]
    rfl
  unfold isoCall
  rw [e1]
  unfold isoAt
  rw [e2]
  dsimp only
  rw [e3]
  dsimp only
  rw [e]
  dsimp only [ren]
  unfold scatter
  rw [renO_clean hc']
  dsimp only
  rw [scat_nil]
theorem pen_clean {o : Ob} {c : Nat} (h : PenOk o c) : obClean o = true := by
  obtain ⟨cells, a, d, n, f, rfl, _⟩ := h
  rfl
theorem PenOk.mono {o : Ob} {c c' : Nat} (h : PenOk o c) (e : c ≤ c') : PenOk o c' := by
  obtain ⟨cells, a, d, n, f, rfl, h1, h2, h3, h4, h5, h6, h7⟩ := h
  exact ⟨cells, a, d, n, f, rfl, h1, h2, h3, h4, by omega, h6, h7⟩
/-- a def that asks the pen at most k times, with plain values besides -/
def PenS (P : Prog) (n f : Nat) (ds : List D) (k : Nat) (Q : PyData → Prop) : Prop := ∀ (o : Ob) (c : Nat), PenOk o c → c + k ≤ 1000000000 → ∃ d o' t, CS P n (.fn f) (.ref 0 :: ds) [o] = .ok (.p d) (o' :: t) ∧ PenOk o' (c + k) ∧ Q d
theorem ew_pen {P : Prog} {n f : Nat} {ds : List D} {k : Nat} {Q : PyData → Prop} (s : PenS P n f ds k Q) (hp : ds.all D.isP = true) {h : Hh} {l : Nat} {o : Ob} {c : Nat} (hl : nth h l = some o) (po : PenOk o c) (hc : c + k ≤ 1000000000) {Q' : D → Hh → Prop} {X : XP}
    (q : ∀ d o', PenOk o' (c + k) → Q d → Q' (.p d) (h.set l o')) : EW (isoCall (CS P n) f (.ref l :: ds) h) Q' X := by
  obtain ⟨d, o', t, e, p', qd⟩ := s o c po hc
  rw [iso_one hl (pen_clean po) hp e (pen_clean p')]
  exact q d o' p' qd
/-! ### _law_draw, _law_pick, _law_pen -/
noncomputable def drawF : Fn := ⟨2, 5, [], false, drawB⟩
theorem draw_ok {P : Prog} {n i : Nat} (hf : P.fn i = some drawF) {m : Int} (hm : 1 ≤ m) (hm2 : m < 18446744073709551616) : PenS P (n + 1) i [iD m] 1 fun d => ∃ x, d = .int x ∧ 0 ≤ x ∧ x < m := by
  intro o c po hc
  rw [CS_fn hf]
  have := fn_run1 (F := drawF) (cs := CS P n) (ds := [.ref 0, iD m]) (h := [o]) (Q := fun d h => ∃ x o', d = iD x ∧ h = [o'] ∧ PenOk o' (c + 1) ∧ 0 ≤ x ∧ x < m) (X := fun _ _ _ => False) rfl rfl rfl
    ((draw_run (cs := CS P n) po (by omega) hm hm2).mono (fun _ _ z => z.elim) (fun _ _ z => z) (fun _ _ z => z) (fun _ _ z => z) fun _ _ _ z => z)
  obtain ⟨d, h', e, x, o', rfl, rfl, p', h0, h1⟩ := this.ok
  exact ⟨.int x, o', [], e, p', x, rfl, h0, h1⟩
noncomputable def pickB (j : Nat) : S := (.seq (.ret (.ix (.v 1) (.call true j (.cons (.v 0) (.cons (.pr .len (.cons (.v 1) .nil)) .nil))))) .skip)
noncomputable def pickF (j : Nat) : Fn := ⟨2, 2, [], false, pickB j⟩
theorem len_pl (h : Hh) (ps : List PyData) : prV .len h [.p (.list ps)] = some (iD ps.length) := by
  show (match lenV h (.p (.list ps)) with | some n => some (D.p (.int n)) | none => none) = _
  unfold lenV
  simp [seqT, seqL]
theorem ix_pl {h : Hh} {ps : List PyData} {i : Int} (h0 : 0 ≤ i) (h1 : i < ps.length) : ∃ p, ps[i.toNat]? = some p ∧ ixV h (.p (.list ps)) (iD i) = some (.p p) := by
  have e : ixV h (.p (.list ps)) (iD i) = atI (ps.map D.p) i := rfl
  have hl : i.toNat < ps.length := by omega
  refine ⟨ps[i.toNat], List.getElem?_eq_getElem hl, ?_⟩
  rw [e, atI_get h0 (by simpa using h1), List.getElem?_map, List.getElem?_eq_getElem hl]
  rfl
theorem pick_ok {P : Prog} {n i j : Nat} (hf : P.fn i = some (pickF j)) (hj : P.fn j = some drawF) {ps : List PyData} (h1 : 1 ≤ ps.length) (h2 : ps.length ≤ 1000) : PenS P (n + 2) i [.p (.list ps)] 1 fun d => d ∈ ps := by
  intro o c po hc
  rw [CS_fn hf]
  have := fn_run1 (F := pickF j) (cs := CS P (n + 1)) (ds := [.ref 0, .p (.list ps)]) (h := [o]) (Q := fun d h => ∃ x o', d = .p x ∧ h = [o'] ∧ PenOk o' (c + 1) ∧ x ∈ ps) (X := fun _ _ _ => False) rfl rfl rfl (by
    show SW (ex (pickB j) _ ⟨[some (.ref 0), some (.p (.list ps))], []⟩ [o]) _
    unfold pickB
    simp only [s_seq, s_ret, e_ix, e_v, e_callT, e_pr, a_cons, a_nil, nth_zero, nth_succ, ow_some, len_pl]
    refine ew_pen (draw_ok hj (m := (ps.length : Int)) (by omega) (by omega)) rfl rfl po (by omega) fun d o' p' q => ?_
    obtain ⟨x, rfl, x0, x1⟩ := q
    obtain ⟨p, e1, e2⟩ := ix_pl (h := [o].set 0 o') x0 x1
    rw [e2]
    exact ⟨p, o', rfl, rfl, p', List.mem_of_getElem? e1⟩)
  obtain ⟨d, h', e, x, o', rfl, rfl, p', hx⟩ := this.ok
  exact ⟨x, o', [], e, p', hx⟩
noncomputable def penB : S := (.seq (.asg (.nm 1) (.c (.int 0)))
  (.seq (.for_ (.nm 2) (.it (.v 0)) (.seq (.asg (.nm 1) (.bin .mod (.pr .int (.cons (.bin .add (.bin .mul (.v 1) (.c (.int 103))) (.v 2)) .nil)) (.c (.int 999999667))))
  .skip))
  (.seq (.ret (.dk [.inr (Str.ofString "cells"), .inr (Str.ofString "at"), .inr (Str.ofString "digits"), .inr (Str.ofString "count"), .inr (Str.ofString "fold")] (.cons (.imm (.lof (.v 0))) (.cons (.c (.int 0)) (.cons (.c (.int 0)) (.cons (.c (.int 0)) (.cons (.v 1) .nil)))))))
  .skip)))
end Y

/-! Y46: comprehensions, tries; the laws' helpers, the rest. -/
namespace Y
open PySem
section
variable (cs : CSem) (r : Rho) (h : Hh) (X : XP)
theorem e_dk (ks : List Key) (es : A) (Q : D → Hh → Prop) : EW (ev (.dk ks es) cs r h) Q X = EW (evs es cs r h) (fun ds h1 => Nat.beq ds.length ks.length = true ∧ Q (.ref h1.length) (h1 ++ [.dk (ks.zip ds)])) X := by
  rw [ev_dk]; unfold kDk; simp only [ew_bind]
  congr 1; funext ds h1
  cases q : Nat.beq ds.length ks.length <;> simp [EW]
theorem ew_calm {α : Type} (m : Res α) (Q : α → Hh → Prop) : EW m.calm Q X = EW m Q fun _ _ _ => False := by cases m <;> rfl
theorem b_no (t : Tg) (e : E) (x : D) (Q : Option D → Hh → Prop) : EW (compB cs t (evO .no) (ev e) r x h) Q X = OW (asgT t x r h) fun z => EW (ev e cs z.1 z.2) (fun y h5 => Q (some y) h5) X := by
  unfold compB
  cases asgT t x r h with
  | none => rfl
  | some z =>
    show EW ((oNo cs z.1 z.2).bind _) Q X = _
    unfold oNo
    simp only [ew_bind, ew_ok, ow_some]
theorem b_so (t : Tg) (c e : E) (x : D) (Q : Option D → Hh → Prop) : EW (compB cs t (evO (.so c)) (ev e) r x h) Q X = OW (asgT t x r h) fun z => EW (ev c cs z.1 z.2) (fun b h4 => TW (truthV h4 b) (EW (ev e cs z.1 h4) (fun y h5 => Q (some y) h5) X) (Q none h4)) X := by
  unfold compB
  cases asgT t x r h with
  | none => rfl
  | some z =>
    show EW ((oSo (ev c) cs z.1 z.2).bind _) Q X = _
    unfold oSo
    simp only [ew_bind, ew_ok, ow_some]
    congr 1; funext b h4
    cases truthV h4 b with
    | none => rfl
    | some k => cases k <;> simp only [ew_bind, ew_ok, tw_t, tw_f]
end
theorem ew_compL {body : D → Hh → Res (Option D)} {xs : List D} {h : Hh} {Q : List D → Hh → Prop} {X : XP} (Iv : Nat → List D → Hh → Prop) (h0 : Iv 0 [] h)
    (hs : ∀ (i : Nat) (x : D) (acc : List D) (h : Hh), xs[i]? = some x → Iv i acc h → EW (body x h) (fun o h' => Iv (i + 1) (acc ++ o.toList) h') X) (hd : ∀ acc h, Iv xs.length acc h → Q acc h) : EW (compL body xs h) Q X := by
  have key : ∀ (ys : List D) (i : Nat) (acc : List D) (h : Hh), xs.drop i = ys → i ≤ xs.length → Iv i acc h → EW (compL body ys h) (fun ds h' => Q (acc ++ ds) h') X := by
    intro ys
    induction ys with
    | nil =>
      intro i acc h e hi hv
      have : i = xs.length := by
        have := congrArg List.length e
        rw [List.length_drop] at this
        simp at this
        omega
      subst this
      show Q (acc ++ []) h
      rw [List.append_nil]
      exact hd acc h hv
    | cons y ys ih =>
      intro i acc h e hi hv
      have hx : xs[i]? = some y := by
        have := congrArg (fun l => l[0]?) e
        simpa using this
      have e2 : xs.drop (i + 1) = ys := by rw [← List.drop_drop, e]; rfl
      have hl : i < xs.length := (List.getElem?_eq_some_iff.mp hx).1
      unfold compL
      rw [ew_bind]
      refine (hs i y acc h hx hv).mono (fun o h1 q => ?_) fun _ _ _ z => z
      rw [ew_bind]
      refine (ih (i + 1) (acc ++ o.toList) h1 e2 hl q).mono (fun zs h2 q2 => ?_) fun _ _ _ z => z
      rw [ew_ok]
      cases o with
      | none => simpa [consO] using q2
      | some z => simpa [consO] using q2
  have := key xs 0 [] h rfl (Nat.zero_le _) h0
  simpa using this
theorem ew_compW {body : D → Hh → Res (Option D)} {l : Nat} {xs : List D} {h : Hh} {Q : List D → Hh → Prop} {X : XP} (Iv : Nat → List D → Hh → Prop) (h0 : Iv 0 [] h) (hw : ∀ i acc h, Iv i acc h → nth h l = some (.lst xs))
    (hs : ∀ (i : Nat) (x : D) (acc : List D) (h : Hh), xs[i]? = some x → Iv i acc h → EW (body x h) (fun o h' => Iv (i + 1) (acc ++ o.toList) h') X) (hd : ∀ acc h, Iv xs.length acc h → Q acc h) : EW (compW (.rd l xs.length) body xs.length 0 h) Q X := by
  have key : ∀ (k i : Nat) (acc : List D) (h : Hh), i + k = xs.length → Iv i acc h → EW (compW (.rd l xs.length) body k i h) (fun ds h' => Q (acc ++ ds) h') X := by
    intro k
    induction k with
    | zero =>
      intro i acc h e hv
      have : i = xs.length := by omega
      subst this
      unfold compW
      have hf : Wk.fin (.rd l xs.length) h = true := by
        show (match nth h l with | some (.lst ys) => Nat.beq ys.length xs.length | _ => false) = true
        rw [hw _ _ _ hv]
        exact Nat.beq_refl _
      rw [if_pos hf]
      show Q (acc ++ []) h
      rw [List.append_nil]
      exact hd acc h hv
    | succ k ih =>
      intro i acc h e hv
      have hl : i < xs.length := by omega
      have hx : xs[i]? = some xs[i] := List.getElem?_eq_getElem hl
      unfold compW
      have ha : Wk.at (.rd l xs.length) i h = some xs[i] := by
        show (match nth h l with | some (.lst ys) => if Nat.beq ys.length xs.length then nth ys i else none | _ => none) = _
        rw [hw _ _ _ hv]
        dsimp only
        rw [if_pos (Nat.beq_refl _), nth_eq, hx]
      rw [ha]
      dsimp only
      rw [ew_bind]
      refine (hs i _ acc h hx hv).mono (fun o h1 q => ?_) fun _ _ _ z => z
      rw [ew_bind]
      refine (ih (i + 1) (acc ++ o.toList) h1 (by omega) q).mono (fun zs h2 q2 => ?_) fun _ _ _ z => z
      rw [ew_ok]
      cases o with
      | none => simpa [consO] using q2
      | some z => simpa [consO] using q2
  have := key xs.length 0 [] h (by omega) h0
  simpa using this
/-- a comprehension that leaves the heap -/
theorem ew_compF {body : D → Hh → Res (Option D)} {xs : List D} {h : Hh} {Q : List D → Hh → Prop} {X : XP} (g : Nat → Option D) (hs : ∀ (i : Nat) (x : D), xs[i]? = some x → EW (body x h) (fun o h' => o = g i ∧ h' = h) X) (q : Q ((List.range xs.length).filterMap g) h) : EW (compL body xs h) Q X := by
  refine ew_compL (fun i acc h' => h' = h ∧ acc = (List.range i).filterMap g) ⟨rfl, rfl⟩ (fun i x acc h' hx hv => ?_) fun acc h' hv => ?_
  · obtain ⟨rfl, rfl⟩ := hv
    refine (hs i x hx).mono (fun o h' z => ?_) fun _ _ _ z => z
    obtain ⟨rfl, rfl⟩ := z
    refine ⟨rfl, ?_⟩
    rw [List.range_succ, List.filterMap_append]
    cases e : g i <;> simp [e]
  · obtain ⟨rfl, rfl⟩ := hv
    exact q
/-! ### try -/
noncomputable def catchP (P : Ps) : List (Nat × Nat × List XI) → XP
  | [], c, fs, h => P.xn c fs h
  | (c', _, xs) :: rest, c, fs, h => if c' = c then OW (xs.mapM (xiV fs)) (fun ds => P.rt (mkTup ds) h) else catchP P rest c fs h
theorem sw_catch {P : Ps} {r : Rho} : ∀ {hs : List (Nat × Nat × List XI)} {c : Nat} {fs : List D} {h : Hh}, SW (catch_ hs c fs r h) P = catchP P hs c fs h
  | [], c, fs, h => rfl
  | (c', j, xs) :: rest, c, fs, h => by
    unfold catch_ catchP
    by_cases e : c' = c
    · rw [if_pos e, if_pos e]
      cases xs.mapM (xiV fs) <;> rfl
    · rw [if_neg e, if_neg e]
      exact sw_catch
theorem s_try (cs : CSem) (r : Rho) (h : Hh) (P : Ps) (b : S) (hs : List (Nat × Nat × List XI)) : SW (ex (.tryx b hs) cs r h) P = SW (ex b cs r h) { P with xn := catchP P hs } := by
  rw [ex_tryx]; unfold sTry
  cases ex b cs r h with
  | exn c fs r1 h1 => exact sw_catch
  | _ => rfl
/-! ### _law_pen -/
theorem walk_iL (h : Hh) (xs : List Int) : walkV h (iL xs) = some (.fx (xs.map iD)) := by
  show some (Wk.fx ((xs.map PyData.int).map D.p)) = _
  rw [List.map_map]; rfl
theorem lof_iL (h : Hh) (xs : List Int) : lofV h (iL xs) = some (xs.map iD) := by
  show some ((xs.map PyData.int).map D.p) = _
  rw [List.map_map]; rfl
theorem mk_iL (xs : List Int) : mkLst (xs.map iD) = iL xs := by
  have e : xs.map iD = (xs.map PyData.int).map D.p := by rw [List.map_map]; rfl
  rw [e]
  unfold mkLst
  rw [allP_map]
noncomputable def penF : Fn := ⟨1, 3, [], false, penB⟩
theorem pen_ok {P : Prog} {n i : Nat} (hf : P.fn i = some penF) {ns : List Int} (hl : ns.length ≤ 63) (h : Hh) : ∃ o, CS P (n + 1) (.fn i) [scriptD ns] h = .ok (.ref h.length) (h ++ [o]) ∧ PenOk o 0 := by
  rw [CS_fn hf]
  have := fn_run1 (F := penF) (cs := CS P n) (ds := [scriptD ns]) (h := h) (Q := fun d h' => ∃ o, d = .ref h.length ∧ h' = h ++ [o] ∧ PenOk o 0) (X := fun _ _ _ => False) rfl rfl rfl (by
    show SW (ex penB _ ⟨[some (iL ns), none, none], []⟩ h) _
    unfold penB
    simp only [s_seq, s_asg, e_c, asgT, List.set_cons_zero, List.set_cons_succ, ow_some, s_for, i_it, e_v, nth_zero, nth_succ, walk_iL]
    show SW (forL _ _ _ _ _) _
    refine sw_forL (fun i r h' => h' = h ∧ ∃ (f : Int) (c : Option D), r = ⟨[some (iL ns), some (iD f), c], []⟩ ∧ 0 ≤ f ∧ f < 999999667) ⟨rfl, 0, none, rfl, by decide, by decide⟩ (fun i x r h' hx hv => ?_) fun r h' hv => ?_
    · obtain ⟨rfl, f, c, rfl, f0, f1⟩ := hv
      rw [List.getElem?_map] at hx
      obtain ⟨k, _, rfl⟩ := Option.map_eq_some_iff.mp hx
      simp (disch := omega) only [asgT, List.set_cons_zero, List.set_cons_succ, ow_some, s_seq, s_asg, s_skip, e_bin, e_pr, a_cons, a_nil, e_v, e_c, nth_zero, nth_succ, bin_mul', bin_add, pr_int, bin_mod]
      exact ⟨trivial, _, _, rfl, Int.emod_nonneg _ (by decide), Int.emod_lt_of_pos _ (by decide)⟩
    · obtain ⟨rfl, f, c, rfl, f0, f1⟩ := hv
      simp only [s_seq, s_ret, s_skip, e_dk, a_cons, a_nil, e_imm, l_lof, e_v, e_c, nth_zero, nth_succ, ow_some, lof_iL, mk_iL]
      exact ⟨rfl, _, trivial, rfl, ns, 0, 0, 0, f, rfl, hl, by decide, by decide, by decide, by decide, f0, by omega⟩)
  obtain ⟨d, h', e, o, rfl, rfl, po⟩ := this.ok
  exact ⟨o, e, po⟩
end Y

/-! Y47: lists of whole numbers by their places; the laws' tries. -/
namespace Y
open PySem
/-! ### lists by their places -/
noncomputable def tab (n : Nat) (f : Nat → Int) : List Int := (List.range n).map f
noncomputable def upd (f : Nat → Int) (j : Nat) (x : Int) : Nat → Int := fun p => if p = j then x else f p
theorem tab_len {n : Nat} {f : Nat → Int} : (tab n f).length = n := by unfold tab; rw [List.length_map, List.length_range]
theorem tab_at {n : Nat} {f : Nat → Int} {j : Nat} (h : j < n) : (tab n f)[j]? = some (f j) := by
  unfold tab
  rw [List.getElem?_map, List.getElem?_range h]; rfl
theorem tab_ext {n : Nat} {f g : Nat → Int} (h : ∀ j, j < n → f j = g j) : tab n f = tab n g := by
  unfold tab
  exact List.map_congr_left fun j hj => h j (List.mem_range.mp hj)
theorem tab_inj {n : Nat} {f g : Nat → Int} (h : tab n f = tab n g) : ∀ j, j < n → f j = g j := fun j hj => by
  have := congrArg (fun l => l[j]?) h
  simpa [tab_at hj] using this
theorem list_tab {n : Nat} {xs : List Int} {f : Nat → Int} (hl : xs.length = n) (h : ∀ j, j < n → xs[j]? = some (f j)) : xs = tab n f := by
  apply List.ext_getElem?
  intro j
  by_cases hj : j < n
  · rw [h j hj, tab_at hj]
  · rw [List.getElem?_eq_none (by omega), List.getElem?_eq_none (by rw [tab_len]; omega)]
theorem tab_set {n : Nat} {f : Nat → Int} {j : Nat} {x : Int} : (tab n f).set j x = tab n (upd f j x) := by
  refine list_tab (by rw [List.length_set, tab_len]) fun i hi => ?_
  rw [List.getElem?_set]
  by_cases e : j = i
  · subst e
    rw [if_pos rfl, tab_len, if_pos hi]
    unfold upd
    rw [if_pos rfl]
  · rw [if_neg e, tab_at hi]
    unfold upd
    rw [if_neg (fun q => e q.symm)]
theorem tab_getD {n : Nat} {f : Nat → Int} {j : Nat} (h : j < n) : (tab n f).getD j 0 = f j := by rw [List.getD_eq_getElem?_getD, tab_at h]; rfl
theorem tab_rep {n : Nat} {x : Int} : List.replicate n x = tab n (fun _ => x) := list_tab List.length_replicate fun j hj => by rw [List.getElem?_replicate, if_pos hj]
theorem tab_one {n : Nat} : (1 : Int) :: List.replicate n 0 = tab (n + 1) (fun p => if p = 0 then 1 else 0) := by
  refine list_tab (by simp) fun j hj => ?_
  cases j with
  | zero => rfl
  | succ j => simp; rw [List.getElem?_replicate, if_pos (by omega)]
section
variable {h : Hh} {l n : Nat} {f : Nat → Int} {i : Int}
theorem ix_iO {xs : List Int} (hl : nth h l = some (iO xs)) (h0 : 0 ≤ i) (h1 : i < xs.length) : ixV h (.ref l) (iD i) = some (iD (xs.getD i.toNat 0)) := by
  have e : ixV h (.ref l) (iD i) = atI (xs.map iD) i := by
    unfold ixV seqT seqL
    dsimp only
    rw [hl]
  rw [e, atI_get h0 (by simpa using h1), List.getElem?_map, List.getD_eq_getElem?_getD]
  have hl : i.toNat < xs.length := by omega
  rw [List.getElem?_eq_getElem hl]
  rfl
theorem get_iO {xs : List Int} (hl : nth h l = some (iO xs)) (h0 : 0 ≤ i) (h1 : i < xs.length) : getV h (.ref l) (iD i) = some (iD (xs.getD i.toNat 0)) := by
  have e : getV h (.ref l) (iD i) = atI (xs.map iD) i := by
    unfold getV
    dsimp only
    rw [hl]
  rw [e, atI_get h0 (by simpa using h1), List.getElem?_map, List.getD_eq_getElem?_getD]
  have hl : i.toNat < xs.length := by omega
  rw [List.getElem?_eq_getElem hl]
  rfl
theorem set_iO {xs : List Int} (hl : nth h l = some (iO xs)) {x : Int} (h0 : 0 ≤ i) (h1 : i < xs.length) : setV h (.ref l) (iD i) (iD x) = some (h.set l (iO (xs.set i.toNat x))) := by
  unfold setV
  dsimp only
  rw [hl]
  dsimp only
  unfold ixN
  rw [if_pos h0, if_pos (by simpa using h1)]
  dsimp only
  rw [← List.map_set]
theorem ix_tab (hl : nth h l = some (iO (tab n f))) (h0 : 0 ≤ i) (h1 : i < n) : ixV h (.ref l) (iD i) = some (iD (f i.toNat)) := by
  rw [ix_iO hl h0 (by rw [tab_len]; exact h1), tab_getD (by omega)]
theorem get_tab (hl : nth h l = some (iO (tab n f))) (h0 : 0 ≤ i) (h1 : i < n) : getV h (.ref l) (iD i) = some (iD (f i.toNat)) := by
  rw [get_iO hl h0 (by rw [tab_len]; exact h1), tab_getD (by omega)]
theorem set_tab (hl : nth h l = some (iO (tab n f))) {x : Int} (h0 : 0 ≤ i) (h1 : i < n) : setV h (.ref l) (iD i) (iD x) = some (h.set l (iO (tab n (upd f i.toNat x)))) := by
  rw [set_iO hl h0 (by rw [tab_len]; exact h1), tab_set]
theorem ix_tabL (h0 : 0 ≤ i) (h1 : i < n) : ixV h (iL (tab n f)) (iD i) = some (iD (f i.toNat)) := by
  rw [ix_iL h0 (by rw [tab_len]; exact h1), tab_getD (by omega)]
theorem ix_iT {xs : List Int} (h0 : 0 ≤ i) (h1 : i < xs.length) : ixV h (iT xs) (iD i) = some (iD (xs.getD i.toNat 0)) := by
  have e : ixV h (iT xs) (iD i) = atI ((xs.map PyData.int).map D.p) i := rfl
  rw [e, atI_get h0 (by simpa using h1), List.getElem?_map, List.getElem?_map, List.getD_eq_getElem?_getD]
  have hl : i.toNat < xs.length := by omega
  rw [List.getElem?_eq_getElem hl]
  rfl
theorem ix_tabT (h0 : 0 ≤ i) (h1 : i < n) : ixV h (iT (tab n f)) (iD i) = some (iD (f i.toNat)) := by
  rw [ix_iT h0 (by rw [tab_len]; exact h1), tab_getD (by omega)]
theorem len_iO {xs : List Int} (hl : nth h l = some (iO xs)) : prV .len h [.ref l] = some (iD xs.length) := by
  show (match lenV h (.ref l) with | some n => some (D.p (.int n)) | none => none) = _
  unfold lenV
  simp [seqT, seqL, hl]
theorem len_tab (hl : nth h l = some (iO (tab n f))) : prV .len h [.ref l] = some (iD n) := by rw [len_iO hl, tab_len]
theorem len_tabL : prV .len h [iL (tab n f)] = some (iD n) := by rw [len_iL, tab_len]
theorem len_iT {xs : List Int} : prV .len h [iT xs] = some (iD xs.length) := by
  show (match lenV h (iT xs) with | some n => some (D.p (.int n)) | none => none) = _
  unfold lenV
  simp [seqT, seqL]
theorem len_tabT : prV .len h [iT (tab n f)] = some (iD n) := by rw [len_iT, tab_len]
end
theorem allP_ints : ∀ xs : List Int, allP (xs.map iD) = some (xs.map .int)
  | [] => rfl
  | x :: r => by
    show (match allP (r.map iD) with | some ds => some (PyData.int x :: ds) | none => none) = _
    rw [allP_ints r]; rfl
theorem mkT_iT (xs : List Int) : mkTup (xs.map iD) = iT xs := by unfold mkTup; rw [allP_ints]
theorem tup_iO {h : Hh} {l : Nat} {xs : List Int} (hl : nth h l = some (iO xs)) : prV .tup h [.ref l] = some (iT xs) := by
  show pTup h [.ref l] = _
  unfold pTup
  simp only [seqT, seqL, hl, mkT_iT]
theorem tup_iL {h : Hh} {xs : List Int} : prV .tup h [iL xs] = some (iT xs) := by
  show (some (mkTup ((xs.map PyData.int).map D.p)) : Option D) = _
  rw [List.map_map]
  exact congrArg some (mkT_iT xs)
theorem frz_iO {h : Hh} {i l : Nat} {xs : List Int} {r : Rho} (hr : nth r.sl i = some (some (.ref l))) (hl : nth h l = some (iO xs)) : frzV i r h = some (⟨r.sl.set i (some (iL xs)), r.cl⟩, h.set l .dead) := by
  unfold frzV
  rw [hr]
  dsimp only
  rw [hl]
  dsimp only
  rw [mk_iL]
theorem rep_i {x n : Int} (h1 : n ≤ 1000000) (h0 : -1000000 ≤ n) : repV [iD x] (iD n) = some ((List.replicate n.toNat x).map iD) := by
  unfold repV
  have e : Nat.ble ([iD x].length * n.toNat) LINE = true := by
    unfold LINE
    exact Nat.ble_eq.mpr (by simp; omega)
  have e2 : small62 n = true := by unfold small62; exact Nat.ble_eq.mpr (by omega)
  dsimp only
  rw [e, e2]
  simp
theorem cat_iL {h : Hh} {xs ys : List Int} (hn : xs.length + ys.length ≤ 1000000) : catV h (iL xs) (iL ys) = some ((xs ++ ys).map iD) := by
  have e1 : seqL h (iL xs) = some (xs.map iD) := by show some ((xs.map PyData.int).map D.p) = _; rw [List.map_map]; rfl
  have e2 : seqL h (iL ys) = some (ys.map iD) := by show some ((ys.map PyData.int).map D.p) = _; rw [List.map_map]; rfl
  unfold catV
  rw [e1, e2]
  dsimp only
  have : Nat.ble ((xs.map iD).length + (ys.map iD).length) LINE = true := by
    unfold LINE
    exact Nat.ble_eq.mpr (by simp; omega)
  rw [if_pos this, List.map_append]
/-! ### comparisons -/
theorem eqv_ints : ∀ xs ys : List Int, PyData.eqvAll (xs.map .int) (ys.map .int) = decide (xs = ys)
  | [], [] => by simp [PyData.eqvAll]
  | [], y :: ys => by simp [PyData.eqvAll]
  | x :: xs, [] => by simp [PyData.eqvAll]
  | x :: xs, y :: ys => by
    rw [List.map_cons, List.map_cons, PyData.eqvAll, eqv_ints xs ys]
    by_cases e : x = y <;> simp [PyData.eqv, e]
theorem deps_ints : ∀ xs : List Int, deps (xs.map .int) = 0
  | [] => rfl
  | x :: xs => by
    show max (dep (.int x)) (deps (xs.map .int)) = 0
    rw [deps_ints xs]; rfl
theorem flat_iT (xs : List Int) : flat (.tuple (xs.map .int)) = true := by
  unfold flat dep
  rw [deps_ints]; rfl
theorem flat_iL (xs : List Int) : flat (.list (xs.map .int)) = true := by
  unfold flat dep
  rw [deps_ints]; rfl
theorem eqD_p {h : Hh} {a b : PyData} (fa : flat a = true) (fb : flat b = true) : eqD h (.p a) (.p b) = some (PyData.eqv a b) := by
  unfold eqD plainOf
  dsimp only
  rw [fa, fb]; rfl
section
variable {h : Hh} {xs ys : List Int}
theorem cmp_eq_iT : cmpV .eq h (iT xs) (iT ys) = some (decide (xs = ys)) := by
  show eqD h (iT xs) (iT ys) = _
  rw [eqD_p (flat_iT xs) (flat_iT ys)]
  show some (PyData.eqv (.tuple (xs.map .int)) (.tuple (ys.map .int))) = _
  rw [PyData.eqv, eqv_ints]
theorem cmp_ne_iT : cmpV .ne h (iT xs) (iT ys) = some (!decide (xs = ys)) := by
  have := cmp_eq_iT (h := h) (xs := xs) (ys := ys)
  change eqD h (iT xs) (iT ys) = _ at this
  show (match eqD h (iT xs) (iT ys) with | some k => some (!k) | none => none) = _
  rw [this]
theorem cmp_eq_iL : cmpV .eq h (iL xs) (iL ys) = some (decide (xs = ys)) := by
  show eqD h (iL xs) (iL ys) = _
  rw [eqD_p (flat_iL xs) (flat_iL ys)]
  show some (PyData.eqv (.list (xs.map .int)) (.list (ys.map .int))) = _
  rw [PyData.eqv, eqv_ints]
theorem cmp_ne_iL : cmpV .ne h (iL xs) (iL ys) = some (!decide (xs = ys)) := by
  have := cmp_eq_iL (h := h) (xs := xs) (ys := ys)
  change eqD h (iL xs) (iL ys) = _ at this
  show (match eqD h (iL xs) (iL ys) with | some k => some (!k) | none => none) = _
  rw [this]
theorem eqv_str (a b : Str) : PyData.eqv (.str a) (.str b) = decide (a = b) := by
  by_cases e : a = b <;> simp [PyData.eqv, e]
theorem cmp_eq_s {a b : Str} : cmpV .eq h (sD a) (sD b) = some (decide (a = b)) := by
  show eqD h (sD a) (sD b) = _
  rw [eqD_p rfl rfl, eqv_str]
theorem cmp_ne_s {a b : Str} : cmpV .ne h (sD a) (sD b) = some (!decide (a = b)) := by
  have := cmp_eq_s (h := h) (a := a) (b := b)
  change eqD h (sD a) (sD b) = _ at this
  show (match eqD h (sD a) (sD b) with | some k => some (!k) | none => none) = _
  rw [this]
end
theorem pr_repr {h : Hh} {d : PyData} (ok : reprOk d = true) : prV .repr h [.p d] = some (sD d.shown) := by
  show pRepr h [.p d] = _
  unfold pRepr plainOf
  dsimp only
  rw [if_pos ok]
theorem showBs_ints : ∀ {xs : List Int}, (∀ x ∈ xs, x.natAbs < 2 ^ 1900) → showBs (xs.map .int) = true
  | [], _ => rfl
  | x :: xs, h => by
    show (decide (x.natAbs.log2 < 1920) && showBs (xs.map .int)) = true
    rw [showBs_ints fun y hy => h y (.tail _ hy), Bool.and_true, decide_eq_true_eq]
    have := h x (.head _)
    by_cases z : x.natAbs = 0
    · rw [z]; decide
    · have q := (Nat.log2_lt z (k := 1900)).mpr this
      exact Nat.lt_trans q (by decide)
theorem wgts_ints : ∀ {xs : List Int}, (∀ x ∈ xs, x.natAbs < 2 ^ 1900) → wgts (xs.map .int) ≤ 1905 * xs.length
  | [], _ => by simp [wgts]
  | x :: xs, h => by
    show x.natAbs.log2 + 3 + 2 + wgts (xs.map .int) ≤ _
    have a := wgts_ints (xs := xs) fun y hy => h y (.tail _ hy)
    have := h x (.head _)
    have q : x.natAbs.log2 < 1900 := by
      by_cases z : x.natAbs = 0
      · rw [z]; decide
      · exact (Nat.log2_lt z (k := 1900)).mpr this
    rw [List.length_cons]
    omega
theorem repr_iT {xs : List Int} (h : ∀ x ∈ xs, x.natAbs < 2 ^ 1900) (hn : xs.length ≤ 8000) : reprOk (.tuple (xs.map .int)) = true := by
  unfold reprOk
  rw [flat_iT, Bool.true_and, Bool.and_eq_true]
  refine ⟨showBs_ints h, decide_eq_true ?_⟩
  show wgts (xs.map .int) + 4 ≤ LINE
  have := wgts_ints h
  unfold LINE
  omega
theorem pr_repr_iT {h : Hh} {xs : List Int} (hx : ∀ x ∈ xs, x.natAbs < 2 ^ 1900) (hn : xs.length ≤ 8000) : prV .repr h [iT xs] = some (sD (PyData.tuple (xs.map .int)).shown) := pr_repr (repr_iT hx hn)
/-! ### loops downward -/
theorem size_down {i j : Int} : Builtin.Range.rangeSize i j (-1) = if j < i then i - j else 0 := by
  unfold Builtin.Range.rangeSize
  rw [if_neg (by decide)]
  by_cases q : j < i
  · rw [if_pos q, if_pos q]
    show (i - j - 1) / 1 + 1 = _
    rw [Int.ediv_one]
    omega
  · rw [if_neg q, if_neg q]
theorem sw_down {body : Rho → Hh → SR} {t : Tg} {P : Ps} (Iv : Nat → Rho → Hh → Prop) {i j : Int} {r : Rho} {h : Hh} (hi : -1000000000 < i ∧ i < 1000000000) (hj : -1000000000 < j ∧ j < 1000000000) (h0 : Iv 0 r h)
    (hs : ∀ (k : Nat) (r : Rho) (h : Hh), k < (i - j).toNat → Iv k r h → OW (asgT t (iD (i - k)) r h) fun z => SW (body z.1 z.2) { nx := fun r2 h2 => Iv (k + 1) r2 h2, ct := fun r2 h2 => Iv (k + 1) r2 h2, bk := P.nx, rt := P.rt, xn := P.xn })
    (hd : ∀ r h, Iv (i - j).toNat r h → P.nx r h) : OW (rngV (iD i) (iD j) (iD (-1))) fun w => SW (forV w body t r h) P := by
  have en : rngN i j (-1) = (i - j).toNat := by
    unfold rngN
    rw [size_down]
    by_cases q : j < i
    · rw [if_pos q]
    · rw [if_neg q]; omega
  have e : rngV (iD i) (iD j) (iD (-1)) = some (.fx (rangeI i (i - j).toNat (-1))) := by
    have fit : ∀ x : Int, -10000000000 < x → x < 10000000000 → Builtin.Range.rangeFitsLong x = true := fun x a b => by
      unfold Builtin.Range.rangeFitsLong
      rw [Bool.and_eq_true, decide_eq_true_eq, decide_eq_true_eq]
      omega
    have s1 : Builtin.Range.small i j (-1) = true := by
      unfold Builtin.Range.small
      rw [fit i (by omega) (by omega), fit j (by omega) (by omega), fit (-1) (by omega) (by omega), fit (Builtin.Range.rangeSize i j (-1)) (by rw [size_down]; split <;> omega) (by rw [size_down]; split <;> omega), if_neg (by decide), fit (j + (-1 + 1)) (by omega) (by omega)]
      simp
    have s2 : decide ((-1 : Int) = 0) = false := rfl
    have s3 : Nat.blt (-1 : Int).natAbs 1000000 = true := rfl
    simp only [rngV, s1, s2, s3, Bool.not_false, Bool.and_self, if_true, en]
  rw [e]
  refine sw_forL Iv h0 (fun k x r h hx hv => ?_) fun r h hv => hd r h (by rw [rangeI_len] at hv; exact hv)
  obtain ⟨hk, rfl⟩ := rangeI_at hx
  have := hs k r h hk hv
  rw [show i + (k : Int) * -1 = i - k by omega]
  exact this
/-! ### _law_fault, _law_are_due -/
noncomputable def faultB : S := (.seq (.tryx (.seq (.ex (.cval (.v 0) .nil))
  .skip) [(0, 0, [.c (.str (Str.ofString "number")), .f 0, .f 1]), (2, 0, [.c (.str (Str.ofString "row")), .f 0]), (4, 0, [.c (.str (Str.ofString "rule")), .f 0, .f 1]), (1, 0, [.c (.str (Str.ofString "sum")), .f 0]), (3, 0, [.c (.str (Str.ofString "table")), .f 0]), (6, 0, [.c (.str (Str.ofString "many")), .f 0, .f 1, .f 2]), (5, 0, [.c (.str (Str.ofString "unlike")), .f 0])])
  (.seq (.ret (.c .none))
  .skip))
noncomputable def faultF : Fn := ⟨1, 2, [], false, faultB⟩
/-- what _law_fault tells of an exception -/
noncomputable def faultV : Nat → List PyData → Option PyData
  | 0, [a, b] => some (.tuple [.str (Str.ofString "number"), a, b])
  | 1, [a] => some (.tuple [.str (Str.ofString "sum"), a])
  | 2, [a] => some (.tuple [.str (Str.ofString "row"), a])
  | 3, [a] => some (.tuple [.str (Str.ofString "table"), a])
  | 4, [a, b] => some (.tuple [.str (Str.ofString "rule"), a, b])
  | 5, [a] => some (.tuple [.str (Str.ofString "unlike"), a])
  | 6, [a, b, c] => some (.tuple [.str (Str.ofString "many"), a, b, c])
  | _, _ => none
theorem isCal_of {cs : CSem} {w : D} {ds : List D} {h : Hh} {d : D} {h' : Hh} : calV cs w ds h ≠ .bad → isCal w = true := by
  cases w <;> intro h <;> first | rfl | exact (h rfl).elim
theorem fault_exn {P : Prog} {n i : Nat} (hf : P.fn i = some faultF) {w : D} {h h' : Hh} {c : Nat} {fs : List PyData} {d : PyData} (e : calV (CS P n) w [] h = .exn c (fs.map .p) h') (q : faultV c fs = some d) : CS P (n + 1) (.fn i) [w] h = .ok (.p d) h' := by
  rw [CS_fn hf]
  have ic : isCal w = true := by cases w <;> first | rfl | cases e
  have := fn_run1 (F := faultF) (cs := CS P n) (ds := [w]) (h := h) (Q := fun x h2 => x = .p d ∧ h2 = h') (X := fun _ _ _ => False) rfl rfl rfl (by
    show SW (ex faultB _ ⟨[some w, none], []⟩ h) _
    unfold faultB
    simp only [s_seq, s_try, s_ex, e_cval, e_v, nth_zero, ow_some, a_nil, ic, true_and, e, Res.back, Y.back]
    show catchP _ _ c (fs.map .p) h'
    unfold faultV at q
    split at q <;> first | (cases q; exact ⟨rfl, rfl⟩) | cases q)
  obtain ⟨d', h2, e3, rfl, rfl⟩ := this.ok
  exact e3
theorem fault_ok {P : Prog} {n i : Nat} (hf : P.fn i = some faultF) {w : D} {h h' : Hh} {x : D} (e : calV (CS P n) w [] h = .ok x h') : CS P (n + 1) (.fn i) [w] h = .ok (.p .none) h' := by
  rw [CS_fn hf]
  have ic : isCal w = true := by cases w <;> first | rfl | cases e
  have := fn_run1 (F := faultF) (cs := CS P n) (ds := [w]) (h := h) (Q := fun x h2 => x = .p .none ∧ h2 = h') (X := fun _ _ _ => False) rfl rfl rfl (by
    show SW (ex faultB _ ⟨[some w, none], []⟩ h) _
    unfold faultB
    simp only [s_seq, s_try, s_ex, s_ret, s_skip, e_c, e_cval, e_v, nth_zero, ow_some, a_nil, ic, true_and, e, Res.back, Y.back, ew_ok])
  obtain ⟨d', h2, e3, rfl, rfl⟩ := this.ok
  exact e3
noncomputable def dueB (j : Nat) : S := (.seq (.ret (.pr .all (.cons (.imm (.comp (.tup (.cons (.nm 1) (.cons (.nm 2) .nil))) (.it (.v 0)) .no (.cmp .eq (.pr .repr (.cons (.call false j (.cons (.v 1) .nil)) .nil)) (.pr .repr (.cons (.v 2) .nil))))) .nil)))
  .skip)
noncomputable def dueF (j : Nat) : Fn := ⟨1, 3, [], false, dueB j⟩
theorem all_trues : ∀ n : Nat, (List.replicate n (PyData.bool true)).all allTru = true ∧ (List.replicate n (PyData.bool true)).all tru = true
  | 0 => ⟨rfl, rfl⟩
  | n + 1 => by
    rw [List.replicate_succ, List.all_cons, List.all_cons, (all_trues n).1, (all_trues n).2]
    exact ⟨rfl, rfl⟩
theorem allP_rep {d : PyData} : ∀ n : Nat, allP (List.replicate n (.p d)) = some (List.replicate n d)
  | 0 => rfl
  | n + 1 => by
    show (match allP (List.replicate n (D.p d)) with | some ds => some (d :: ds) | none => none) = _
    rw [allP_rep n]; rfl
/-- each attempt does what is due, and leaves the heap -/
theorem due_ok {P : Prog} {n i j : Nat} (hf : P.fn i = some (dueF j)) {l : Nat} {xs : List D} {h : Hh} (hl : nth h l = some (.lst xs)) (hn : xs.length ≤ 1000) (hx : ∀ x ∈ xs, ∃ w d, x = .tup [w, .p d] ∧ reprOk d = true ∧ CS P n (.fn j) [w] h = .ok (.p d) h) : CS P (n + 1) (.fn i) [.ref l] h = .ok (.p (.bool true)) h := by
  rw [CS_fn hf]
  have := fn_run1 (F := dueF j) (cs := CS P n) (ds := [.ref l]) (h := h) (Q := fun x h2 => x = .p (.bool true) ∧ h2 = h) (X := fun _ _ _ => False) rfl rfl rfl (by
    show SW (ex (dueB j) _ ⟨[some (.ref l), none, none], []⟩ h) _
    unfold dueB
    have ew : walkV h (.ref l) = some (.rd l xs.length) := by unfold walkV; dsimp only; rw [hl]
    have el : Nat.ble (Wk.rd l xs.length).len LINE = true := Nat.ble_eq.mpr (by show xs.length ≤ 16000000; omega)
    simp only [s_seq, s_ret, e_pr, a_cons, a_nil, e_imm, l_comp, i_it, e_v, nth_zero, ow_some, ew, el, true_and, ew_calm]
    show EW (compW _ _ _ _ _) _ _
    refine ew_compW (fun k acc h2 => h2 = h ∧ acc = List.replicate k (.p (.bool true))) ⟨rfl, rfl⟩ (fun _ _ _ z => by rw [z.1]; exact hl) (fun k x acc h2 hk hv => ?_) fun acc h2 hv => ?_
    · obtain ⟨rfl, rfl⟩ := hv
      obtain ⟨w, d, rfl, rd, ec⟩ := hx x (List.mem_of_getElem? hk)
      simp only [b_no, asgT, asgTs, seqT, List.set_cons_zero, List.set_cons_succ, ow_some, e_cmp, e_pr, a_cons, a_nil, e_callF, e_v, nth_zero, nth_succ, ec, Res.back, Y.back, ew_ok, pr_repr rd, cmp_eq_s, decide_true]
      exact ⟨trivial, by rw [List.replicate_succ']; rfl⟩
    · obtain ⟨rfl, rfl⟩ := hv
      have : mkLst (List.replicate xs.length (D.p (.bool true))) = .p (.list (List.replicate xs.length (.bool true))) := by unfold mkLst; rw [allP_rep]
      rw [this]
      have q : prV .all h2 [.p (.list (List.replicate xs.length (.bool true)))] = some (.p (.bool true)) := by
        show pAll h2 [.p (.list (List.replicate xs.length (.bool true)))] = _
        unfold pAll plainS
        dsimp only
        rw [if_pos (all_trues _).1, (all_trues _).2]
        rfl
      rw [q]
      exact ⟨rfl, rfl⟩)
  obtain ⟨d', h2, e3, rfl, rfl⟩ := this.ok
  exact e3
/-! ### _law_no_number -/
noncomputable def nonumB (j : Nat) : S := (.seq (.ret (.call true j (.cons (.v 0) (.cons (.imm (.disp (.cons (.bin .sub (.v 1) (.c (.int 1))) (.cons (.bin .add (.v 2) (.c (.int 1))) (.cons (.c .none) (.cons (.c (.bool true)) (.cons (.c (.str (Str.ofString "1"))) (.cons (.tup (.cons (.c (.int 1)) .nil)) (.cons (.bin .sub (.v 1) (.c (.int 9))) .nil))))))))) .nil))))
  .skip)
noncomputable def nonumF (j : Nat) : Fn := ⟨3, 3, [], false, nonumB j⟩
noncomputable def nonums (lo hi : Int) : List PyData := [.int (lo - 1), .int (hi + 1), .none, .bool true, .str (Str.ofString "1"), .tuple [.int 1], .int (lo - 9)]
theorem nonum_ok {P : Prog} {n i j k : Nat} (hf : P.fn i = some (nonumF j)) (hj : P.fn j = some (pickF k)) (hk : P.fn k = some drawF) {lo hi : Int} : PenS P (n + 3) i [iD lo, iD hi] 1 fun d => d ∈ nonums lo hi := by
  intro o c po hc
  rw [CS_fn hf]
  have := fn_run1 (F := nonumF j) (cs := CS P (n + 2)) (ds := [.ref 0, iD lo, iD hi]) (h := [o]) (Q := fun d h => ∃ x o', d = .p x ∧ h = [o'] ∧ PenOk o' (c + 1) ∧ x ∈ nonums lo hi) (X := fun _ _ _ => False) rfl rfl rfl (by
    show SW (ex (nonumB j) _ ⟨[some (.ref 0), some (iD lo), some (iD hi)], []⟩ [o]) _
    unfold nonumB
    simp only [s_seq, s_ret, e_v, e_callT, e_imm, l_disp, e_tup, e_bin, e_c, a_cons, a_nil, nth_zero, nth_succ, ow_some, bin_sub, bin_add]
    refine ⟨rfl, rfl, ?_⟩
    have e : mkLst [iD (lo - 1), iD (hi + 1), D.p .none, D.p (.bool true), D.p (.str (Str.ofString "1")), mkTup [iD 1], iD (lo - 9)] = .p (.list (nonums lo hi)) := rfl
    rw [e]
    exact ew_pen (pick_ok hj hk (ps := nonums lo hi) (by simp [nonums]) (by simp [nonums])) rfl rfl po (by omega) fun d o' p' q => ⟨d, o', rfl, rfl, p', q⟩)
  obtain ⟨d, h', e, x, o', rfl, rfl, p', hx⟩ := this.ok
  exact ⟨x, o', [], e, p', hx⟩
end Y

/-! Y48: what the program asks of numbers; sums by places. -/
namespace Y
open PySem
theorem ew_if {α : Type} {b : Bool} {m1 m2 : Res α} {Q : α → Hh → Prop} {X : XP} : EW (if b then m1 else m2) Q X = ((b = true → EW m1 Q X) ∧ (b = false → EW m2 Q X)) := by cases b <;> simp
noncomputable def noDict : PyData → Bool
  | .dict _ => false
  | _ => true
noncomputable def isW : PyData → Bool
  | .int _ => true
  | _ => false
noncomputable def isB : PyData → Bool
  | .bool _ => true
  | _ => false
theorem isi_int {h : Hh} {d : PyData} (hd : noDict d = true) : isiV h (.p d) ["int"] = some (isW d || isB d) := by
  cases d <;> first | (exfalso; cases hd; done) | (simp [isiV, tyD, isT, isW, isB])
theorem isi_bool {h : Hh} {d : PyData} (hd : noDict d = true) : isiV h (.p d) ["bool"] = some (isB d) := by
  cases d <;> first | (exfalso; cases hd; done) | (simp [isiV, tyD, isT, isW, isB])
noncomputable def wholeB : S := (.seq (.ret (.and (.isi (.v 0) ["int"]) (.not (.isi (.v 0) ["bool"])))) .skip)
noncomputable def wholeF : Fn := ⟨1, 1, [], false, wholeB⟩
theorem whole_ok {P : Prog} {n i : Nat} (hf : P.fn i = some wholeF) {d : PyData} (hd : noDict d = true) (h : Hh) : CS P (n + 1) (.fn i) [.p d] h = .ok (.p (.bool (isW d))) h := by
  rw [CS_fn hf]
  have := fn_run1 (F := wholeF) (cs := CS P n) (ds := [.p d]) (h := h) (Q := fun x h2 => x = .p (.bool (isW d)) ∧ h2 = h) (X := fun _ _ _ => False) rfl rfl rfl (by
    show SW (ex wholeB _ ⟨[some (.p d)], []⟩ h) _
    unfold wholeB
    simp only [s_seq, s_ret, e_and, e_isi, e_not, e_v, nth_zero, ow_some, isi_int hd, isi_bool hd, tru_b]
    cases d <;> first | exact ⟨rfl, rfl⟩ | exact ⟨rfl, trivial⟩ | cases hd)
  obtain ⟨d', h2, e3, rfl, rfl⟩ := this.ok
  exact e3
theorem whole_iso {P : Prog} {n i : Nat} (hf : P.fn i = some wholeF) {d : PyData} (hd : noDict d = true) (h : Hh) : isoCall (CS P (n + 1)) i [.p d] h = .ok (.p (.bool (isW d))) h := iso_ok rfl (whole_ok hf hd [])
/-- need_between: the ends, None for no end -/
noncomputable def oD : Option Int → D
  | some i => iD i
  | none => .p .none
noncomputable def betw (d : PyData) (lo hi : Option Int) : Bool := match d with
  | .int i => (match lo with
    | some a => decide (a ≤ i)
    | none => true) && (match hi with
    | some b => decide (i ≤ b)
    | none => true)
  | _ => false
noncomputable def betwB (j : Nat) : S := (.seq (.ite (.not (.call true j (.cons (.v 1) .nil))) (.seq (.raise 0 (.cons (.v 0) (.cons (.v 1) .nil)))
  .skip) .skip)
  (.seq (.ite (.or (.and (.cmp .isnt (.v 2) (.c .none)) (.cmp .lt (.v 1) (.v 2))) (.and (.cmp .isnt (.v 3) (.c .none)) (.cmp .gt (.v 1) (.v 3)))) (.seq (.raise 0 (.cons (.v 0) (.cons (.v 1) .nil)))
  .skip) .skip)
  .skip))
noncomputable def betwF (j : Nat) : Fn := ⟨4, 4, [], false, betwB j⟩
theorem isnt_i (h : Hh) (i : Int) : cmpV .isnt h (iD i) (.p .none) = some true := rfl
theorem isnt_n (h : Hh) : cmpV .isnt h (.p .none) (.p .none) = some false := rfl
theorem betw_ok {P : Prog} {n i j : Nat} (hf : P.fn i = some (betwF j)) (hj : P.fn j = some wholeF) {w d : PyData} {lo hi : Option Int} (hd : noDict d = true) (h : Hh) : CS P (n + 2) (.fn i) [.p w, .p d, oD lo, oD hi] h = if betw d lo hi then .ok (.p .none) h else .exn 0 [.p w, .p d] h := by
  rw [CS_fn hf]
  have := fn_run1 (F := betwF j) (cs := CS P (n + 1)) (ds := [.p w, .p d, oD lo, oD hi]) (h := h) (Q := fun x h2 => betw d lo hi = true ∧ x = .p .none ∧ h2 = h) (X := fun c fs h2 => betw d lo hi = false ∧ c = 0 ∧ fs = [.p w, .p d] ∧ h2 = h) rfl rfl rfl (by
    show SW (ex (betwB j) _ ⟨[some (.p w), some (.p d), some (oD lo), some (oD hi)], []⟩ h) _
    unfold betwB
    simp only [s_seq, s_ite, e_not, e_callT, a_cons, a_nil, e_v, nth_zero, nth_succ, ow_some, whole_iso hj hd, ew_ok, tru_p, tru_b]
    cases q : isW d with
    | false =>
      simp only [Bool.not_false, tw_t, s_seq, s_raise, a_cons, a_nil, e_v, nth_zero, nth_succ, ow_some]
      refine ⟨?_, trivial, trivial, trivial⟩
      cases d <;> first | rfl | cases q
    | true =>
      obtain ⟨z, rfl⟩ : ∃ z, d = .int z := by cases d <;> first | exact ⟨_, rfl⟩ | cases q
      simp only [Bool.not_true, tw_f, s_skip]
      cases lo <;> cases hi <;> simp only [oD, s_ite, s_skip, e_or, e_and, e_cmp, e_c, e_v, nth_zero, nth_succ, ow_some, isnt_i, isnt_n, tru_b, tw_t, tw_f, cmp_lt, cmp_gt, tw_dec, s_seq, s_raise, a_cons, a_nil, betw, Bool.and_true, Bool.true_and, Bool.and_eq_true, Bool.and_eq_false_iff, decide_eq_true_eq, decide_eq_false_iff_not, and_self, and_true] <;> omega)
  cases q : runFn (betwF j) (CS P (n + 1)) [.p w, .p d, oD lo, oD hi] h with
  | ok x h2 => rw [q] at this; obtain ⟨a, rfl, rfl⟩ := this; rw [if_pos a]
  | exn c fs h2 => rw [q] at this; obtain ⟨a, rfl, rfl, rfl⟩ := this; rw [a]; rfl
  | bad => rw [q] at this; exact this.elim
theorem betw_iso {P : Prog} {n i j : Nat} (hf : P.fn i = some (betwF j)) (hj : P.fn j = some wholeF) {w d : PyData} {lo hi : Option Int} (hd : noDict d = true) (h : Hh) : isoCall (CS P (n + 2)) i [.p w, .p d, oD lo, oD hi] h = if betw d lo hi then .ok (.p .none) h else .exn 0 [.p w, .p d] h := by
  have hp : ([.p w, .p d, oD lo, oD hi] : List D).all D.isP = true := by cases lo <;> cases hi <;> rfl
  have := betw_ok (n := n) (w := w) (lo := lo) (hi := hi) hf hj hd []
  cases q : betw d lo hi with
  | true => rw [q] at this; rw [iso_ok hp this]; rfl
  | false => rw [q] at this; rw [iso_exn hp this rfl]; rfl
/-! ### sums over places -/
noncomputable def csum (pl vl : Int → Int) (lo : Int) : Nat → Nat → Int
  | 0, _ => 0
  | t + 1, p => csum pl vl lo t p + if pl (lo + t) = p then vl (lo + t) else 0
theorem csum_zero {pl vl : Int → Int} {lo : Int} {p : Nat} : ∀ {t : Nat}, (∀ j : Nat, j < t → pl (lo + j) ≠ p) → csum pl vl lo t p = 0
  | 0, _ => rfl
  | t + 1, h => by
    unfold csum
    rw [csum_zero fun j hj => h j (by omega), if_neg (h t (by omega))]; rfl
theorem csum_app {pl vl : Int → Int} {lo : Int} {p a : Nat} : ∀ b : Nat, csum pl vl lo (a + b) p = csum pl vl lo a p + csum pl vl (lo + a) b p
  | 0 => by
    show csum pl vl lo a p = csum pl vl lo a p + 0
    omega
  | b + 1 => by
    show csum pl vl lo (a + b) p + _ = _
    rw [csum_app b]
    show csum pl vl lo a p + csum pl vl (lo + a) b p + (if pl (lo + ((a + b : Nat) : Int)) = p then vl (lo + ((a + b : Nat) : Int)) else 0) = _ + (csum pl vl (lo + a) b p + _)
    rw [show lo + ((a + b : Nat) : Int) = lo + a + b by omega]
    omega
/-- only places within count -/
theorem csum_win {pl vl : Int → Int} {lo : Int} {a t b p : Nat} (h1 : ∀ j : Nat, j < a → pl (lo + j) ≠ p) (h2 : ∀ j : Nat, j < b → pl (lo + a + t + j) ≠ p) : csum pl vl lo (a + t + b) p = csum pl vl (lo + a) t p := by
  rw [csum_app, csum_app, csum_zero h1, csum_zero (lo := lo + ((a + t : Nat) : Int)) fun j hj => by
    have := h2 j hj
    rwa [show lo + a + t + j = lo + ((a + t : Nat) : Int) + j by omega] at this]
  omega
theorem csum_congr {pl pl' vl vl' : Int → Int} {lo : Int} {p : Nat} : ∀ {t : Nat}, (∀ k, pl k = pl' k) → (∀ k, vl k = vl' k) → csum pl vl lo t p = csum pl' vl' lo t p
  | 0, _, _ => rfl
  | t + 1, h, h' => by
    unfold csum
    rw [csum_congr h h', h, h']
theorem csum_step {pl vl : Int → Int} {lo : Int} {n t : Nat} (h0 : 0 ≤ pl (lo + t)) (h1 : pl (lo + t) < n) : tab n (upd (csum pl vl lo t) (pl (lo + t)).toNat (csum pl vl lo t (pl (lo + t)).toNat + vl (lo + t))) = tab n (csum pl vl lo (t + 1)) := tab_ext fun p hp => by
  unfold upd
  show _ = csum pl vl lo t p + _
  by_cases e : p = (pl (lo + t)).toNat
  · subst e
    rw [if_pos rfl, if_pos (by omega)]
  · rw [if_neg e, if_neg (by omega)]; omega
theorem csum_stay {pl vl : Int → Int} {lo : Int} {n t : Nat} (h : ¬ (0 ≤ pl (lo + t) ∧ pl (lo + t) < n)) : tab n (csum pl vl lo t) = tab n (csum pl vl lo (t + 1)) := tab_ext fun p hp => by
  show _ = csum pl vl lo t p + _
  rw [if_neg (by omega)]; omega
theorem csum_bound {pl vl : Int → Int} {lo : Int} {p : Nat} (h : ∀ k, (vl k).natAbs ≤ 1) : ∀ t, (csum pl vl lo t p).natAbs ≤ t
  | 0 => Nat.le_refl _
  | t + 1 => by
    show (csum pl vl lo t p + _).natAbs ≤ _
    have := csum_bound (pl := pl) (lo := lo) (p := p) h t
    have := h (lo + t)
    split <;> omega
/-! ### a row times one and a power -/
noncomputable def mul1 (f : Nat → Int) (w : Nat) (s : Int) : Nat → Int := fun p => if w ≤ p then f p + s * f (p - w) else f p
end Y

/-! Y49: defs that several laws share. -/
namespace Y
open PySem
noncomputable def need3B (j1 j0 : Nat) : S := (.seq (.ex (.call true j1 (.cons (.c (.str (Str.ofString "m"))) (.cons (.v 0) (.cons (.c (.int 1)) (.cons (.g (Str.ofString "MOST_M") (.int 30)) .nil))))))
  (.seq (.ex (.call true j1 (.cons (.c (.str (Str.ofString "r"))) (.cons (.v 1) (.cons (.c (.int 0)) (.cons (.v 0) .nil))))))
  (.seq (.ite (.or (.not (.call true j0 (.cons (.v 2) .nil))) (.cmp .notin (.v 2) (.tup (.cons (.c (.int 1)) (.cons (.neg (.c (.int 1))) .nil))))) (.seq (.raise 0 (.cons (.c (.str (Str.ofString "sign"))) (.cons (.v 2) .nil)))
  .skip) .skip)
  (.seq (.ex (.call true j1 (.cons (.c (.str (Str.ofString "long"))) (.cons (.v 3) (.cons (.c (.int 0)) (.cons (.g (Str.ofString "MOST_LONG") (.int 60)) .nil))))))
  .skip))))
noncomputable def need3F (j1 j0 : Nat) : Fn := ⟨4, 4, [], false, need3B j1 j0⟩
noncomputable def need3 (m r s l : PyData) : Option (Str × PyData) :=
  if betw m (some 1) (some 30) then (match m with
    | .int i => if betw r (some 0) (some i) then (match s with
      | .int z => if z = 1 ∨ z = -1 then (if betw l (some 0) (some 60) then none else some ("long", l)) else some ("sign", s)
      | _ => some ("sign", s)) else some ("r", r)
    | _ => none) else some ("m", m)
theorem notin_1 {h : Hh} {z : Int} : cmpV .notin h (iD z) (mkTup [iD 1, iD (-1)]) = some (!decide (z = 1 ∨ z = -1)) := by
  show (match inD h (iD z) (mkTup [iD 1, iD (-1)]) with | some k => some (!k) | none => none) = _
  have e : inD h (iD z) (mkTup [iD 1, iD (-1)]) = some ([PyData.int 1, .int (-1)].any fun y => PyData.eqv y (.int z)) := by
    show (if flat (.int z) && flats [PyData.int 1, .int (-1)] then some ([PyData.int 1, .int (-1)].any fun y => PyData.eqv y (.int z)) else none) = _
    rw [if_pos (by rfl)]
  rw [e]
  have : ([PyData.int 1, .int (-1)].any fun y => PyData.eqv y (.int z)) = decide (z = 1 ∨ z = -1) := by
    by_cases a : z = 1
    · subst a; decide
    · by_cases b : z = -1
      · subst b; decide
      · have a' : ¬ (1 : Int) = z := fun h => a h.symm
        have b' : ¬ (-1 : Int) = z := fun h => b h.symm
        simp [PyData.eqv, a, b, a', b']
  rw [this]
theorem need3_ok {P : Prog} {n i j1 j0 : Nat} (p2 : P.fn i = some (need3F j1 j0)) (p1 : P.fn j1 = some (betwF j0)) (p0 : P.fn j0 = some wholeF) {m r s l : PyData} (hm : noDict m = true) (hr : noDict r = true) (hs : noDict s = true) (hl : noDict l = true) (h : Hh) : CS P (n + 3) (.fn i) [.p m, .p r, .p s, .p l] h = match need3 m r s l with
    | none => .ok (.p .none) h
    | some (w, d) => .exn 0 [.p (.str w), .p d] h := by
  rw [CS_fn p2]
  have := fn_run1 (F := need3F j1 j0) (cs := CS P (n + 2)) (ds := [.p m, .p r, .p s, .p l]) (h := h) (Q := fun x h2 => need3 m r s l = none ∧ x = .p .none ∧ h2 = h) (X := fun c fs h2 => ∃ w d, need3 m r s l = some (w, d) ∧ c = 0 ∧ fs = [.p (.str w), .p d] ∧ h2 = h) rfl rfl rfl (by
    show SW (ex (need3B j1 j0) _ ⟨[some (.p m), some (.p r), some (.p s), some (.p l)], []⟩ h) _
    unfold need3B
    have b1 := fun h => betw_iso (n := n) (w := .str "m") (lo := some 1) (hi := some 30) p1 p0 hm h
    have b3 := fun h => betw_iso (n := n) (w := .str "long") (lo := some 0) (hi := some 60) p1 p0 hl h
    simp only [s_seq, s_ex, e_callT, a_cons, a_nil, e_c, e_g, e_v, nth_zero, nth_succ, ow_some]
    simp only [oD] at b1 b3
    rw [show isoCall (CS P (n + 2)) j1 [D.p (.str (Str.ofString "m")), .p m, iD 1, iD 30] h = _ from b1 h, ew_if]
    refine ⟨fun q1 => ?_, fun q1 => ?_⟩
    · rw [ew_ok]
      obtain ⟨mi, rfl⟩ : ∃ mi, m = .int mi := by cases m <;> first | exact ⟨_, rfl⟩ | cases q1
      have b2 := fun h => betw_iso (n := n) (w := .str "r") (lo := some 0) (hi := some mi) p1 p0 hr h
      simp only [oD] at b2
      rw [show isoCall (CS P (n + 2)) j1 [D.p (.str (Str.ofString "r")), .p r, iD 0, iD mi] h = _ from b2 h, ew_if]
      refine ⟨fun q2 => ?_, fun q2 => ?_⟩
      · rw [ew_ok]
        simp only [s_seq, s_ite, s_ex, s_raise, s_skip, e_or, e_not, e_cmp, e_tup, e_neg, e_callT, a_cons, a_nil, e_c, e_g, e_v, nth_zero, nth_succ, ow_some, whole_iso (n := n + 1) p0 hs, ew_ok, tru_p, tru_b]
        cases q : isW s with
        | false =>
          simp only [Bool.not_false, tw_t]
          refine ⟨"sign", s, ?_, by trivial, by trivial, by trivial⟩
          cases s <;> first | (simp [need3, q1, q2]; done) | cases q
        | true =>
          obtain ⟨z, rfl⟩ : ∃ z, s = .int z := by cases s <;> first | exact ⟨_, rfl⟩ | cases q
          have nb : Nat.ble [iD 1, iD (-1)].length LINE = true := rfl
          simp only [Bool.not_true, tw_f, neg_i, ow_some, nb, true_and, notin_1, tru_b, tw_ndec]
          refine ⟨fun q3 => ?_, fun q3 => ?_⟩
          · rw [show isoCall (CS P (n + 2)) j1 [D.p (.str (Str.ofString "long")), .p l, iD 0, iD 60] h = _ from b3 h, ew_if]
            refine ⟨fun q4 => ?_, fun q4 => ?_⟩
            · rw [ew_ok]
              simp [need3, q1, q2, q3, q4]
            · refine ⟨"long", l, ?_⟩
              simp [need3, q1, q2, q3, q4]
          · refine ⟨"sign", .int z, ?_⟩
            simp [need3, q1, q2, q3]
      · exact ⟨"r", r, by simp [need3, q1, q2], by trivial, by trivial, by trivial⟩
    · exact ⟨"m", m, by simp [need3, q1], by trivial, by trivial, by trivial⟩)
  cases q : runFn (need3F j1 j0) (CS P (n + 2)) [.p m, .p r, .p s, .p l] h with
  | ok x h2 => rw [q] at this; obtain ⟨a, rfl, rfl⟩ := this; rw [a]
  | exn c fs h2 => rw [q] at this; obtain ⟨w, d, a, rfl, rfl, rfl⟩ := this; rw [a]
  | bad => rw [q] at this; exact this.elim
theorem need3_iso {P : Prog} {n i j1 j0 : Nat} (p2 : P.fn i = some (need3F j1 j0)) (p1 : P.fn j1 = some (betwF j0)) (p0 : P.fn j0 = some wholeF) {m r s l : PyData} (hm : noDict m = true) (hr : noDict r = true) (hs : noDict s = true) (hl : noDict l = true) (h : Hh) : isoCall (CS P (n + 3)) i [.p m, .p r, .p s, .p l] h = match need3 m r s l with
    | none => .ok (.p .none) h
    | some (w, d) => .exn 0 [.p (.str w), .p d] h := by
  have := need3_ok (n := n) p2 p1 p0 hm hr hs hl []
  cases q : need3 m r s l with
  | none => rw [q] at this; rw [iso_ok rfl this]
  | some z => rw [q] at this; rw [iso_exn rfl this rfl]
theorem need3_none {m r s : Int} {N : Nat} (h1 : 1 ≤ m ∧ m ≤ 30) (h2 : 0 ≤ r ∧ r ≤ m) (h3 : s = 1 ∨ s = -1) (h4 : N ≤ 60) : need3 (.int m) (.int r) (.int s) (.int N) = none := by
  have h5 : (N : Int) ≤ 60 := by omega
  simp [need3, betw, h1, h2, h3, h5]

noncomputable def sum3B (j2 : Nat) : S := (.seq (.ex (.call true j2 (.cons (.v 0) (.cons (.v 1) (.cons (.v 2) (.cons (.v 3) .nil))))))
  (.seq (.asg (.nm 4) (.mut (.rep (.disp (.cons (.c (.int 0)) .nil)) (.bin .add (.v 3) (.c (.int 1))))))
  (.seq (.for_ (.nm 5) (.rng2 (.bin .sub (.neg (.v 3)) (.c (.int 2))) (.bin .add (.v 3) (.c (.int 3)))) (.seq (.asg (.nm 6) (.bin .add (.bin .mul (.v 0) (.bin .fdiv (.bin .mul (.v 5) (.bin .sub (.v 5) (.c (.int 1)))) (.c (.int 2)))) (.bin .mul (.v 1) (.v 5))))
  (.seq (.ite (.chn .le .le (.c (.int 0)) (.v 6) (.v 3)) (.seq (.augs (.v 4) (.v 6) .add (.ife (.cmp .eq (.bin .mod (.v 5) (.c (.int 2))) (.c (.int 1))) (.v 2) (.c (.int 1))))
  .skip) .skip)
  .skip)))
  (.seq (.ret (.pr .tup (.cons (.v 4) .nil)))
  .skip))))
noncomputable def sum3F (j2 : Nat) : Fn := ⟨4, 7, [], false, sum3B j2⟩
noncomputable def plc (m r k : Int) : Int := m * (k * (k - 1) / 2) + r * k
noncomputable def sg (s k : Int) : Int := if k % 2 = 1 then s else 1
noncomputable def Ssum (m r s : Int) (N : Nat) : List Int := tab (N + 1) (csum (plc m r) (sg s) (-N - 2) (2 * N + 5))
theorem plc_def (m r k : Int) : m * (k * (k - 1) / 2) + r * k = plc m r k := rfl
theorem aug_add (i j : Int) : augV .add (iD i) (iD j) = some (iD (i + j)) := rfl
theorem nth_last {α : Type} {l : List α} {x : α} : nth (l ++ [x]) l.length = some x := by rw [nth_eq]; simp
theorem set_last {α : Type} {l : List α} {x y : α} : (l ++ [x]).set l.length y = l ++ [y] := by simp
theorem sum3_ok {P : Prog} {n i j2 j1 j0 : Nat} (p3 : P.fn i = some (sum3F j2)) (p2 : P.fn j2 = some (need3F j1 j0)) (p1 : P.fn j1 = some (betwF j0)) (p0 : P.fn j0 = some wholeF) {m r s : Int} {N : Nat} (h1 : 1 ≤ m ∧ m ≤ 30) (h2 : 0 ≤ r ∧ r ≤ m) (h3 : s = 1 ∨ s = -1) (h4 : N ≤ 60) : ∃ h', CS P (n + 4) (.fn i) [iD m, iD r, iD s, iD N] [] = .ok (iT (Ssum m r s N)) h' := by
  rw [CS_fn p3]
  have := fn_run1 (F := sum3F j2) (cs := CS P (n + 3)) (ds := [iD m, iD r, iD s, iD N]) (h := []) (Q := fun x h2 => x = iT (Ssum m r s N)) (X := fun c fs h2 => False) rfl rfl rfl (by
    show SW (ex (sum3B j2) _ ⟨[some (iD m), some (iD r), some (iD s), some (iD N), none, none, none], []⟩ []) _
    unfold sum3B
    simp (disch := omega) only [s_seq, s_ex, s_asg, e_callT, a_cons, a_nil, e_v, e_c, nth_zero, nth_succ, ow_some, need3_iso (n := n) p2 p1 p0 (m := .int m) (r := .int r) (s := .int s) (l := .int N) rfl rfl rfl rfl, need3_none h1 h2 h3 h4, ew_ok, e_mut, l_rep, l_disp, e_bin, bin_add, rep_i, asgT, List.set_cons_zero, List.set_cons_succ]
    refine ⟨rfl, ?_⟩
    simp (disch := omega) only [s_for, i_rng2, e_bin, e_neg, e_v, e_c, nth_zero, nth_succ, ow_some, neg_i, bin_sub, bin_add]
    rw [show (List.replicate ((N : Int) + 1).toNat 0) = tab (N + 1) (csum (plc m r) (sg s) (-N - 2) 0) from tab_rep]
    refine sw_rng (fun t ρ h => h = [iO (tab (N + 1) (csum (plc m r) (sg s) (-N - 2) t))] ∧ ∃ a b, ρ = ⟨[some (iD m), some (iD r), some (iD s), some (iD N), some (.ref 0), a, b], []⟩) (by omega) (by omega) ⟨rfl, _, _, rfl⟩ (fun t ρ h ht hv => ?_) fun ρ h hv => ?_
    · obtain ⟨rfl, a, b, rfl⟩ := hv
      have hl : nth [iO (tab (N + 1) (csum (plc m r) (sg s) (-N - 2) t))] 0 = some (iO (tab (N + 1) (csum (plc m r) (sg s) (-N - 2) t))) := rfl
      simp (disch := omega) only [asgT, List.set_cons_zero, List.set_cons_succ, ow_some, s_seq, s_asg, s_skip, e_bin, e_pr, a_cons, a_nil, e_v, e_c, nth_zero, nth_succ, bin_mul, bin_mul', bin_add, bin_sub, bin_fdiv, s_ite, e_chn, cmp_le, tw_dec, tru_b]
      simp only [plc_def]
      refine ⟨fun q0 => ⟨fun q1 => ?_, fun q1 => ?_⟩, fun q0 => ?_⟩
      · simp (disch := omega) only [s_augs, e_v, e_c, nth_zero, nth_succ, ow_some, get_tab hl, e_ife, e_cmp, e_bin, bin_mod, cmp_eq, tru_b, tw_dec, aug_add, set_tab hl]
        rw [← csum_step (n := N + 1) q0 (by omega)]
        exact ⟨fun z => ⟨by rw [sg, if_pos z]; rfl, _, _, rfl⟩, fun z => ⟨by rw [sg, if_neg z]; rfl, _, _, rfl⟩⟩
      · rw [← csum_stay (n := N + 1) (by omega)]
        exact ⟨rfl, _, _, rfl⟩
      · rw [← csum_stay (n := N + 1) (by omega)]
        exact ⟨rfl, _, _, rfl⟩
    · obtain ⟨rfl, a, b, rfl⟩ := hv
      simp only [s_seq, s_ret, s_skip, e_pr, a_cons, a_nil, e_v, nth_zero, nth_succ, ow_some, tup_iO (h := [iO _]) (l := 0) rfl]
      rw [show ((N : Int) + 3 - (-N - 2)).toNat = 2 * N + 5 by omega]
      rfl)
  obtain ⟨d', h2, e3, rfl⟩ := this.ok
  exact ⟨_, e3⟩

theorem allTru_ints : ∀ xs : List Int, (xs.map PyData.int).all allTru = true
  | [] => rfl
  | x :: xs => by rw [List.map_cons, List.all_cons, allTru_ints xs]; rfl
theorem tru_ints : ∀ xs : List Int, (xs.map PyData.int).any tru = xs.any (· != 0)
  | [] => rfl
  | x :: xs => by rw [List.map_cons, List.any_cons, List.any_cons, tru_ints xs]; rfl
theorem any_iT {h : Hh} {xs : List Int} : prV .any h [iT xs] = some (bl (xs.any (· != 0))) := by
  show pAny h [iT xs] = _
  unfold pAny plainS
  dsimp only
  rw [if_pos (allTru_ints xs), tru_ints]
theorem in_2 {h : Hh} {z a b : Int} : cmpV .in_ h (iD z) (.p (.tuple [.int a, .int b])) = some (decide (z = a ∨ z = b)) := by
  show inD h (iD z) (.p (.tuple [.int a, .int b])) = _
  have e : inD h (iD z) (.p (.tuple [.int a, .int b])) = some ([PyData.int a, .int b].any fun y => PyData.eqv y (.int z)) := by
    show (if flat (.int z) && flats [PyData.int a, .int b] then some ([PyData.int a, .int b].any fun y => PyData.eqv y (.int z)) else none) = _
    rw [if_pos (by rfl)]
  rw [e]
  by_cases h1 : z = a
  · subst h1; simp [PyData.eqv]
  · by_cases h2 : z = b
    · subst h2; simp [PyData.eqv]
    · have h1' : ¬ a = z := fun h => h1 h.symm
      have h2' : ¬ b = z := fun h => h2 h.symm
      simp [PyData.eqv, h1, h2, h1', h2']
theorem any_zeros : ∀ n : Nat, (List.replicate n (0 : Int)).any (· != 0) = false
  | 0 => rfl
  | n + 1 => by rw [List.replicate_succ, List.any_cons, any_zeros n]; rfl

theorem one_zeros {h : Hh} {n : Nat} (hn : n ≤ 100000) : catV h (mkLst [D.p (.int 1)]) (iL (List.replicate (n : Int).toNat 0)) = some ((tab (n + 1) (fun p => if p = 0 then 1 else 0)).map iD) := by
  rw [show mkLst [D.p (.int 1)] = iL [1] from rfl, cat_iL (by simp; omega), ← tab_one]; rfl

noncomputable def cutpB : S := (.seq (.asg (.nm 3) (.mut (.rep (.disp (.cons (.c (.int 0)) .nil)) (.bin .add (.v 2) (.c (.int 1))))))
  (.seq (.for_ (.nm 4) (.rng1 (.pr .len (.cons (.v 0) .nil))) (.seq (.ite (.cmp .ne (.ix (.v 0) (.v 4)) (.c (.int 0))) (.seq (.for_ (.nm 5) (.rng1 (.pr .min2 (.cons (.pr .len (.cons (.v 1) .nil)) (.cons (.bin .sub (.bin .add (.v 2) (.c (.int 1))) (.v 4)) .nil)))) (.seq (.set (.v 3) (.bin .add (.v 4) (.v 5)) (.bin .add (.ix (.v 3) (.bin .add (.v 4) (.v 5))) (.bin .mul (.ix (.v 0) (.v 4)) (.ix (.v 1) (.v 5)))))
  .skip))
  .skip) .skip)
  .skip))
  (.seq (.frz 3) (.seq (.ret (.v 3))
  .skip))))
noncomputable def cutpF : Fn := ⟨3, 6, [], false, cutpB⟩
noncomputable def cvf (f g : Nat → Int) (M : Nat) : Nat → Nat → Int
  | 0 => fun _ => 0
  | i + 1 => fun p => cvf f g M i p + if i ≤ p ∧ p < i + M then f i * g (p - i) else 0
theorem cvf_succ {f g : Nat → Int} {M i p : Nat} : cvf f g M (i + 1) p = cvf f g M i p + if i ≤ p ∧ p < i + M then f i * g (p - i) else 0 := rfl
noncomputable def cvj (f g : Nat → Int) (M i j : Nat) : Nat → Int := fun p => cvf f g M i p + if i ≤ p ∧ p < i + j then f i * g (p - i) else 0
theorem cvj_step {f g : Nat → Int} {M i j n : Nat} : tab n (upd (cvj f g M i j) (i + j) (cvj f g M i j (i + j) + f i * g j)) = tab n (cvj f g M i (j + 1)) := tab_ext fun p hp => by
  unfold upd cvj
  by_cases e : p = i + j
  · subst e
    rw [if_pos rfl, if_neg (by omega), if_pos (by omega), show i + j - i = j by omega]; omega
  · rw [if_neg e]
    by_cases q : i ≤ p ∧ p < i + j
    · rw [if_pos q, if_pos (by omega)]
    · rw [if_neg q, if_neg (by omega)]
theorem cut_ok {P : Prog} {n k : Nat} (p13 : P.fn k = some cutpF) {f g : Nat → Int} {L M N : Nat} {X Y : D} {h0 : Hh} (hL : L ≤ 1000) (hM : M ≤ 1000) (hN : N ≤ 1000) (hLN : L ≤ N + 1) (hlen : ∀ t, prV .len (h0 ++ t) [X] = some (iD L)) (hx : ∀ t (i : Int), 0 ≤ i → i < L → ixV (h0 ++ t) X (iD i) = some (iD (f i.toNat))) (hlen2 : ∀ t, prV .len (h0 ++ t) [Y] = some (iD M)) (hx2 : ∀ t (i : Int), 0 ≤ i → i < M → ixV (h0 ++ t) Y (iD i) = some (iD (g i.toNat))) (hf : ∀ i, i < L → -1000000 < f i ∧ f i < 1000000) : ∃ t, CS P (n + 1) (.fn k) [X, Y, iD N] h0 = .ok (iL (tab (N + 1) (cvf f g M L))) (h0 ++ t) := by
  rw [CS_fn p13]
  have := fn_run1 (F := cutpF) (cs := CS P n) (ds := [X, Y, iD N]) (h := h0) (Q := fun x h2 => x = iL (tab (N + 1) (cvf f g M L)) ∧ ∃ t, h2 = h0 ++ t) (X := fun c fs h2 => False) rfl rfl rfl (by
    show SW (ex cutpB _ ⟨[some X, some (Y), some (iD N), none, none, none], []⟩ h0) _
    unfold cutpB
    simp (disch := omega) only [s_seq, s_asg, e_mut, l_rep, l_disp, a_cons, a_nil, e_bin, e_v, e_c, nth_zero, nth_succ, ow_some, bin_add, rep_i, asgT, List.set_cons_zero, List.set_cons_succ, s_for, i_rng1, e_pr, hlen]
    refine ⟨rfl, ?_⟩
    rw [show (List.replicate ((N : Int) + 1).toNat 0) = tab (N + 1) (cvf f g M 0) from tab_rep]
    refine sw_rng (fun t ρ h => h = h0 ++ [iO (tab (N + 1) (cvf f g M t))] ∧ ∃ a b, ρ = ⟨[some X, some (Y), some (iD N), some (.ref h0.length), a, b], []⟩) (by omega) (by omega) ⟨rfl, _, _, rfl⟩ (fun t ρ h ht hv => ?_) fun ρ h hv => ?_
    · obtain ⟨rfl, a, b, rfl⟩ := hv
      have hft := hf t (by omega)
      simp (disch := omega) only [Int.zero_add, asgT, List.set_cons_zero, List.set_cons_succ, ow_some, s_seq, s_ite, s_skip, s_for, i_rng1, e_cmp, e_bin, e_ix, e_pr, a_cons, a_nil, e_v, e_c, nth_zero, nth_succ, hx, hlen, cmp_ne, bin_add, bin_sub, hlen2, pr_min2, tru_b, tw_ndec, Int.toNat_natCast]
      refine ⟨fun q => ?_, fun q => ?_⟩
      · refine ⟨?_, _, _, rfl⟩
        rw [tab_ext fun p hp => ?_]
        rw [cvf_succ, q]
        split <;> omega
      · have e0 : tab (N + 1) (cvf f g M t) = tab (N + 1) (cvj f g M t 0) := tab_ext fun p hp => by unfold cvj; rw [if_neg (by omega)]; omega
        rw [e0]
        have emin : (if (N : Int) + 1 - t < M then (N : Int) + 1 - t else (M : Int)) = ((min M (N + 1 - t) : Nat) : Int) := by split <;> omega
        rw [emin]
        refine sw_rng (fun j ρ h => h = h0 ++ [iO (tab (N + 1) (cvj f g M t j))] ∧ ∃ b, ρ = ⟨[some X, some (Y), some (iD N), some (.ref h0.length), some (iD t), b], []⟩) (by omega) (by omega) ⟨rfl, _, rfl⟩ (fun j ρ h hj hv => ?_) fun ρ h hv => ?_
        · obtain ⟨rfl, b, rfl⟩ := hv
          have hl : nth (h0 ++ [iO (tab (N + 1) (cvj f g M t j))]) h0.length = some (iO (tab (N + 1) (cvj f g M t j))) := nth_last
          simp (disch := omega) only [Int.zero_add, asgT, List.set_cons_zero, List.set_cons_succ, ow_some, s_seq, s_set, s_skip, e_bin, e_ix, e_v, e_c, nth_zero, nth_succ, hx, bin_add, bin_mul, ix_tab hl, hx2, set_tab hl, Int.toNat_natCast, set_last]
          rw [show ((t : Int) + j).toNat = t + j by omega, cvj_step]
          exact ⟨rfl, _, rfl⟩
        · obtain ⟨rfl, b, rfl⟩ := hv
          simp only [s_skip]
          refine ⟨?_, _, _, rfl⟩
          rw [tab_ext fun p hp => ?_]
          unfold cvj
          rw [cvf_succ]
          congr 1
          by_cases z : t ≤ p ∧ p < t + M
          · rw [if_pos z, if_pos (by omega)]
          · rw [if_neg z, if_neg (by omega)]
    · obtain ⟨rfl, a, b, rfl⟩ := hv
      simp only [s_seq, s_ret, s_skip, s_frz, frz_iO (r := ⟨[some X, some (Y), some (iD N), some (.ref h0.length), a, b], []⟩) (h := h0 ++ [iO _]) (l := h0.length) (i := 3) rfl nth_last, e_v, nth_zero, nth_succ, ow_some, List.set_cons_zero, List.set_cons_succ, set_last]
      exact ⟨by rw [show ((L : Int) - 0).toNat = L by omega], _, rfl⟩)
  obtain ⟨d', h2, e3, rfl, t, rfl⟩ := this.ok
  exact ⟨t, e3⟩

theorem set_same {h : Hh} {l : Nat} {o : Ob} (hl : nth h l = some o) : h.set l o = h := by
  rw [nth_eq] at hl
  apply List.ext_getElem?
  intro j
  rw [List.getElem?_set]
  by_cases e : l = j
  · subst e
    rw [if_pos rfl, if_pos (List.getElem?_eq_some_iff.mp hl).1, hl]
  · rw [if_neg e]
theorem clean_iO (xs : List Int) : obClean (iO xs) = true := by
  show (xs.map iD).all D.isP = true
  rw [List.all_map]
  exact List.all_eq_true.mpr fun _ _ => rfl

theorem cut_pp {P : Prog} {n k : Nat} (p13 : P.fn k = some cutpF) {f g : Nat → Int} {L M N : Nat} {X Y : PyData} (hX : X = .list ((tab L f).map .int) ∨ X = .tuple ((tab L f).map .int)) (hY : Y = .list ((tab M g).map .int) ∨ Y = .tuple ((tab M g).map .int)) (hL : L ≤ 1000) (hM : M ≤ 1000) (hN : N ≤ 1000) (hLN : L ≤ N + 1) (hf : ∀ i, i < L → -1000000 < f i ∧ f i < 1000000) (h : Hh) : isoCall (CS P (n + 1)) k [.p X, .p Y, iD N] h = .ok (iL (tab (N + 1) (cvf f g M L))) h := by
  obtain ⟨t, e⟩ := cut_ok (n := n) p13 (f := f) (g := g) (X := .p X) (Y := .p Y) (h0 := []) hL hM hN hLN (fun t => by rcases hX with rfl | rfl <;> first | exact len_tabL | exact len_tabT) (fun t i a b => by rcases hX with rfl | rfl <;> first | exact ix_tabL a b | exact ix_tabT a b) (fun t => by rcases hY with rfl | rfl <;> first | exact len_tabL | exact len_tabT) (fun t i a b => by rcases hY with rfl | rfl <;> first | exact ix_tabL a b | exact ix_tabT a b) hf
  exact iso_ok rfl e

theorem sw_nilL {body : Rho → Hh → SR} {t : Tg} {r : Rho} {h : Hh} {P : Ps} : SW (forL body t [] r h) P = P.nx r h := rfl
theorem sw_consL {body : Rho → Hh → SR} {t : Tg} {x : D} {xs : List D} {r : Rho} {h : Hh} {P : Ps} : SW (forL body t (x :: xs) r h) P = OW (asgT t x r h) fun z => SW (body z.1 z.2) { nx := fun r2 h2 => SW (forL body t xs r2 h2) P, ct := fun r2 h2 => SW (forL body t xs r2 h2) P, bk := P.nx, rt := P.rt, xn := P.xn } := by
  show SW (match asgT t x r h with
    | none => .bad
    | some (r1, h1) => turnS (body r1 h1) (forL body t xs)) P = _
  cases asgT t x r h with
  | none => rfl
  | some z =>
    obtain ⟨r1, h1⟩ := z
    show SW (turnS (body r1 h1) (forL body t xs)) P = SW (body r1 h1) _
    cases body r1 h1 <;> rfl

theorem even_kk (k : Int) : ∃ q, k * (k - 1) = 2 * q := by
  rcases Int.emod_two_eq k with h | h
  · refine ⟨k / 2 * (k - 1), ?_⟩
    have : k = 2 * (k / 2) := by omega
    rw [← Int.mul_assoc, ← this]
  · refine ⟨k * ((k - 1) / 2), ?_⟩
    have : k - 1 = 2 * ((k - 1) / 2) := by omega
    rw [Int.mul_left_comm, ← this]

theorem far_up {m r k : Int} (h1 : 1 ≤ m) (h2 : 0 ≤ r) (hk : 3 ≤ k) : k ≤ plc m r k ∧ (13 ≤ k → 61 ≤ plc m r k) := by
  obtain ⟨q, e⟩ := even_kk k
  unfold plc
  rw [e, Int.mul_ediv_cancel_left _ (by decide)]
  have a : 0 ≤ r * k := Int.mul_nonneg h2 (by omega)
  have b : 3 * (k - 1) ≤ k * (k - 1) := Int.mul_le_mul_of_nonneg_right hk (by omega)
  have c : 1 * q ≤ m * q := Int.mul_le_mul_of_nonneg_right h1 (by omega)
  refine ⟨by omega, fun z => ?_⟩
  have b2 : 13 * (k - 1) ≤ k * (k - 1) := Int.mul_le_mul_of_nonneg_right z (by omega)
  omega
theorem far_dn {m r j : Int} (h1 : 1 ≤ m) (h2 : r ≤ m) (hj : 3 ≤ j) : j ≤ plc m r (-j) ∧ (13 ≤ j → 61 ≤ plc m r (-j)) := by
  obtain ⟨q, e⟩ := even_kk (-j)
  unfold plc
  rw [e, Int.mul_ediv_cancel_left _ (by decide)]
  have e2 : j * j + j = 2 * q := by rw [← e, Int.neg_mul, ← Int.mul_neg, show -(-j - 1) = j + 1 by omega, Int.mul_add, Int.mul_one]
  have a : r * j ≤ m * j := Int.mul_le_mul_of_nonneg_right h2 (by omega)
  have b : 3 * j ≤ j * j := Int.mul_le_mul_of_nonneg_right hj (by omega)
  have c : 1 * (q - j) ≤ m * (q - j) := Int.mul_le_mul_of_nonneg_right h1 (by omega)
  rw [Int.mul_sub m q j] at c
  have e3 : r * -j = -(r * j) := Int.mul_neg _ _
  have b3 : 4 * j ≤ 2 * q := by omega
  refine ⟨by omega, fun z => ?_⟩
  have b2 : 13 * j ≤ j * j := Int.mul_le_mul_of_nonneg_right z (by omega)
  omega
theorem far_not {m r k : Int} {p : Nat} (h1 : 1 ≤ m) (h2 : 0 ≤ r ∧ r ≤ m) (h : (3 + (p : Int) ≤ k ∨ k ≤ -3 - p) ∨ ((13 ≤ k ∨ k ≤ -13) ∧ p ≤ 60)) : plc m r k ≠ p := by
  by_cases s : 0 ≤ k
  · have := far_up (m := m) (r := r) (k := k) h1 h2.1 (by omega)
    omega
  · have := far_dn (m := m) (r := r) (j := -k) h1 h2.2 (by omega)
    rw [Int.neg_neg] at this
    omega

theorem zeros_cat {h : Hh} {n : Nat} (hn : n ≤ 100000) : catV h (mkLst [D.p (.int 1)]) (iL (List.replicate (n : Int).toNat 0)) = some ((1 :: List.replicate n 0).map iD) := by
  rw [show mkLst [D.p (.int 1)] = iL [1] from rfl, cat_iL (by simp; omega)]; rfl

theorem list_getD {xs : List Int} {n : Nat} (h : xs.length = n) : xs = tab n (fun j => xs.getD j 0) := list_tab h fun j hj => by rw [List.getD_eq_getElem?_getD, List.getElem?_eq_getElem (by omega)]; rfl

theorem fn_runC {F : Fn} {cs : CSem} {ds : List D} {d : PyData} (hp : Nat.beq ds.length F.np = true) (hc : F.cut = true) (hb : SW (ex F.body cs (frameF F ds 0) (cellsF F ds)) { nx := fun _ _ => False, rt := fun x _ => x = .p d, bk := fun _ _ => False, ct := fun _ _ => False, xn := fun _ _ _ => False }) : runFn F cs ds [] = .ok (.p d) [] := by
  unfold runFn
  rw [if_pos hp, hc]
  dsimp only
  rw [List.nil_append]
  show cutF 0 (ex F.body cs (frameF F ds 0) (cellsF F ds)).toR = _
  cases q : ex F.body cs (frameF F ds 0) (cellsF F ds) with
  | rt x h =>
    rw [q] at hb
    obtain rfl : x = .p d := hb
    rfl
  | nx r h => rw [q] at hb; exact hb.elim
  | bk r h => rw [q] at hb; exact hb.elim
  | ct r h => rw [q] at hb; exact hb.elim
  | exn c fs r h => rw [q] at hb; exact hb.elim
  | bad => rw [q] at hb; exact hb.elim

theorem mk_lst (ps : List PyData) : mkLst (ps.map .p) = .p (.list ps) := by unfold mkLst; rw [allP_map]

theorem EW.exn' {α : Type} {m : Res α} {c : Nat} {fs : List D} {h : Hh} (w : EW m (fun _ _ => False) fun c' fs' h' => c' = c ∧ fs' = fs ∧ h' = h) : m = .exn c fs h := by
  cases m with
  | ok a h' => exact w.elim
  | exn c' fs' h' => obtain ⟨rfl, rfl, rfl⟩ := w; rfl
  | bad => exact w.elim
theorem back_same {h : Hh} : ∀ cl : List Nat, Y.back cl h h = h
  | [] => rfl
  | l :: ls => by
    unfold Y.back
    cases q : nth h l with
    | none => exact back_same ls
    | some o =>
      dsimp only
      rw [set_same q]
      exact back_same ls
theorem exn_back {α : Type} {c : Nat} {fs : List D} {h : Hh} {cl : List Nat} : (Res.exn c fs h : Res α).back cl h = .exn c fs h := by
  show Res.exn c fs (Y.back cl h h) = _
  rw [back_same]
theorem ok_back {α : Type} {a : α} {h : Hh} {cl : List Nat} : (Res.ok a h : Res α).back cl h = .ok a h := by
  show Res.ok a (Y.back cl h h) = _
  rw [back_same]

theorem CS_clo {P : Prog} {n k : Nat} {L : Lm} (hk : P.lm k = some L) (ls : List Nat) (ds : List D) (h : Hh) : CS P (n + 1) (.clo k ls) ds h = runLm L (CS P n) ls ds h := by
  show (match P.lm k with | some L => runLm L (CS P n) ls ds h | none => .bad) = _
  rw [hk]

noncomputable def tiny (d : PyData) : Bool := noDict d && showB d && decide (dep d ≤ 5) && decide (wgt d ≤ 1000)
theorem tiny_int {i : Int} (hi : -2000 ≤ i ∧ i ≤ 2000) : tiny (.int i) = true := by
  have : i.natAbs.log2 < 64 := by
    by_cases z : i.natAbs = 0
    · rw [z]; decide
    · exact (Nat.log2_lt z).mpr (Nat.lt_of_lt_of_le (show i.natAbs < 2 ^ 11 by omega) (Nat.pow_le_pow_right (by decide) (by decide)))
  show (true && decide (i.natAbs.log2 < 1920) && true && decide (i.natAbs.log2 + 3 ≤ 1000)) = true
  rw [decide_eq_true (show i.natAbs.log2 < 1920 by omega), decide_eq_true (show i.natAbs.log2 + 3 ≤ 1000 by omega)]; rfl
theorem tiny_noDict {d : PyData} (h : tiny d = true) : noDict d = true := by
  unfold tiny at h
  simp only [Bool.and_eq_true] at h
  exact h.1.1.1
theorem nonum_facts {lo hi : Int} {d : PyData} (h : d ∈ nonums lo hi) (ha : -1000 ≤ lo ∧ lo ≤ 1000 ∧ -1000 ≤ hi ∧ hi ≤ 1000) : tiny d = true ∧ betw d (some lo) (some hi) = false := by
  simp only [nonums, List.mem_cons, List.not_mem_nil, or_false] at h
  rcases h with rfl | rfl | rfl | rfl | rfl | rfl | rfl
  · exact ⟨tiny_int (by omega), by simp [betw]; omega⟩
  · exact ⟨tiny_int (by omega), by simp [betw]; omega⟩
  · exact ⟨by decide +kernel, rfl⟩
  · exact ⟨by decide +kernel, rfl⟩
  · exact ⟨by decide +kernel, rfl⟩
  · exact ⟨by decide +kernel, rfl⟩
  · exact ⟨tiny_int (by omega), by simp [betw]; omega⟩
theorem repr_fault {w : Str} {d : PyData} (hw : showB (.str w) = true) (hl : w.length ≤ 1000) (hd : tiny d = true) : reprOk (.tuple [.str (Str.ofString "number"), .str w, d]) = true := by
  unfold tiny at hd
  unfold reprOk
  simp only [Bool.and_eq_true, decide_eq_true_eq] at hd ⊢
  refine ⟨⟨?_, ?_⟩, ?_⟩
  · show decide (max (0 : Nat) (max 0 (max (dep d) 0)) + 1 ≤ 60) = true
    rw [decide_eq_true_eq]; omega
  · show (showB (.str (Str.ofString "number")) && (showB (.str w) && (showB d && true))) = true
    rw [hw, hd.1.1.2, show showB (.str (Str.ofString "number")) = true by decide +kernel]; rfl
  · show wgt (.str (Str.ofString "number")) + 2 + (10 * w.length + 2 + 2 + (wgt d + 2 + 0)) + 4 ≤ LINE
    rw [show wgt (.str (Str.ofString "number")) = 62 by decide +kernel]
    unfold LINE; omega
theorem app_ok {h : Hh} {l : Nat} {xs : List D} {d : D} (hl : nth h l = some (.lst xs)) (hn : xs.length ≤ 1000000) : mtV .append h (.ref l) [d] = .ok (.p .none) (h.set l (.lst (xs ++ [d]))) := by
  show mAppend h (.ref l) [d] = _
  unfold mAppend
  dsimp only
  rw [hl]
  dsimp only
  rw [if_pos (Nat.ble_eq.mpr (by unfold LINE; omega))]
theorem app_mk {h : Hh} {l : Nat} {xs : List D} (hl : nth h l = some (.lst xs)) : mkOk .append h (.ref l) = true := by
  unfold mkOk
  dsimp only
  rw [hl]

/-- what holds behind a run, not to be looked into -/
@[irreducible] noncomputable def SWI (m : SR) (P : Ps) : Prop := SW m P
theorem SWI_eq (m : SR) (P : Ps) : SWI m P = SW m P := by unfold SWI; rfl
theorem s_seqI (cs : CSem) (r : Rho) (h : Hh) (P : Ps) (a b : S) : SW (ex (.seq a b) cs r h) P = SW (ex a cs r h) { P with nx := fun r1 h1 => SWI (ex b cs r1 h1) P } := by
  rw [s_seq]
  simp only [SWI_eq]

theorem sg_one {s : Int} (h : s = 1 ∨ s = -1) (k : Int) : (sg s k).natAbs ≤ 1 := by
  unfold sg
  split <;> omega
end Y

namespace Y
open PySem PySem.Spec PyProof.Rows L2 NdefX
noncomputable def k75_b0 : S := (.seq (.ret (.and (.isi (.v 0) ["int"]) (.not (.isi (.v 0) ["bool"]))))
  .skip)
-- 0 is_whole(value) N=['value'] caps=[]
noncomputable def k75_b1 : S := (.seq (.ite (.not (.call true 0 (.cons (.v 1) .nil))) (.seq (.raise 0 (.cons (.v 0) (.cons (.v 1) .nil)))
  .skip) .skip)
  (.seq (.ite (.or (.and (.cmp .isnt (.v 2) (.c .none)) (.cmp .lt (.v 1) (.v 2))) (.and (.cmp .isnt (.v 3) (.c .none)) (.cmp .gt (.v 1) (.v 3)))) (.seq (.raise 0 (.cons (.v 0) (.cons (.v 1) .nil)))
  .skip) .skip)
  .skip))
-- 1 need_between(what, number, low, high) N=['what', 'number', 'low', 'high'] caps=[]
noncomputable def k75_b2 : S := (.seq (.ex (.call true 1 (.cons (.c (.str (Str.ofString "m"))) (.cons (.v 0) (.cons (.c (.int 1)) (.cons (.g (Str.ofString "MOST_M") (.int 30)) .nil))))))
  (.seq (.ex (.call true 1 (.cons (.c (.str (Str.ofString "r"))) (.cons (.v 1) (.cons (.c (.int 0)) (.cons (.v 0) .nil))))))
  (.seq (.ite (.or (.not (.call true 0 (.cons (.v 2) .nil))) (.cmp .notin (.v 2) (.tup (.cons (.c (.int 1)) (.cons (.neg (.c (.int 1))) .nil))))) (.seq (.raise 0 (.cons (.c (.str (Str.ofString "sign"))) (.cons (.v 2) .nil)))
  .skip) .skip)
  (.seq (.ex (.call true 1 (.cons (.c (.str (Str.ofString "long"))) (.cons (.v 3) (.cons (.c (.int 0)) (.cons (.g (Str.ofString "MOST_LONG") (.int 60)) .nil))))))
  .skip))))
-- 2 need_three(m, r, sign, long) N=['m', 'r', 'sign', 'long'] caps=[]
noncomputable def k75_b3 : S := (.seq (.ex (.call true 2 (.cons (.v 0) (.cons (.v 1) (.cons (.v 2) (.cons (.v 3) .nil))))))
  (.seq (.asg (.nm 4) (.mut (.rep (.disp (.cons (.c (.int 0)) .nil)) (.bin .add (.v 3) (.c (.int 1))))))
  (.seq (.for_ (.nm 5) (.rng2 (.bin .sub (.neg (.v 3)) (.c (.int 2))) (.bin .add (.v 3) (.c (.int 3)))) (.seq (.asg (.nm 6) (.bin .add (.bin .mul (.v 0) (.bin .fdiv (.bin .mul (.v 5) (.bin .sub (.v 5) (.c (.int 1)))) (.c (.int 2)))) (.bin .mul (.v 1) (.v 5))))
  (.seq (.ite (.chn .le .le (.c (.int 0)) (.v 6) (.v 3)) (.seq (.augs (.v 4) (.v 6) .add (.ife (.cmp .eq (.bin .mod (.v 5) (.c (.int 2))) (.c (.int 1))) (.v 2) (.c (.int 1))))
  .skip) .skip)
  .skip)))
  (.seq (.ret (.pr .tup (.cons (.v 4) .nil)))
  .skip))))
-- 3 three_sum(m, r, sign, long) N=['m', 'r', 'sign', 'long', 'out', 'k', 'place'] caps=[]
noncomputable def k75_b4 : S := (.seq (.ex (.call true 1 (.cons (.c (.str (Str.ofString "long"))) (.cons (.v 0) (.cons (.c (.int 0)) (.cons (.g (Str.ofString "MOST_LONG") (.int 60)) .nil))))))
  .skip)
-- 4 need_long(long) N=['long'] caps=[]
noncomputable def k75_b5 : S := (.seq (.asg (.nm 1) (.mut (.rep (.disp (.cons (.c (.int 0)) .nil)) (.bin .add (.v 0) (.c (.int 1))))))
  (.seq (.for_ (.nm 2) (.rng2 (.neg (.v 0)) (.bin .add (.v 0) (.c (.int 1)))) (.seq (.ite (.cmp .le (.bin .mul (.v 2) (.v 2)) (.v 0)) (.seq (.augs (.v 1) (.bin .mul (.v 2) (.v 2)) .add (.c (.int 1)))
  .skip) .skip)
  .skip))
  (.seq (.frz 1) (.seq (.ret (.v 1))
  .skip))))
-- 5 squares_to(long) N=['long', 'out', 'k'] caps=[]
noncomputable def k75_b6 : S := (.seq (.asg (.nm 1) (.mut (.rep (.disp (.cons (.c (.int 0)) .nil)) (.bin .add (.v 0) (.c (.int 1))))))
  (.seq (.for_ (.nm 2) (.rng1 (.bin .add (.v 0) (.c (.int 1)))) (.seq (.ite (.cmp .le (.bin .fdiv (.bin .mul (.v 2) (.bin .add (.v 2) (.c (.int 1)))) (.c (.int 2))) (.v 0)) (.seq (.augs (.v 1) (.bin .fdiv (.bin .mul (.v 2) (.bin .add (.v 2) (.c (.int 1)))) (.c (.int 2))) .add (.c (.int 1)))
  .skip) .skip)
  .skip))
  (.seq (.frz 1) (.seq (.ret (.v 1))
  .skip))))
-- 6 triangles_to(long) N=['long', 'out', 'k'] caps=[]
noncomputable def k75_b7 : S := (.seq (.ex (.call true 4 (.cons (.v 0) .nil)))
  (.seq (.ret (.pr .tup (.cons (.call true 5 (.cons (.v 0) .nil)) .nil)))
  .skip))
-- 7 square_row(long) N=['long'] caps=[]
noncomputable def k75_b8 : S := (.seq (.ex (.call true 4 (.cons (.v 0) .nil)))
  (.seq (.ret (.pr .tup (.cons (.call true 6 (.cons (.v 0) .nil)) .nil)))
  .skip))
-- 8 triangle_row(long) N=['long'] caps=[]
noncomputable def k75_b9 : S := (.seq (.asg (.nm 2) (.mut (.rep (.disp (.cons (.c (.int 0)) .nil)) (.pr .len (.cons (.v 0) .nil)))))
  (.seq (.for_ (.tup (.cons (.nm 3) (.cons (.nm 4) .nil))) (.enu (.v 1)) (.seq (.ite (.cmp .ne (.v 4) (.c (.int 0))) (.seq (.for_ (.nm 5) (.rng1 (.bin .sub (.pr .len (.cons (.v 0) .nil)) (.v 3))) (.seq (.augs (.v 2) (.bin .add (.v 5) (.v 3)) .add (.bin .mul (.v 4) (.ix (.v 0) (.v 5))))
  .skip))
  .skip) .skip)
  .skip))
  (.seq (.frz 2) (.seq (.ret (.v 2))
  .skip))))
-- 9 times_sparse(row, one) N=['row', 'one', 'out', 'step', 'item', 'place'] caps=[]
noncomputable def k75_b10 : S := (.seq (.asg (.nm 2) (.imm (.cat (.imm (.disp (.cons (.c (.int 1)) .nil))) (.imm (.rep (.disp (.cons (.c (.int 0)) .nil)) (.bin .sub (.pr .len (.cons (.v 0) .nil)) (.c (.int 1))))))))
  (.seq (.for_ (.nm 3) (.rng1 (.v 1)) (.seq (.asg (.nm 2) (.call true 9 (.cons (.v 2) (.cons (.v 0) .nil))))
  .skip))
  (.seq (.ret (.pr .tup (.cons (.v 2) .nil)))
  .skip)))
-- 10 raised(one, terms) N=['one', 'terms', 'out', 'lap'] caps=[]
noncomputable def k75_b11 : S := (.seq (.ex (.call true 1 (.cons (.c (.str (Str.ofString "terms"))) (.cons (.v 0) (.cons (.c (.int 0)) (.cons (.g (Str.ofString "MOST_TERMS") (.int 12)) .nil))))))
  (.seq (.ex (.call true 4 (.cons (.v 1) .nil)))
  (.seq (.ret (.call true 10 (.cons (.call true 5 (.cons (.v 1) .nil)) (.cons (.v 0) .nil))))
  .skip)))
-- 11 squares_row(terms, long) N=['terms', 'long'] caps=[]
noncomputable def k75_b12 : S := (.seq (.ex (.call true 1 (.cons (.c (.str (Str.ofString "terms"))) (.cons (.v 0) (.cons (.c (.int 0)) (.cons (.g (Str.ofString "MOST_TERMS") (.int 12)) .nil))))))
  (.seq (.ex (.call true 4 (.cons (.v 1) .nil)))
  (.seq (.ret (.call true 10 (.cons (.call true 6 (.cons (.v 1) .nil)) (.cons (.v 0) .nil))))
  .skip)))
-- 12 triangles_row(terms, long) N=['terms', 'long'] caps=[]
noncomputable def k75_b13 : S := (.seq (.asg (.nm 1) (.c (.int 0)))
  (.seq (.for_ (.nm 2) (.it (.v 0)) (.seq (.asg (.nm 1) (.bin .mod (.pr .int (.cons (.bin .add (.bin .mul (.v 1) (.c (.int 103))) (.v 2)) .nil)) (.c (.int 999999667))))
  .skip))
  (.seq (.ret (.dk [.inr (Str.ofString "cells"), .inr (Str.ofString "at"), .inr (Str.ofString "digits"), .inr (Str.ofString "count"), .inr (Str.ofString "fold")] (.cons (.imm (.lof (.v 0))) (.cons (.c (.int 0)) (.cons (.c (.int 0)) (.cons (.c (.int 0)) (.cons (.v 1) .nil)))))))
  .skip)))
-- 13 _law_pen(script) N=['script', 'fold', 'cell'] caps=[]
noncomputable def k75_b14 : S := (.seq (.set (.v 0) (.c (.str (Str.ofString "count"))) (.bin .add (.ix (.v 0) (.c (.str (Str.ofString "count")))) (.c (.int 1))))
  (.seq (.ite (.and (.cmp .eq (.ix (.v 0) (.c (.str (Str.ofString "digits")))) (.c (.int 0))) (.cmp .lt (.ix (.v 0) (.c (.str (Str.ofString "at")))) (.pr .len (.cons (.ix (.v 0) (.c (.str (Str.ofString "cells")))) .nil)))) (.seq (.asg (.nm 2) (.ix (.ix (.v 0) (.c (.str (Str.ofString "cells")))) (.ix (.v 0) (.c (.str (Str.ofString "at"))))))
  (.seq (.set (.v 0) (.c (.str (Str.ofString "at"))) (.bin .add (.ix (.v 0) (.c (.str (Str.ofString "at")))) (.c (.int 1))))
  (.seq (.ite (.cmp .ge (.v 2) (.bin .pow (.c (.int 10)) (.c (.int 18)))) (.seq (.set (.v 0) (.c (.str (Str.ofString "digits"))) (.bin .sub (.v 2) (.bin .pow (.c (.int 10)) (.c (.int 18)))))
  .skip) (.seq (.set (.v 0) (.c (.str (Str.ofString "fold"))) (.bin .mod (.pr .int (.cons (.bin .add (.bin .mul (.ix (.v 0) (.c (.str (Str.ofString "fold")))) (.c (.int 38993))) (.v 2)) .nil)) (.c (.int 2147483399))))
  .skip))
  .skip))) .skip)
  (.seq (.ite (.cmp .gt (.ix (.v 0) (.c (.str (Str.ofString "digits")))) (.c (.int 0))) (.seq (.asg (.nm 3) (.bin .mod (.pr .int (.cons (.ix (.v 0) (.c (.str (Str.ofString "digits")))) .nil)) (.v 1)))
  (.seq (.set (.v 0) (.c (.str (Str.ofString "digits"))) (.bin .fdiv (.ix (.v 0) (.c (.str (Str.ofString "digits")))) (.v 1)))
  (.seq (.ret (.v 3))
  .skip))) .skip)
  (.seq (.asg (.nm 4) (.bin .add (.bin .add (.ix (.v 0) (.c (.str (Str.ofString "fold")))) (.bin .mul (.ix (.v 0) (.c (.str (Str.ofString "count")))) (.c (.int 7603)))) (.c (.int 79))))
  (.seq (.ret (.bin .mod (.bin .fdiv (.pr .int (.cons (.bin .mod (.bin .pow (.v 4) (.c (.int 33))) (.c (.int 2305843009213693951))) .nil)) (.c (.int 32))) (.v 1)))
  .skip)))))
-- 14 _law_draw(pen, many) N=['pen', 'many', 'cell', 'digit', 'blend'] caps=[]
noncomputable def k75_b15 : S := (.seq (.ret (.ix (.v 1) (.call true 14 (.cons (.v 0) (.cons (.pr .len (.cons (.v 1) .nil)) .nil)))))
  .skip)
-- 15 _law_pick(pen, some) N=['pen', 'some'] caps=[]
noncomputable def k75_b16 : S := (.seq (.tryx (.seq (.ex (.cval (.v 0) .nil))
  .skip) [(0, 0, [.c (.str (Str.ofString "number")), .f 0, .f 1]), (2, 0, [.c (.str (Str.ofString "row")), .f 0]), (4, 0, [.c (.str (Str.ofString "rule")), .f 0, .f 1]), (1, 0, [.c (.str (Str.ofString "sum")), .f 0]), (3, 0, [.c (.str (Str.ofString "table")), .f 0]), (6, 0, [.c (.str (Str.ofString "many")), .f 0, .f 1, .f 2]), (5, 0, [.c (.str (Str.ofString "unlike")), .f 0])])
  (.seq (.ret (.c .none))
  .skip))
-- 16 _law_fault(work) N=['work', 'fault'] caps=[]
noncomputable def k75_b17 : S := (.seq (.ret (.pr .all (.cons (.imm (.comp (.tup (.cons (.nm 1) (.cons (.nm 2) .nil))) (.it (.v 0)) .no (.cmp .eq (.pr .repr (.cons (.call false 16 (.cons (.v 1) .nil)) .nil)) (.pr .repr (.cons (.v 2) .nil))))) .nil)))
  .skip)
-- 17 _law_are_due(tries) N=['tries', 'work', 'due'] caps=[]
noncomputable def k75_b18 : S := (.seq (.ret (.call true 15 (.cons (.v 0) (.cons (.imm (.disp (.cons (.bin .sub (.v 1) (.c (.int 1))) (.cons (.bin .add (.v 2) (.c (.int 1))) (.cons (.c .none) (.cons (.c (.bool true)) (.cons (.c (.str (Str.ofString "1"))) (.cons (.tup (.cons (.c (.int 1)) .nil)) (.cons (.bin .sub (.v 1) (.c (.int 9))) .nil))))))))) .nil))))
  .skip)
-- 18 _law_no_number(pen, low, high) N=['pen', 'low', 'high'] caps=[]
noncomputable def k75_b19 : S := (.seq (.asg (.nm 3) (.mut (.rep (.disp (.cons (.c (.int 0)) .nil)) (.bin .add (.v 2) (.c (.int 1))))))
  (.seq (.for_ (.nm 4) (.rng1 (.pr .len (.cons (.v 0) .nil))) (.seq (.ite (.cmp .ne (.ix (.v 0) (.v 4)) (.c (.int 0))) (.seq (.for_ (.nm 5) (.rng1 (.pr .min2 (.cons (.pr .len (.cons (.v 1) .nil)) (.cons (.bin .sub (.bin .add (.v 2) (.c (.int 1))) (.v 4)) .nil)))) (.seq (.set (.v 3) (.bin .add (.v 4) (.v 5)) (.bin .add (.ix (.v 3) (.bin .add (.v 4) (.v 5))) (.bin .mul (.ix (.v 0) (.v 4)) (.ix (.v 1) (.v 5)))))
  .skip))
  .skip) .skip)
  .skip))
  (.seq (.frz 3) (.seq (.ret (.v 3))
  .skip))))
-- 19 _law_cut_product(one, other, long) N=['one', 'other', 'long', 'found', 'i', 'j'] caps=[]
noncomputable def k75_b20 : S := (.seq (.asg (.nm 1) (.mut (.rep (.disp (.cons (.c (.int 0)) .nil)) (.bin .add (.v 0) (.c (.int 1))))))
  (.seq (.for_ (.nm 2) (.rng2 (.neg (.c (.int 8))) (.c (.int 9))) (.seq (.ite (.cmp .le (.bin .mul (.v 2) (.v 2)) (.v 0)) (.seq (.set (.v 1) (.bin .mul (.v 2) (.v 2)) (.bin .add (.ix (.v 1) (.bin .mul (.v 2) (.v 2))) (.c (.int 1))))
  .skip) .skip)
  .skip))
  (.seq (.frz 1) (.seq (.ret (.v 1))
  .skip))))
-- 20 _law_square_row(long) N=['long', 'found', 'k'] caps=[]
noncomputable def k75_b21 : S := (.seq (.asg (.nm 1) (.mut (.rep (.disp (.cons (.c (.int 0)) .nil)) (.bin .add (.v 0) (.c (.int 1))))))
  (.seq (.for_ (.nm 2) (.rng1 (.c (.int 12))) (.seq (.ite (.cmp .le (.bin .fdiv (.bin .mul (.v 2) (.bin .add (.v 2) (.c (.int 1)))) (.c (.int 2))) (.v 0)) (.seq (.set (.v 1) (.bin .fdiv (.bin .mul (.v 2) (.bin .add (.v 2) (.c (.int 1)))) (.c (.int 2))) (.bin .add (.ix (.v 1) (.bin .fdiv (.bin .mul (.v 2) (.bin .add (.v 2) (.c (.int 1)))) (.c (.int 2)))) (.c (.int 1))))
  .skip) .skip)
  .skip))
  (.seq (.frz 1) (.seq (.ret (.v 1))
  .skip))))
-- 21 _law_triangle_row(long) N=['long', 'found', 'k'] caps=[]
noncomputable def k75_b22 : S := (.seq (.asg (.nm 3) (.imm (.cat (.imm (.disp (.cons (.c (.int 1)) .nil))) (.imm (.rep (.disp (.cons (.c (.int 0)) .nil)) (.v 2))))))
  (.seq (.for_ (.nm 4) (.rng1 (.v 1)) (.seq (.asg (.nm 3) (.call true 19 (.cons (.v 0) (.cons (.v 3) (.cons (.v 2) .nil)))))
  .skip))
  (.seq (.ret (.pr .tup (.cons (.v 3) .nil)))
  .skip)))
-- 22 _law_raised(row, terms, long) N=['row', 'terms', 'long', 'found', 'lap'] caps=[]
noncomputable def k75_l0 : S := (.seq (.ret (.call false 17 (.cons (.v 15) .nil)))
  .skip)
noncomputable def k75_l1 : S := (.seq (.ex (.mt .append (.v 15) (.cons (.tup (.cons (.lam 0 [1]) (.cons (.tup (.cons (.c (.str (Str.ofString "number"))) (.cons (.c (.str (Str.ofString "long"))) (.cons (.cv 1) .nil)))) .nil))) .nil)))
  k75_l0)
noncomputable def k75_l2 : S := (.seq (.ex (.mt .append (.v 15) (.cons (.tup (.cons (.lam 1 [0, 1]) (.cons (.tup (.cons (.c (.str (Str.ofString "number"))) (.cons (.c (.str (Str.ofString "terms"))) (.cons (.cv 0) .nil)))) .nil))) .nil)))
  k75_l1)
noncomputable def k75_l3 : S := (.seq (.ex (.mt .append (.v 15) (.cons (.tup (.cons (.lam 2 [1]) (.cons (.tup (.cons (.c (.str (Str.ofString "number"))) (.cons (.c (.str (Str.ofString "long"))) (.cons (.cv 1) .nil)))) .nil))) .nil)))
  k75_l2)
noncomputable def k75_l4 : S := (.seq (.ex (.mt .append (.v 15) (.cons (.tup (.cons (.lam 3 [0, 1]) (.cons (.tup (.cons (.c (.str (Str.ofString "number"))) (.cons (.c (.str (Str.ofString "terms"))) (.cons (.cv 0) .nil)))) .nil))) .nil)))
  k75_l3)
noncomputable def k75_l5 : S := (.seq (.ex (.mt .append (.v 15) (.cons (.tup (.cons (.lam 4 [1]) (.cons (.tup (.cons (.c (.str (Str.ofString "number"))) (.cons (.c (.str (Str.ofString "long"))) (.cons (.cv 1) .nil)))) .nil))) .nil)))
  k75_l4)
noncomputable def k75_l6 : S := (.seq (.asg (.nm 15) (.mut (.disp (.cons (.tup (.cons (.lam 5 [1]) (.cons (.tup (.cons (.c (.str (Str.ofString "number"))) (.cons (.c (.str (Str.ofString "long"))) (.cons (.cv 1) .nil)))) .nil))) .nil))))
  k75_l5)
noncomputable def k75_l7 : S := (.seq (.asg (.tup (.cons (.cn 0) (.cons (.cn 1) .nil))) (.tup (.cons (.call true 18 (.cons (.v 1) (.cons (.c (.int 0)) (.cons (.c (.int 12)) .nil)))) (.cons (.call true 18 (.cons (.v 1) (.cons (.c (.int 0)) (.cons (.c (.int 60)) .nil)))) .nil))))
  k75_l6)
noncomputable def k75_l8 : S := (.seq (.ite (.cmp .ne (.ix (.call true 11 (.cons (.c (.int 3)) (.cons (.v 2) .nil))) (.v 10)) (.v 9)) (.seq (.ret (.c (.bool false)))
  .skip) .skip)
  k75_l7)
noncomputable def k75_l9 : S := (.seq (.for_ (.nm 11) (.rng2 (.neg (.c (.int 5))) (.c (.int 6))) (.seq (.for_ (.nm 12) (.rng2 (.neg (.c (.int 5))) (.c (.int 6))) (.seq (.asg (.nm 9) (.bin .add (.v 9) (.pr .len (.cons (.imm (.comp (.nm 17) (.rng2 (.neg (.c (.int 5))) (.c (.int 6))) (.so (.cmp .eq (.bin .add (.bin .add (.bin .mul (.v 11) (.v 11)) (.bin .mul (.v 12) (.v 12))) (.bin .mul (.v 17) (.v 17))) (.v 10))) (.v 17))) .nil))))
  .skip))
  .skip))
  k75_l8)
noncomputable def k75_l10 : S := (.seq (.asg (.tup (.cons (.nm 9) (.cons (.nm 10) .nil))) (.tup (.cons (.c (.int 0)) (.cons (.call true 14 (.cons (.v 1) (.cons (.bin .add (.pr .min2 (.cons (.v 2) (.cons (.c (.int 30)) .nil))) (.c (.int 1))) .nil))) .nil))))
  k75_l9)
noncomputable def k75_l11 : S := (.seq (.ite (.and (.cmp .lt (.v 6) (.c (.int 12))) (.cmp .ne (.call true 11 (.cons (.bin .add (.v 6) (.c (.int 1))) (.cons (.v 2) .nil))) (.pr .tup (.cons (.call true 19 (.cons (.v 3) (.cons (.v 7) (.cons (.v 2) .nil)))) .nil)))) (.seq (.ret (.c (.bool false)))
  .skip) .skip)
  .skip)
noncomputable def k75_l12 : S := (.seq (.ite (.or (.cmp .ne (.pr .repr (.cons (.v 7) .nil)) (.pr .repr (.cons (.call true 22 (.cons (.v 3) (.cons (.v 6) (.cons (.v 2) .nil)))) .nil))) (.cmp .ne (.pr .repr (.cons (.v 8) .nil)) (.pr .repr (.cons (.call true 22 (.cons (.v 4) (.cons (.v 6) (.cons (.v 2) .nil)))) .nil)))) (.seq (.ret (.c (.bool false)))
  .skip) .skip)
  k75_l11)
noncomputable def k75_l13 : S := (.seq (.asg (.tup (.cons (.nm 7) (.cons (.nm 8) .nil))) (.tup (.cons (.call true 11 (.cons (.v 6) (.cons (.v 2) .nil))) (.cons (.call true 12 (.cons (.v 6) (.cons (.v 2) .nil))) .nil))))
  k75_l12)
noncomputable def k75_l14 : S := (.seq (.for_ (.nm 5) (.rng1 (.c (.int 3))) (.seq (.asg (.nm 6) (.call true 14 (.cons (.v 1) (.cons (.c (.int 13)) .nil))))
  k75_l13))
  k75_l10)
noncomputable def k75_l15 : S := (.seq (.ite (.or (.cmp .ne (.call true 3 (.cons (.c (.int 2)) (.cons (.c (.int 1)) (.cons (.c (.int 1)) (.cons (.v 2) .nil))))) (.pr .tup (.cons (.v 3) .nil))) (.cmp .ne (.call true 3 (.cons (.c (.int 1)) (.cons (.c (.int 0)) (.cons (.c (.int 1)) (.cons (.v 2) .nil))))) (.pr .tup (.cons (.imm (.comp (.nm 16) (.it (.v 4)) .no (.bin .mul (.c (.int 2)) (.v 16)))) .nil)))) (.seq (.ret (.c (.bool false)))
  .skip) .skip)
  k75_l14)
noncomputable def k75_l16 : S := (.seq (.ite (.or (.cmp .ne (.pr .repr (.cons (.call true 7 (.cons (.v 2) .nil)) .nil)) (.pr .repr (.cons (.pr .tup (.cons (.v 3) .nil)) .nil))) (.cmp .ne (.pr .repr (.cons (.call true 8 (.cons (.v 2) .nil)) .nil)) (.pr .repr (.cons (.pr .tup (.cons (.v 4) .nil)) .nil)))) (.seq (.ret (.c (.bool false)))
  .skip) .skip)
  k75_l15)
noncomputable def k75_l17 : S := (.seq (.asg (.tup (.cons (.nm 3) (.cons (.nm 4) .nil))) (.tup (.cons (.call true 20 (.cons (.v 2) .nil)) (.cons (.call true 21 (.cons (.v 2) .nil)) .nil))))
  k75_l16)
noncomputable def k75_l18 : S := (.seq (.asg (.nm 2) (.call true 14 (.cons (.v 1) (.cons (.c (.int 61)) .nil))))
  k75_l17)
noncomputable def k75_b23 : S := (.seq (.asg (.nm 1) (.call false 13 (.cons (.v 0) .nil)))
  k75_l18)
-- 23 law(script) N=['script', 'pen', 'long', 'squares', 'triangles', 'lap', 'terms', 'told', 'other', 'count', 'number', 'a', 'b', 'few', 'far', 'tries', 'item', 'c'] caps=['few', 'far']
noncomputable def k75 : ModI where
  defs := [⟨(Str.ofString "is_whole"), false, [(Str.ofString "value")], ⟨1, 1, [], false, k75_b0⟩⟩,
    ⟨(Str.ofString "need_between"), false, [(Str.ofString "what"), (Str.ofString "number"), (Str.ofString "low"), (Str.ofString "high")], ⟨4, 4, [], false, k75_b1⟩⟩,
    ⟨(Str.ofString "need_three"), false, [(Str.ofString "m"), (Str.ofString "r"), (Str.ofString "sign"), (Str.ofString "long")], ⟨4, 4, [], false, k75_b2⟩⟩,
    ⟨(Str.ofString "three_sum"), false, [(Str.ofString "m"), (Str.ofString "r"), (Str.ofString "sign"), (Str.ofString "long"), (Str.ofString "out"), (Str.ofString "k"), (Str.ofString "place")], ⟨4, 7, [], false, k75_b3⟩⟩,
    ⟨(Str.ofString "need_long"), false, [(Str.ofString "long")], ⟨1, 1, [], false, k75_b4⟩⟩,
    ⟨(Str.ofString "squares_to"), false, [(Str.ofString "long"), (Str.ofString "out"), (Str.ofString "k")], ⟨1, 3, [], false, k75_b5⟩⟩,
    ⟨(Str.ofString "triangles_to"), false, [(Str.ofString "long"), (Str.ofString "out"), (Str.ofString "k")], ⟨1, 3, [], false, k75_b6⟩⟩,
    ⟨(Str.ofString "square_row"), false, [(Str.ofString "long")], ⟨1, 1, [], false, k75_b7⟩⟩,
    ⟨(Str.ofString "triangle_row"), false, [(Str.ofString "long")], ⟨1, 1, [], false, k75_b8⟩⟩,
    ⟨(Str.ofString "times_sparse"), false, [(Str.ofString "row"), (Str.ofString "one"), (Str.ofString "out"), (Str.ofString "step"), (Str.ofString "item"), (Str.ofString "place")], ⟨2, 6, [], false, k75_b9⟩⟩,
    ⟨(Str.ofString "raised"), false, [(Str.ofString "one"), (Str.ofString "terms"), (Str.ofString "out"), (Str.ofString "lap")], ⟨2, 4, [], false, k75_b10⟩⟩,
    ⟨(Str.ofString "squares_row"), false, [(Str.ofString "terms"), (Str.ofString "long")], ⟨2, 2, [], false, k75_b11⟩⟩,
    ⟨(Str.ofString "triangles_row"), false, [(Str.ofString "terms"), (Str.ofString "long")], ⟨2, 2, [], false, k75_b12⟩⟩,
    ⟨(Str.ofString "_law_pen"), false, [(Str.ofString "script"), (Str.ofString "fold"), (Str.ofString "cell")], ⟨1, 3, [], false, k75_b13⟩⟩,
    ⟨(Str.ofString "_law_draw"), false, [(Str.ofString "pen"), (Str.ofString "many"), (Str.ofString "cell"), (Str.ofString "digit"), (Str.ofString "blend")], ⟨2, 5, [], false, k75_b14⟩⟩,
    ⟨(Str.ofString "_law_pick"), false, [(Str.ofString "pen"), (Str.ofString "some")], ⟨2, 2, [], false, k75_b15⟩⟩,
    ⟨(Str.ofString "_law_fault"), false, [(Str.ofString "work"), (Str.ofString "fault")], ⟨1, 2, [], false, k75_b16⟩⟩,
    ⟨(Str.ofString "_law_are_due"), false, [(Str.ofString "tries"), (Str.ofString "work"), (Str.ofString "due")], ⟨1, 3, [], false, k75_b17⟩⟩,
    ⟨(Str.ofString "_law_no_number"), false, [(Str.ofString "pen"), (Str.ofString "low"), (Str.ofString "high")], ⟨3, 3, [], false, k75_b18⟩⟩,
    ⟨(Str.ofString "_law_cut_product"), false, [(Str.ofString "one"), (Str.ofString "other"), (Str.ofString "long"), (Str.ofString "found"), (Str.ofString "i"), (Str.ofString "j")], ⟨3, 6, [], false, k75_b19⟩⟩,
    ⟨(Str.ofString "_law_square_row"), false, [(Str.ofString "long"), (Str.ofString "found"), (Str.ofString "k")], ⟨1, 3, [], false, k75_b20⟩⟩,
    ⟨(Str.ofString "_law_triangle_row"), false, [(Str.ofString "long"), (Str.ofString "found"), (Str.ofString "k")], ⟨1, 3, [], false, k75_b21⟩⟩,
    ⟨(Str.ofString "_law_raised"), false, [(Str.ofString "row"), (Str.ofString "terms"), (Str.ofString "long"), (Str.ofString "found"), (Str.ofString "lap")], ⟨3, 5, [], false, k75_b22⟩⟩,
    ⟨(Str.ofString "law"), true, [(Str.ofString "script"), (Str.ofString "pen"), (Str.ofString "long"), (Str.ofString "squares"), (Str.ofString "triangles"), (Str.ofString "lap"), (Str.ofString "terms"), (Str.ofString "told"), (Str.ofString "other"), (Str.ofString "count"), (Str.ofString "number"), (Str.ofString "a"), (Str.ofString "b"), (Str.ofString "few"), (Str.ofString "far"), (Str.ofString "tries"), (Str.ofString "item"), (Str.ofString "c")], ⟨1, 18, [13, 14], true, k75_b23⟩⟩]
  lams := [⟨[(Str.ofString "far")], ⟨0, 1, (.call true 12 (.cons (.c (.int 2)) (.cons (.cv 0) .nil)))⟩⟩,
    ⟨[(Str.ofString "few"), (Str.ofString "far")], ⟨0, 2, (.call true 12 (.cons (.cv 0) (.cons (.cv 1) .nil)))⟩⟩,
    ⟨[(Str.ofString "far")], ⟨0, 1, (.call true 11 (.cons (.c (.int 2)) (.cons (.cv 0) .nil)))⟩⟩,
    ⟨[(Str.ofString "few"), (Str.ofString "far")], ⟨0, 2, (.call true 11 (.cons (.cv 0) (.cons (.cv 1) .nil)))⟩⟩,
    ⟨[(Str.ofString "far")], ⟨0, 1, (.call true 8 (.cons (.cv 0) .nil))⟩⟩,
    ⟨[(Str.ofString "far")], ⟨0, 1, (.call true 7 (.cons (.cv 0) .nil))⟩⟩]
  cls := [⟨(Str.ofString "BadNumber"), [(Str.ofString "what"), (Str.ofString "number")]⟩, ⟨(Str.ofString "BadSum"), [(Str.ofString "value")]⟩, ⟨(Str.ofString "BadRow"), [(Str.ofString "row")]⟩, ⟨(Str.ofString "BadTable"), [(Str.ofString "table")]⟩, ⟨(Str.ofString "BadRule"), [(Str.ofString "what"), (Str.ofString "value")]⟩, ⟨(Str.ofString "Unlike"), [(Str.ofString "what")]⟩, ⟨(Str.ofString "TooMany"), [(Str.ofString "what"), (Str.ofString "many"), (Str.ofString "limit")]⟩]
  cst := [((Str.ofString "MOST_LONG"), .int (60)), ((Str.ofString "MOST_M"), .int (30)), ((Str.ofString "MOST_TERMS"), .int (12))]
  blt := [(Str.ofString "all"), (Str.ofString "bool"), (Str.ofString "enumerate"), (Str.ofString "int"), (Str.ofString "isinstance"), (Str.ofString "len"), (Str.ofString "list"), (Str.ofString "min"), (Str.ofString "range"), (Str.ofString "repr"), (Str.ofString "tuple")]
  law := 23
end Y

namespace Y
open PySem
/-! the walk of law k75 -/
noncomputable abbrev P75 : Prog := progOf k75
theorem p75_0 : P75.fn 0 = some wholeF := rfl
theorem p75_1 : P75.fn 1 = some (betwF 0) := rfl
theorem p75_2 : P75.fn 2 = some (need3F 1 0) := rfl
theorem p75_3 : P75.fn 3 = some (sum3F 2) := rfl
theorem p75_4 : P75.fn 4 = some ⟨1, 1, [], false, k75_b4⟩ := rfl
theorem p75_5 : P75.fn 5 = some ⟨1, 3, [], false, k75_b5⟩ := rfl
theorem p75_6 : P75.fn 6 = some ⟨1, 3, [], false, k75_b6⟩ := rfl
theorem p75_7 : P75.fn 7 = some ⟨1, 1, [], false, k75_b7⟩ := rfl
theorem p75_8 : P75.fn 8 = some ⟨1, 1, [], false, k75_b8⟩ := rfl
theorem p75_9 : P75.fn 9 = some ⟨2, 6, [], false, k75_b9⟩ := rfl
theorem p75_10 : P75.fn 10 = some ⟨2, 4, [], false, k75_b10⟩ := rfl
theorem p75_11 : P75.fn 11 = some ⟨2, 2, [], false, k75_b11⟩ := rfl
theorem p75_12 : P75.fn 12 = some ⟨2, 2, [], false, k75_b12⟩ := rfl
theorem p75_13 : P75.fn 13 = some penF := rfl
theorem p75_14 : P75.fn 14 = some drawF := rfl
theorem p75_15 : P75.fn 15 = some (pickF 14) := rfl
theorem p75_16 : P75.fn 16 = some faultF := rfl
theorem p75_17 : P75.fn 17 = some (dueF 16) := rfl
theorem p75_18 : P75.fn 18 = some (nonumF 15) := rfl
theorem p75_19 : P75.fn 19 = some cutpF := rfl
theorem p75_20 : P75.fn 20 = some ⟨1, 3, [], false, k75_b20⟩ := rfl
theorem p75_21 : P75.fn 21 = some ⟨1, 3, [], false, k75_b21⟩ := rfl
theorem p75_22 : P75.fn 22 = some ⟨3, 5, [], false, k75_b22⟩ := rfl
/-! need_long -/
theorem long_ok {n : Nat} {d : PyData} (hd : noDict d = true) (h : Hh) : CS P75 (n + 3) (.fn 4) [.p d] h = if betw d (some 0) (some 60) then .ok (.p .none) h else .exn 0 [.p (.str (Str.ofString "long")), .p d] h := by
  rw [CS_fn p75_4]
  have := fn_run1 (F := ⟨1, 1, [], false, k75_b4⟩) (cs := CS P75 (n + 2)) (ds := [.p d]) (h := h) (Q := fun x h2 => betw d (some 0) (some 60) = true ∧ x = .p .none ∧ h2 = h) (X := fun c fs h2 => betw d (some 0) (some 60) = false ∧ c = 0 ∧ fs = [.p (.str (Str.ofString "long")), .p d] ∧ h2 = h) rfl rfl rfl (by
    show SW (ex k75_b4 _ ⟨[some (.p d)], []⟩ h) _
    unfold k75_b4
    have b3 := fun h => betw_iso (n := n) (w := .str (Str.ofString "long")) (lo := some 0) (hi := some 60) p75_1 p75_0 hd h
    simp only [oD] at b3
    simp only [s_seq, s_ex, s_skip, e_callT, a_cons, a_nil, e_c, e_g, e_v, nth_zero, nth_succ, ow_some, b3, ew_if, ew_ok, ew_exn]
    exact ⟨fun q => ⟨q, by trivial, by trivial⟩, fun q => ⟨q, by trivial, by trivial, by trivial⟩⟩)
  cases q : runFn ⟨1, 1, [], false, k75_b4⟩ (CS P75 (n + 2)) [.p d] h with
  | ok x h2 => rw [q] at this; obtain ⟨a, rfl, rfl⟩ := this; rw [a]; rfl
  | exn c fs h2 => rw [q] at this; obtain ⟨a, rfl, rfl, rfl⟩ := this; rw [a]; rfl
  | bad => rw [q] at this; exact this.elim
theorem long_iso {n : Nat} {d : PyData} (hd : noDict d = true) (h : Hh) : isoCall (CS P75 (n + 3)) 4 [.p d] h = if betw d (some 0) (some 60) then .ok (.p .none) h else .exn 0 [.p (.str (Str.ofString "long")), .p d] h := by
  have := long_ok (n := n) hd []
  cases q : betw d (some 0) (some 60) with
  | true => rw [q] at this; exact iso_ok rfl this
  | false => rw [q] at this; exact iso_exn rfl this rfl
theorem betw_nat {N : Nat} (h : N ≤ 60) : betw (.int N) (some 0) (some 60) = true := by
  have : (N : Int) ≤ 60 := by omega
  simp [betw, this]
/-! squares_to, triangles_to -/
noncomputable def sqp (k : Int) : Int := k * k
noncomputable def trp (k : Int) : Int := k * (k + 1) / 2
noncomputable def onev (_ : Int) : Int := 1
theorem sqp_def (k : Int) : k * k = sqp k := rfl
theorem trp_def (k : Int) : k * (k + 1) / 2 = trp k := rfl
theorem sqp_pos (k : Int) : 0 ≤ sqp k := by
  unfold sqp
  rcases Int.le_total 0 k with h | h
  · exact Int.mul_nonneg h h
  · rw [← Int.neg_mul_neg]
    exact Int.mul_nonneg (by omega) (by omega)
theorem trp_pos {k : Int} (h : 0 ≤ k) : 0 ≤ trp k := by
  unfold trp
  exact Int.ediv_nonneg (Int.mul_nonneg h (by omega)) (by decide)
noncomputable def SqL (N : Nat) : Nat → Int := csum sqp onev (-N) (2 * N + 1)
noncomputable def TrL (N : Nat) : Nat → Int := csum trp onev 0 (N + 1)
theorem csum_step1 {pl : Int → Int} {lo : Int} {n t : Nat} (h0 : 0 ≤ pl (lo + t)) (h1 : pl (lo + t) < n) : tab n (upd (csum pl onev lo t) (pl (lo + t)).toNat (csum pl onev lo t (pl (lo + t)).toNat + 1)) = tab n (csum pl onev lo (t + 1)) := csum_step h0 h1
theorem sqto_ok {n N : Nat} (hN : N ≤ 60) : ∃ h', CS P75 (n + 1) (.fn 5) [iD N] [] = .ok (iL (tab (N + 1) (SqL N))) h' := by
  rw [CS_fn p75_5]
  have := fn_run1 (F := ⟨1, 3, [], false, k75_b5⟩) (cs := CS P75 n) (ds := [iD N]) (h := []) (Q := fun x h2 => x = iL (tab (N + 1) (SqL N))) (X := fun c fs h2 => False) rfl rfl rfl (by
    show SW (ex k75_b5 _ ⟨[some (iD N), none, none], []⟩ []) _
    unfold k75_b5
    simp (disch := omega) only [s_seq, s_asg, e_mut, l_rep, l_disp, a_cons, a_nil, e_bin, e_neg, neg_i, e_v, e_c, nth_zero, nth_succ, ow_some, bin_add, rep_i, asgT, List.set_cons_zero, List.set_cons_succ, s_for, i_rng2]
    refine ⟨rfl, ?_⟩
    rw [show (List.replicate ((N : Int) + 1).toNat 0) = tab (N + 1) (csum sqp onev (-N) 0) from tab_rep]
    refine sw_rng (fun t ρ h => h = [iO (tab (N + 1) (csum sqp onev (-N) t))] ∧ ∃ b, ρ = ⟨[some (iD N), some (.ref 0), b], []⟩) (by omega) (by omega) ⟨rfl, _, rfl⟩ (fun t ρ h ht hv => ?_) fun ρ h hv => ?_
    · obtain ⟨rfl, b, rfl⟩ := hv
      have hl : nth [iO (tab (N + 1) (csum sqp onev (-N) t))] 0 = some (iO (tab (N + 1) (csum sqp onev (-N) t))) := rfl
      have pos := sqp_pos (-N + t)
      simp (disch := omega) only [asgT, List.set_cons_zero, List.set_cons_succ, ow_some, s_seq, s_skip, e_bin, e_v, e_c, nth_zero, nth_succ, bin_mul, s_ite, e_cmp, cmp_le, tw_dec, tru_b, sqp_def]
      refine ⟨fun q => ?_, fun q => ?_⟩
      · simp (disch := omega) only [s_augs, e_bin, e_v, e_c, nth_zero, nth_succ, ow_some, bin_mul, sqp_def, get_tab hl, aug_add, set_tab hl]
        exact ⟨by rw [← csum_step1 pos (by omega)]; rfl, _, rfl⟩
      · rw [← csum_stay (n := N + 1) (by omega)]
        exact ⟨rfl, _, rfl⟩
    · obtain ⟨rfl, b, rfl⟩ := hv
      simp only [s_seq, s_ret, s_skip, s_frz, frz_iO (r := ⟨[some (iD N), some (.ref 0), b], []⟩) (h := [iO _]) (l := 0) (i := 1) rfl rfl, e_v, nth_zero, nth_succ, ow_some, List.set_cons_zero, List.set_cons_succ]
      rw [show ((N : Int) + 1 - -N).toNat = 2 * N + 1 by omega]
      rfl)
  obtain ⟨d', h2, e3, rfl⟩ := this.ok
  exact ⟨_, e3⟩
theorem trto_ok {n N : Nat} (hN : N ≤ 60) : ∃ h', CS P75 (n + 1) (.fn 6) [iD N] [] = .ok (iL (tab (N + 1) (TrL N))) h' := by
  rw [CS_fn p75_6]
  have := fn_run1 (F := ⟨1, 3, [], false, k75_b6⟩) (cs := CS P75 n) (ds := [iD N]) (h := []) (Q := fun x h2 => x = iL (tab (N + 1) (TrL N))) (X := fun c fs h2 => False) rfl rfl rfl (by
    show SW (ex k75_b6 _ ⟨[some (iD N), none, none], []⟩ []) _
    unfold k75_b6
    simp (disch := omega) only [s_seq, s_asg, e_mut, l_rep, l_disp, a_cons, a_nil, e_bin, e_neg, neg_i, e_v, e_c, nth_zero, nth_succ, ow_some, bin_add, rep_i, asgT, List.set_cons_zero, List.set_cons_succ, s_for, i_rng1]
    refine ⟨rfl, ?_⟩
    rw [show (List.replicate ((N : Int) + 1).toNat 0) = tab (N + 1) (csum trp onev 0 0) from tab_rep]
    refine sw_rng (fun t ρ h => h = [iO (tab (N + 1) (csum trp onev 0 t))] ∧ ∃ b, ρ = ⟨[some (iD N), some (.ref 0), b], []⟩) (by omega) (by omega) ⟨rfl, _, rfl⟩ (fun t ρ h ht hv => ?_) fun ρ h hv => ?_
    · obtain ⟨rfl, b, rfl⟩ := hv
      have hl : nth [iO (tab (N + 1) (csum trp onev 0 t))] 0 = some (iO (tab (N + 1) (csum trp onev 0 t))) := rfl
      have pos := trp_pos (k := 0 + t) (by omega)
      simp (disch := omega) only [asgT, List.set_cons_zero, List.set_cons_succ, ow_some, s_seq, s_skip, e_bin, e_v, e_c, nth_zero, nth_succ, bin_mul, bin_add, bin_fdiv, s_ite, e_cmp, cmp_le, tw_dec, tru_b, trp_def]
      refine ⟨fun q => ?_, fun q => ?_⟩
      · simp (disch := omega) only [s_augs, e_bin, e_v, e_c, nth_zero, nth_succ, ow_some, bin_mul, bin_add, bin_fdiv, trp_def, get_tab hl, aug_add, set_tab hl]
        exact ⟨by rw [← csum_step1 pos (by omega)]; rfl, _, rfl⟩
      · rw [← csum_stay (n := N + 1) (by omega)]
        exact ⟨rfl, _, rfl⟩
    · obtain ⟨rfl, b, rfl⟩ := hv
      simp only [s_seq, s_ret, s_skip, s_frz, frz_iO (r := ⟨[some (iD N), some (.ref 0), b], []⟩) (h := [iO _]) (l := 0) (i := 1) rfl rfl, e_v, nth_zero, nth_succ, ow_some, List.set_cons_zero, List.set_cons_succ]
      rw [show ((N : Int) + 1 - 0).toNat = N + 1 by omega]
      rfl)
  obtain ⟨d', h2, e3, rfl⟩ := this.ok
  exact ⟨_, e3⟩
/-! _law_square_row, _law_triangle_row -/
noncomputable def Sq : Nat → Int := csum sqp onev (-8) 17
noncomputable def Tr : Nat → Int := csum trp onev 0 12
theorem lsq_ok {n N : Nat} (hN : N ≤ 60) : ∃ h', CS P75 (n + 1) (.fn 20) [iD N] [] = .ok (iL (tab (N + 1) Sq)) h' := by
  rw [CS_fn p75_20]
  have := fn_run1 (F := ⟨1, 3, [], false, k75_b20⟩) (cs := CS P75 n) (ds := [iD N]) (h := []) (Q := fun x h2 => x = iL (tab (N + 1) Sq)) (X := fun c fs h2 => False) rfl rfl rfl (by
    show SW (ex k75_b20 _ ⟨[some (iD N), none, none], []⟩ []) _
    unfold k75_b20
    simp (disch := omega) only [s_seq, s_asg, e_mut, l_rep, l_disp, a_cons, a_nil, e_bin, e_neg, neg_i, e_v, e_c, nth_zero, nth_succ, ow_some, bin_add, rep_i, asgT, List.set_cons_zero, List.set_cons_succ, s_for, i_rng2]
    refine ⟨rfl, ?_⟩
    rw [show (List.replicate ((N : Int) + 1).toNat 0) = tab (N + 1) (csum sqp onev (-8) 0) from tab_rep]
    refine sw_rng (i := -8) (j := 9) (fun t ρ h => h = [iO (tab (N + 1) (csum sqp onev (-8) t))] ∧ ∃ b, ρ = ⟨[some (iD N), some (.ref 0), b], []⟩) (by omega) (by omega) ⟨rfl, _, rfl⟩ (fun t ρ h ht hv => ?_) fun ρ h hv => ?_
    · obtain ⟨rfl, b, rfl⟩ := hv
      have hl : nth [iO (tab (N + 1) (csum sqp onev (-8) t))] 0 = some (iO (tab (N + 1) (csum sqp onev (-8) t))) := rfl
      have pos := sqp_pos (-8 + t)
      simp (disch := omega) only [asgT, List.set_cons_zero, List.set_cons_succ, ow_some, s_seq, s_skip, e_bin, e_v, e_c, nth_zero, nth_succ, bin_mul, s_ite, e_cmp, cmp_le, tw_dec, tru_b, sqp_def]
      refine ⟨fun q => ?_, fun q => ?_⟩
      · simp (disch := omega) only [s_set, e_bin, e_ix, e_v, e_c, nth_zero, nth_succ, ow_some, bin_mul, bin_add, sqp_def, ix_tab hl, set_tab hl]
        exact ⟨by rw [← csum_step1 pos (by omega)]; rfl, _, rfl⟩
      · rw [← csum_stay (n := N + 1) (by omega)]
        exact ⟨rfl, _, rfl⟩
    · obtain ⟨rfl, b, rfl⟩ := hv
      simp only [s_seq, s_ret, s_skip, s_frz, frz_iO (r := ⟨[some (iD N), some (.ref 0), b], []⟩) (h := [iO _]) (l := 0) (i := 1) rfl rfl, e_v, nth_zero, nth_succ, ow_some, List.set_cons_zero, List.set_cons_succ]
      rfl)
  obtain ⟨d', h2, e3, rfl⟩ := this.ok
  exact ⟨_, e3⟩
theorem ltr_ok {n N : Nat} (hN : N ≤ 60) : ∃ h', CS P75 (n + 1) (.fn 21) [iD N] [] = .ok (iL (tab (N + 1) Tr)) h' := by
  rw [CS_fn p75_21]
  have := fn_run1 (F := ⟨1, 3, [], false, k75_b21⟩) (cs := CS P75 n) (ds := [iD N]) (h := []) (Q := fun x h2 => x = iL (tab (N + 1) Tr)) (X := fun c fs h2 => False) rfl rfl rfl (by
    show SW (ex k75_b21 _ ⟨[some (iD N), none, none], []⟩ []) _
    unfold k75_b21
    simp (disch := omega) only [s_seq, s_asg, e_mut, l_rep, l_disp, a_cons, a_nil, e_bin, e_neg, neg_i, e_v, e_c, nth_zero, nth_succ, ow_some, bin_add, rep_i, asgT, List.set_cons_zero, List.set_cons_succ, s_for, i_rng1]
    refine ⟨rfl, ?_⟩
    rw [show (List.replicate ((N : Int) + 1).toNat 0) = tab (N + 1) (csum trp onev 0 0) from tab_rep]
    refine sw_rng (i := 0) (j := 12) (fun t ρ h => h = [iO (tab (N + 1) (csum trp onev 0 t))] ∧ ∃ b, ρ = ⟨[some (iD N), some (.ref 0), b], []⟩) (by omega) (by omega) ⟨rfl, _, rfl⟩ (fun t ρ h ht hv => ?_) fun ρ h hv => ?_
    · obtain ⟨rfl, b, rfl⟩ := hv
      have hl : nth [iO (tab (N + 1) (csum trp onev 0 t))] 0 = some (iO (tab (N + 1) (csum trp onev 0 t))) := rfl
      have pos := trp_pos (k := 0 + t) (by omega)
      simp (disch := omega) only [asgT, List.set_cons_zero, List.set_cons_succ, ow_some, s_seq, s_skip, e_bin, e_v, e_c, nth_zero, nth_succ, bin_mul, bin_add, bin_fdiv, s_ite, e_cmp, cmp_le, tw_dec, tru_b, trp_def]
      refine ⟨fun q => ?_, fun q => ?_⟩
      · simp (disch := omega) only [s_set, e_bin, e_ix, e_v, e_c, nth_zero, nth_succ, ow_some, bin_mul, bin_add, bin_fdiv, trp_def, ix_tab hl, set_tab hl]
        exact ⟨by rw [← csum_step1 pos (by omega)]; rfl, _, rfl⟩
      · rw [← csum_stay (n := N + 1) (by omega)]
        exact ⟨rfl, _, rfl⟩
    · obtain ⟨rfl, b, rfl⟩ := hv
      simp only [s_seq, s_ret, s_skip, s_frz, frz_iO (r := ⟨[some (iD N), some (.ref 0), b], []⟩) (h := [iO _]) (l := 0) (i := 1) rfl rfl, e_v, nth_zero, nth_succ, ow_some, List.set_cons_zero, List.set_cons_succ]
      rfl)
  obtain ⟨d', h2, e3, rfl⟩ := this.ok
  exact ⟨_, e3⟩
/-! times_sparse, raised -/
theorem enu_iL {xs : List Int} : enuV (iL xs) = some (.fx (enumI (xs.map iD))) := by
  show (match seqF (iL xs) with | some xs => some (Wk.fx (enumI xs)) | none => none) = _
  unfold seqF
  dsimp only
  rw [List.map_map]; rfl
theorem enum_at {xs : List Int} {i : Nat} {x : D} (h : (enumI (xs.map iD))[i]? = some x) : ∃ v, xs[i]? = some v ∧ x = iT [(i : Int), v] := by
  unfold enumI at h
  rw [List.getElem?_map] at h
  obtain ⟨p, hp, rfl⟩ := Option.map_eq_some_iff.mp h
  rw [List.getElem?_zipIdx, List.getElem?_map] at hp
  cases q : xs[i]? with
  | none => rw [q] at hp; cases hp
  | some v =>
    rw [q] at hp
    simp only [Option.map_some, Option.some.injEq] at hp
    subst hp
    exact ⟨v, rfl, by simp only [Nat.zero_add]; rfl⟩
theorem enum_len {xs : List Int} : (enumI (xs.map iD)).length = xs.length := by unfold enumI; simp
theorem sparse_ok {n N : Nat} {f g : Nat → Int} (hN : N ≤ 1000) (hg : ∀ i, i < N → -1000000 < g i ∧ g i < 1000000) : ∃ h', CS P75 (n + 1) (.fn 9) [iL (tab N f), iL (tab N g)] [] = .ok (iL (tab N (cvf g f N N))) h' := by
  rw [CS_fn p75_9]
  have := fn_run1 (F := ⟨2, 6, [], false, k75_b9⟩) (cs := CS P75 n) (ds := [iL (tab N f), iL (tab N g)]) (h := []) (Q := fun x h2 => x = iL (tab N (cvf g f N N))) (X := fun c fs h2 => False) rfl rfl rfl (by
    show SW (ex k75_b9 _ ⟨[some (iL (tab N f)), some (iL (tab N g)), none, none, none, none], []⟩ []) _
    unfold k75_b9
    simp (disch := omega) only [s_seq, s_asg, e_mut, l_rep, l_disp, a_cons, a_nil, e_pr, len_tabL, e_v, e_c, nth_zero, nth_succ, ow_some, rep_i, asgT, List.set_cons_zero, List.set_cons_succ, s_for, i_enu, enu_iL]
    refine ⟨rfl, ?_⟩
    rw [show (List.replicate (N : Int).toNat 0) = tab N (cvf g f N 0) from by rw [Int.toNat_natCast]; exact tab_rep]
    show SW (forL _ _ _ _ _) _
    refine sw_forL (fun t ρ h => h = [iO (tab N (cvf g f N t))] ∧ ∃ a b c, ρ = ⟨[some (iL (tab N f)), some (iL (tab N g)), some (.ref 0), a, b, c], []⟩) ⟨rfl, _, _, _, rfl⟩ (fun t x ρ h hx hv => ?_) fun ρ h hv => ?_
    · obtain ⟨rfl, a, b, c, rfl⟩ := hv
      obtain ⟨v, hv, rfl⟩ := enum_at hx
      have ht : t < N := by
        have := (List.getElem?_eq_some_iff.mp hv).1
        rwa [tab_len] at this
      rw [tab_at ht] at hv
      cases hv
      have hgt := hg t ht
      simp (disch := omega) only [asgT, asgTs, seqT, List.map_cons, List.map_nil, List.set_cons_zero, List.set_cons_succ, ow_some, s_seq, s_ite, s_skip, s_for, i_rng1, e_cmp, e_bin, e_pr, a_cons, a_nil, e_v, e_c, nth_zero, nth_succ, cmp_ne, bin_sub, len_tabL, tru_b, tw_ndec]
      refine ⟨fun q => ?_, fun q => ?_⟩
      · refine ⟨?_, _, _, _, rfl⟩
        rw [tab_ext fun p hp => ?_]
        rw [cvf_succ, q]
        split <;> omega
      · have e0 : tab N (cvf g f N t) = tab N (cvj g f N t 0) := tab_ext fun p hp => by unfold cvj; rw [if_neg (by omega)]; omega
        rw [e0]
        refine sw_rng (fun j ρ h => h = [iO (tab N (cvj g f N t j))] ∧ ∃ c, ρ = ⟨[some (iL (tab N f)), some (iL (tab N g)), some (.ref 0), some (iD t), some (iD (g t)), c], []⟩) (by omega) (by omega) ⟨rfl, _, rfl⟩ (fun j ρ h hj hv => ?_) fun ρ h hv => ?_
        · obtain ⟨rfl, b, rfl⟩ := hv
          have hl : nth [iO (tab N (cvj g f N t j))] 0 = some (iO (tab N (cvj g f N t j))) := rfl
          simp (disch := omega) only [Int.zero_add, asgT, List.set_cons_zero, List.set_cons_succ, ow_some, s_seq, s_augs, s_skip, e_bin, e_ix, e_v, e_c, nth_zero, nth_succ, bin_add, bin_mul, get_tab hl, ix_tabL, aug_add, set_tab hl, Int.toNat_natCast]
          rw [show ((j : Int) + t).toNat = t + j by omega, cvj_step]
          exact ⟨rfl, _, rfl⟩
        · obtain ⟨rfl, b, rfl⟩ := hv
          refine ⟨?_, _, _, _, rfl⟩
          rw [tab_ext fun p hp => ?_]
          unfold cvj
          rw [cvf_succ]
          congr 1
          by_cases z : t ≤ p ∧ p < t + N
          · rw [if_pos z, if_pos (by omega)]
          · rw [if_neg z, if_neg (by omega)]
    · obtain ⟨rfl, a, b, c, rfl⟩ := hv
      simp only [s_seq, s_ret, s_skip, s_frz, frz_iO (r := ⟨[some (iL (tab N f)), some (iL (tab N g)), some (.ref 0), a, b, c], []⟩) (h := [iO _]) (l := 0) (i := 2) rfl rfl, e_v, nth_zero, nth_succ, ow_some, List.set_cons_zero, List.set_cons_succ, enum_len, tab_len])
  obtain ⟨d', h2, e3, rfl⟩ := this.ok
  exact ⟨_, e3⟩
theorem sparse_iso {n N : Nat} {f g : Nat → Int} (hN : N ≤ 1000) (hg : ∀ i, i < N → -1000000 < g i ∧ g i < 1000000) (h : Hh) : isoCall (CS P75 (n + 1)) 9 [iL (tab N f), iL (tab N g)] h = .ok (iL (tab N (cvf g f N N))) h := by
  obtain ⟨_, e⟩ := sparse_ok (n := n) (f := f) hN hg
  exact iso_ok rfl e
noncomputable def pw (g : Nat → Int) (N : Nat) : Nat → Nat → Int
  | 0 => fun p => if p = 0 then 1 else 0
  | t + 1 => cvf g (pw g N t) (N + 1) (N + 1)
theorem raised_ok {n N T : Nat} {g : Nat → Int} (hN : N ≤ 900) (hT : T ≤ 100) (hg : ∀ i, i < N + 1 → -1000000 < g i ∧ g i < 1000000) : ∃ h', CS P75 (n + 2) (.fn 10) [iL (tab (N + 1) g), iD T] [] = .ok (iT (tab (N + 1) (pw g N T))) h' := by
  rw [CS_fn p75_10]
  have := fn_run1 (F := ⟨2, 4, [], false, k75_b10⟩) (cs := CS P75 (n + 1)) (ds := [iL (tab (N + 1) g), iD T]) (h := []) (Q := fun x h2 => x = iT (tab (N + 1) (pw g N T))) (X := fun c fs h2 => False) rfl rfl rfl (by
    show SW (ex k75_b10 _ ⟨[some (iL (tab (N + 1) g)), some (iD T), none, none], []⟩ []) _
    unfold k75_b10
    have e1 : ((N + 1 : Nat) : Int) - 1 = N := by omega
    simp (disch := omega) only [s_seq, s_asg, e_imm, l_cat, l_rep, l_disp, a_cons, a_nil, e_pr, len_tabL, e_bin, bin_sub, e1, e_v, e_c, nth_zero, nth_succ, ow_some, rep_i, mk_iL]
    refine ⟨rfl, rfl, ?_⟩
    simp (disch := omega) only [one_zeros, ow_some, mk_iL, asgT, List.set_cons_zero, List.set_cons_succ, s_for, i_rng1, e_v, nth_zero, nth_succ]
    refine sw_rng (fun t ρ h => ∃ a, ρ = ⟨[some (iL (tab (N + 1) g)), some (iD T), some (iL (tab (N + 1) (pw g N t))), a], []⟩) (by omega) (by omega) ⟨_, rfl⟩ (fun t ρ h ht hv => ?_) fun ρ h hv => ?_
    · obtain ⟨a, rfl⟩ := hv
      simp only [asgT, List.set_cons_zero, List.set_cons_succ, ow_some, s_seq, s_asg, s_skip, e_callT, a_cons, a_nil, e_v, nth_zero, nth_succ, sparse_iso (n := n) (N := N + 1) (f := pw g N t) (show N + 1 ≤ 1000 by omega) hg, ew_ok]
      exact ⟨_, rfl⟩
    · obtain ⟨a, rfl⟩ := hv
      simp only [s_seq, s_ret, s_skip, e_pr, a_cons, a_nil, e_v, nth_zero, nth_succ, ow_some, tup_iL]
      rw [show ((T : Int) - 0).toNat = T by omega])
  obtain ⟨d', h2, e3, rfl⟩ := this.ok
  exact ⟨_, e3⟩
theorem lraised_ok {n N T : Nat} {g : Nat → Int} (hN : N ≤ 900) (hT : T ≤ 100) (hg : ∀ i, i < N + 1 → -1000000 < g i ∧ g i < 1000000) : ∃ h', CS P75 (n + 2) (.fn 22) [iL (tab (N + 1) g), iD T, iD N] [] = .ok (iT (tab (N + 1) (pw g N T))) h' := by
  rw [CS_fn p75_22]
  have := fn_run1 (F := ⟨3, 5, [], false, k75_b22⟩) (cs := CS P75 (n + 1)) (ds := [iL (tab (N + 1) g), iD T, iD N]) (h := []) (Q := fun x h2 => x = iT (tab (N + 1) (pw g N T))) (X := fun c fs h2 => False) rfl rfl rfl (by
    show SW (ex k75_b22 _ ⟨[some (iL (tab (N + 1) g)), some (iD T), some (iD N), none, none], []⟩ []) _
    unfold k75_b22
    simp (disch := omega) only [s_seq, s_asg, e_imm, l_cat, l_rep, l_disp, a_cons, a_nil, e_v, e_c, nth_zero, nth_succ, ow_some, rep_i, mk_iL]
    refine ⟨rfl, rfl, ?_⟩
    simp (disch := omega) only [one_zeros, ow_some, mk_iL, asgT, List.set_cons_zero, List.set_cons_succ, s_for, i_rng1, e_v, nth_zero, nth_succ]
    refine sw_rng (fun t ρ h => ∃ a, ρ = ⟨[some (iL (tab (N + 1) g)), some (iD T), some (iD N), some (iL (tab (N + 1) (pw g N t))), a], []⟩) (by omega) (by omega) ⟨_, rfl⟩ (fun t ρ h ht hv => ?_) fun ρ h hv => ?_
    · obtain ⟨a, rfl⟩ := hv
      simp only [asgT, List.set_cons_zero, List.set_cons_succ, ow_some, s_seq, s_asg, s_skip, e_callT, a_cons, a_nil, e_v, nth_zero, nth_succ, cut_pp (n := n) p75_19 (L := N + 1) (M := N + 1) (N := N) (f := g) (g := pw g N t) (.inl rfl) (.inl rfl) (show N + 1 ≤ 1000 by omega) (show N + 1 ≤ 1000 by omega) (show N ≤ 1000 by omega) (Nat.le_refl _) hg, ew_ok]
      exact ⟨_, rfl⟩
    · obtain ⟨a, rfl⟩ := hv
      simp only [s_seq, s_ret, s_skip, e_pr, a_cons, a_nil, e_v, nth_zero, nth_succ, ow_some, tup_iL]
      rw [show ((T : Int) - 0).toNat = T by omega])
  obtain ⟨d', h2, e3, rfl⟩ := this.ok
  exact ⟨_, e3⟩
end Y

namespace Y
open PySem
/-! law k75: plain rows -/
theorem sqp_far {k : Int} {p : Nat} (h : ((p : Int) < k ∨ k < -(p : Int)) ∨ ((9 ≤ k ∨ k ≤ -9) ∧ p ≤ 60)) : sqp k ≠ p := by
  unfold sqp
  have key : ∀ j : Int, 0 < j → ((p : Int) < j ∨ (9 ≤ j ∧ p ≤ 60)) → j * j ≠ p := fun j hj h => by
    rcases h with h | ⟨h, hp⟩
    · have := Int.mul_le_mul_of_nonneg_right (show (1 : Int) ≤ j by omega) (show 0 ≤ j by omega)
      omega
    · have := Int.mul_le_mul_of_nonneg_right h (show 0 ≤ j by omega)
      omega
  by_cases s : 0 < k
  · exact key k s (by omega)
  · rw [← Int.neg_mul_neg]
    exact key (-k) (by omega) (by omega)
theorem trp_far {k : Int} {p : Nat} (hk : 0 < k) (h : (p : Int) < k ∨ (12 ≤ k ∧ p ≤ 60)) : trp k ≠ p := by
  unfold trp
  rcases h with h | ⟨h, hp⟩
  · have := Int.mul_le_mul_of_nonneg_left (show (2 : Int) ≤ k + 1 by omega) (show 0 ≤ k by omega)
    omega
  · have := Int.mul_le_mul_of_nonneg_right h (show 0 ≤ k + 1 by omega)
    omega
theorem SqL_eq {N : Nat} (hN : N ≤ 60) : tab (N + 1) (SqL N) = tab (N + 1) Sq := tab_ext fun p hp => by
  have a := csum_win (pl := sqp) (vl := onev) (lo := -60) (a := 60 - N) (t := 2 * N + 1) (b := 60 - N) (p := p) (fun j hj => sqp_far (by omega)) (fun j hj => sqp_far (by omega))
  have b := csum_win (pl := sqp) (vl := onev) (lo := -60) (a := 52) (t := 17) (b := 52) (p := p) (fun j hj => sqp_far (by omega)) (fun j hj => sqp_far (by omega))
  rw [show (60 - N) + (2 * N + 1) + (60 - N) = 121 by omega, show (-60 : Int) + ((60 - N : Nat) : Int) = -N by omega] at a
  unfold SqL
  rw [← a]
  exact b
theorem TrL_eq {N : Nat} (hN : N ≤ 60) : tab (N + 1) (TrL N) = tab (N + 1) Tr := tab_ext fun p hp => by
  have a := csum_win (pl := trp) (vl := onev) (lo := 0) (a := 0) (t := N + 1) (b := 61 - (N + 1)) (p := p) (fun j hj => absurd hj (by omega)) (fun j hj => trp_far (by omega) (by omega))
  have b := csum_win (pl := trp) (vl := onev) (lo := 0) (a := 0) (t := 12) (b := 49) (p := p) (fun j hj => absurd hj (by omega)) (fun j hj => trp_far (by omega) (by omega))
  rw [show 0 + (N + 1) + (61 - (N + 1)) = 61 by omega] at a
  exact a.symm.trans b
theorem plc21 (k : Int) : plc 2 1 k = sqp k := by
  unfold plc sqp
  obtain ⟨q, e⟩ := even_kk k
  rw [e, Int.mul_ediv_cancel_left _ (by decide), ← e, Int.mul_sub]
  omega
theorem sg1 (k : Int) : sg 1 k = onev k := by unfold sg onev; split <;> rfl
theorem ssum21 {N : Nat} (hN : N ≤ 60) : Ssum 2 1 1 N = tab (N + 1) Sq := tab_ext fun p hp => by
  rw [csum_congr plc21 sg1]
  have a := csum_win (pl := sqp) (vl := onev) (lo := -62) (a := 60 - N) (t := 2 * N + 5) (b := 60 - N) (p := p) (fun j hj => sqp_far (by omega)) (fun j hj => sqp_far (by omega))
  have b := csum_win (pl := sqp) (vl := onev) (lo := -62) (a := 54) (t := 17) (b := 54) (p := p) (fun j hj => sqp_far (by omega)) (fun j hj => sqp_far (by omega))
  rw [show (60 - N) + (2 * N + 5) + (60 - N) = 125 by omega, show (-62 : Int) + ((60 - N : Nat) : Int) = -N - 2 by omega] at a
  rw [← a]
  exact b
set_option maxHeartbeats 4000000 in
theorem twice_tri : tab 61 (csum (plc 1 0) (sg 1) (-12) 25) = tab 61 (fun p => 2 * Tr p) := by decide +kernel
theorem ssum10 {N : Nat} (hN : N ≤ 60) : Ssum 1 0 1 N = tab (N + 1) (fun p => 2 * Tr p) := tab_ext fun p hp => by
  have a := csum_win (pl := plc 1 0) (vl := sg 1) (lo := -62) (a := 60 - N) (t := 2 * N + 5) (b := 60 - N) (p := p) (fun j hj => far_not (by omega) (by omega) (by omega)) (fun j hj => far_not (by omega) (by omega) (by omega))
  have b := csum_win (pl := plc 1 0) (vl := sg 1) (lo := -62) (a := 50) (t := 25) (b := 50) (p := p) (fun j hj => far_not (by omega) (by omega) (by omega)) (fun j hj => far_not (by omega) (by omega) (by omega))
  rw [show (60 - N) + (2 * N + 5) + (60 - N) = 125 by omega, show (-62 : Int) + ((60 - N : Nat) : Int) = -N - 2 by omega] at a
  rw [← a]
  exact b.trans (tab_inj twice_tri p (by omega))
/-! bounds -/
theorem onev_one (k : Int) : (onev k).natAbs ≤ 1 := Nat.le_refl _
theorem Sq_b (p : Nat) : (Sq p).natAbs ≤ 17 := csum_bound onev_one 17
theorem Tr_b (p : Nat) : (Tr p).natAbs ≤ 12 := csum_bound onev_one 12
theorem cvf_bound {f g : Nat → Int} {M B C : Nat} (hf : ∀ i, (f i).natAbs ≤ C) (hg : ∀ i, (g i).natAbs ≤ B) (p : Nat) : ∀ i, (cvf f g M i p).natAbs ≤ i * (C * B)
  | 0 => Nat.zero_le _
  | i + 1 => by
    rw [cvf_succ, Nat.succ_mul]
    have a := cvf_bound (M := M) hf hg p i
    have b : (f i * g (p - i)).natAbs ≤ C * B := by
      rw [Int.natAbs_mul]
      exact Nat.mul_le_mul (hf i) (hg _)
    split <;> omega
theorem pw_bound {g : Nat → Int} {N : Nat} (hN : N ≤ 60) (hg : ∀ i, (g i).natAbs ≤ 17) : ∀ t p, (pw g N t p).natAbs ≤ 2048 ^ t
  | 0, p => by unfold pw; split <;> decide
  | t + 1, p => by
    have := cvf_bound (M := N + 1) hg (fun i => pw_bound hN hg t i) p (N + 1)
    refine Nat.le_trans this ?_
    rw [Nat.pow_succ, ← Nat.mul_assoc]
    have : (N + 1) * 17 ≤ 61 * 17 := Nat.mul_le_mul (by omega) (Nat.le_refl _)
    calc (N + 1) * 17 * 2048 ^ t ≤ 2048 * 2048 ^ t := Nat.mul_le_mul (by omega) (Nat.le_refl _)
      _ = 2048 ^ t * 2048 := Nat.mul_comm _ _
theorem pw_small {g : Nat → Int} {N t : Nat} (hN : N ≤ 60) (ht : t ≤ 13) (hg : ∀ i, (g i).natAbs ≤ 17) : ∀ x ∈ tab (N + 1) (pw g N t), x.natAbs < 2 ^ 1900 := fun x hx => by
  unfold tab at hx
  obtain ⟨p, _, rfl⟩ := List.mem_map.mp hx
  refine Nat.lt_of_le_of_lt (pw_bound hN hg t p) ?_
  rw [show 2048 = 2 ^ 11 from rfl, ← Nat.pow_mul]
  exact Nat.pow_lt_pow_right (by decide) (by omega)
theorem row_small {g : Nat → Int} {N : Nat} (hg : ∀ i, (g i).natAbs ≤ 1000) : ∀ x ∈ tab (N + 1) g, x.natAbs < 2 ^ 1900 := fun x hx => by
  unfold tab at hx
  obtain ⟨p, _, rfl⟩ := List.mem_map.mp hx
  exact Nat.lt_of_le_of_lt (hg p) (Nat.lt_of_lt_of_le (show 1000 < 2 ^ 10 by decide) (Nat.pow_le_pow_right (by decide) (by decide)))
/-! items no longer change -/
theorem cvf_congr {f f' g g' : Nat → Int} {M M' p : Nat} (hp : p < M) (hp' : p < M') : ∀ i, (∀ j, j < i → j ≤ p → f j = f' j) → (∀ j, j ≤ p → g j = g' j) → cvf f g M i p = cvf f' g' M' i p
  | 0, _, _ => rfl
  | i + 1, hf, hg => by
    rw [cvf_succ, cvf_succ, cvf_congr hp hp' i (fun j hj => hf j (by omega)) hg]
    by_cases q : i ≤ p
    · rw [if_pos ⟨q, by omega⟩, if_pos ⟨q, by omega⟩, hf i (by omega) q, hg (p - i) (by omega)]
    · rw [if_neg (by omega), if_neg (by omega)]
theorem cvf_more {f g : Nat → Int} {M p a : Nat} (h : p < a) : ∀ d, cvf f g M (a + d) p = cvf f g M a p
  | 0 => rfl
  | d + 1 => by
    rw [show a + (d + 1) = a + d + 1 by omega, cvf_succ, cvf_more h d, if_neg (by omega)]; omega
theorem pw_same {g : Nat → Int} {N N' : Nat} (h : N ≤ N') : ∀ t p, p ≤ N → pw g N t p = pw g N' t p
  | 0, p, _ => rfl
  | t + 1, p, hp => by
    show cvf g (pw g N t) (N + 1) (N + 1) p = cvf g (pw g N' t) (N' + 1) (N' + 1) p
    rw [show N' + 1 = N + 1 + (N' - N) by omega, cvf_more (a := N + 1) (by omega)]
    exact cvf_congr (by omega) (by omega) _ (fun _ _ _ => rfl) fun j hj => pw_same h t j (by omega)
end Y

namespace Y
open PySem
/-! law k75: three squares counted -/
noncomputable def in3 (num a b : Int) : Nat := ((List.range 11).filterMap fun (i : Nat) => if a * a + b * b + (-5 + (i : Int)) * (-5 + (i : Int)) = num then some (iD (-5 + (i : Int))) else none).length
noncomputable def cB (num a : Int) (c : Int) : Nat → Int
  | 0 => c
  | t + 1 => cB num a c t + (in3 num a (-5 + t) : Int)
noncomputable def cA (num : Int) : Nat → Int
  | 0 => 0
  | t + 1 => cB num (-5 + t) (cA num t) 11
/-- the same, for the kernel -/
def in3' (num a b : Int) : Nat := (List.range 11).countP fun (i : Nat) => decide (a * a + b * b + (-5 + (i : Int)) * (-5 + (i : Int)) = num)
theorem in3_eq (num a b : Int) : in3 num a b = in3' num a b := by
  unfold in3 in3'
  generalize List.range 11 = l
  induction l with
  | nil => rfl
  | cons x xs ih =>
    rw [List.filterMap_cons, List.countP_cons]
    by_cases q : a * a + b * b + (-5 + (x : Int)) * (-5 + (x : Int)) = num
    · simp only [if_pos q, List.length_cons, ih]
      rw [if_pos (decide_eq_true q)]
    · simp only [if_neg q, ih]
      rw [if_neg (by rw [decide_eq_false q]; decide)]; rfl
def cB' (num a : Int) : Nat → Nat → Nat
  | 0, c => c
  | t + 1, c => cB' num a t c + in3' num a (-5 + t)
def cA' (num : Int) : Nat → Nat
  | 0 => 0
  | t + 1 => cB' num (-5 + t) 11 (cA' num t)
theorem cB_eq (num a : Int) (c : Nat) : ∀ t, cB num a c t = (cB' num a t c : Nat)
  | 0 => rfl
  | t + 1 => by
    unfold cB cB'
    rw [cB_eq num a c t, in3_eq]; omega
theorem cA_eq (num : Int) : ∀ t, cA num t = (cA' num t : Nat)
  | 0 => rfl
  | t + 1 => by
    unfold cA cA'
    rw [cA_eq num t, cB_eq]
def sqT : List Int := [1, 2, 0, 0, 2, 0, 0, 0, 0, 2, 0, 0, 0, 0, 0, 0, 2, 0, 0, 0, 0, 0, 0, 0, 0, 2, 0, 0, 0, 0, 0]
def pT : Nat → List Int
  | 0 => [1, 0, 0, 0, 0, 0, 0, 0, 0, 0, 0, 0, 0, 0, 0, 0, 0, 0, 0, 0, 0, 0, 0, 0, 0, 0, 0, 0, 0, 0, 0]
  | 1 => sqT
  | 2 => [1, 4, 4, 0, 4, 8, 0, 0, 4, 4, 8, 0, 0, 8, 0, 0, 4, 8, 4, 0, 8, 0, 0, 0, 0, 12, 8, 0, 0, 8, 0]
  | _ => [1, 6, 12, 8, 6, 24, 24, 0, 12, 30, 24, 24, 8, 24, 48, 0, 6, 48, 36, 24, 24, 48, 24, 0, 24, 30, 72, 32, 0, 72, 48]
set_option maxHeartbeats 4000000 in
theorem sqT_eq : tab 31 Sq = sqT := by decide +kernel
set_option maxHeartbeats 4000000 in
theorem pT_step : ∀ t, t < 3 → tab 31 (cvf (fun j => sqT.getD j 0) (fun j => (pT t).getD j 0) 31 31) = pT (t + 1) := by decide +kernel
set_option maxHeartbeats 4000000 in
theorem pT_three : ∀ k, k < 31 → ((cA' (k : Nat) 11 : Nat) : Int) = (pT 3).getD k 0 := by decide +kernel
theorem pw_pT : ∀ t, t ≤ 3 → tab 31 (pw Sq 30 t) = pT t
  | 0, _ => by decide +kernel
  | t + 1, h => by
    rw [← pT_step t (by omega)]
    refine tab_ext fun p hp => ?_
    show cvf Sq (pw Sq 30 t) 31 31 p = _
    have a := pw_pT t (by omega)
    refine cvf_congr (by omega) (by omega) _ (fun j hj _ => ?_) fun j hj => ?_
    · rw [← sqT_eq, tab_getD (by omega)]
    · rw [← a, tab_getD (by omega)]
theorem three_count {N k : Nat} (h : k ≤ N) (hk : k ≤ 30) : pw Sq N 3 k = cA k 11 := by
  have e : pw Sq N 3 k = pw Sq 30 3 k := by
    rcases Nat.le_total N 30 with q | q
    · exact pw_same q 3 k h
    · exact (pw_same q 3 k hk).symm
  rw [e, cA_eq, pT_three k (by omega), ← pw_pT 3 (Nat.le_refl _), tab_getD (by omega)]
end Y

namespace Y
open PySem
/-! law k75: square_row, triangle_row, squares_row, triangles_row -/
theorem sqto_iso {n N : Nat} (hN : N ≤ 60) (h : Hh) : isoCall (CS P75 (n + 1)) 5 [iD N] h = .ok (iL (tab (N + 1) Sq)) h := by
  obtain ⟨_, e⟩ := sqto_ok (n := n) hN
  rw [SqL_eq hN] at e
  exact iso_ok rfl e
theorem trto_iso {n N : Nat} (hN : N ≤ 60) (h : Hh) : isoCall (CS P75 (n + 1)) 6 [iD N] h = .ok (iL (tab (N + 1) Tr)) h := by
  obtain ⟨_, e⟩ := trto_ok (n := n) hN
  rw [TrL_eq hN] at e
  exact iso_ok rfl e
theorem lsq_iso {n N : Nat} (hN : N ≤ 60) (h : Hh) : isoCall (CS P75 (n + 1)) 20 [iD N] h = .ok (iL (tab (N + 1) Sq)) h := by
  obtain ⟨_, e⟩ := lsq_ok (n := n) hN
  exact iso_ok rfl e
theorem ltr_iso {n N : Nat} (hN : N ≤ 60) (h : Hh) : isoCall (CS P75 (n + 1)) 21 [iD N] h = .ok (iL (tab (N + 1) Tr)) h := by
  obtain ⟨_, e⟩ := ltr_ok (n := n) hN
  exact iso_ok rfl e
theorem Sq_s (i : Nat) : -1000000 < Sq i ∧ Sq i < 1000000 := by have := Sq_b i; omega
theorem Tr_s (i : Nat) : -1000000 < Tr i ∧ Tr i < 1000000 := by have := Tr_b i; omega
theorem raised_iso {n N T : Nat} {g : Nat → Int} (hN : N ≤ 900) (hT : T ≤ 100) (hg : ∀ i, i < N + 1 → -1000000 < g i ∧ g i < 1000000) (h : Hh) : isoCall (CS P75 (n + 2)) 10 [iL (tab (N + 1) g), iD T] h = .ok (iT (tab (N + 1) (pw g N T))) h := by
  obtain ⟨_, e⟩ := raised_ok (n := n) (T := T) hN hT hg
  exact iso_ok rfl e
theorem lraised_iso {n N T : Nat} {g : Nat → Int} (hN : N ≤ 900) (hT : T ≤ 100) (hg : ∀ i, i < N + 1 → -1000000 < g i ∧ g i < 1000000) (h : Hh) : isoCall (CS P75 (n + 2)) 22 [iL (tab (N + 1) g), iD T, iD N] h = .ok (iT (tab (N + 1) (pw g N T))) h := by
  obtain ⟨_, e⟩ := lraised_ok (n := n) (T := T) hN hT hg
  exact iso_ok rfl e
theorem sqrow_iso {n N : Nat} (hN : N ≤ 60) (h : Hh) : isoCall (CS P75 (n + 4)) 7 [iD N] h = .ok (iT (tab (N + 1) Sq)) h := by
  have e : CS P75 (n + 4) (.fn 7) [iD N] [] = .ok (iT (tab (N + 1) Sq)) [] := by
    rw [CS_fn p75_7]
    have := fn_run1 (F := ⟨1, 1, [], false, k75_b7⟩) (cs := CS P75 (n + 3)) (ds := [iD N]) (h := []) (Q := fun x h2 => x = iT (tab (N + 1) Sq) ∧ h2 = []) (X := fun c fs h2 => False) rfl rfl rfl (by
      show SW (ex k75_b7 _ ⟨[some (iD N)], []⟩ []) _
      unfold k75_b7
      simp only [s_seq, s_ex, s_ret, e_callT, e_pr, a_cons, a_nil, e_v, nth_zero, ow_some, long_iso (n := n) (d := .int N) rfl, betw_nat hN, if_true, ew_ok, sqto_iso (n := n + 2) hN, tup_iL]
      exact ⟨by trivial, by trivial⟩)
    obtain ⟨d', h2, e3, rfl, rfl⟩ := this.ok
    exact e3
  exact iso_ok rfl e
theorem trrow_iso {n N : Nat} (hN : N ≤ 60) (h : Hh) : isoCall (CS P75 (n + 4)) 8 [iD N] h = .ok (iT (tab (N + 1) Tr)) h := by
  have e : CS P75 (n + 4) (.fn 8) [iD N] [] = .ok (iT (tab (N + 1) Tr)) [] := by
    rw [CS_fn p75_8]
    have := fn_run1 (F := ⟨1, 1, [], false, k75_b8⟩) (cs := CS P75 (n + 3)) (ds := [iD N]) (h := []) (Q := fun x h2 => x = iT (tab (N + 1) Tr) ∧ h2 = []) (X := fun c fs h2 => False) rfl rfl rfl (by
      show SW (ex k75_b8 _ ⟨[some (iD N)], []⟩ []) _
      unfold k75_b8
      simp only [s_seq, s_ex, s_ret, e_callT, e_pr, a_cons, a_nil, e_v, nth_zero, ow_some, long_iso (n := n) (d := .int N) rfl, betw_nat hN, if_true, ew_ok, trto_iso (n := n + 2) hN, tup_iL]
      exact ⟨by trivial, by trivial⟩)
    obtain ⟨d', h2, e3, rfl, rfl⟩ := this.ok
    exact e3
  exact iso_ok rfl e
theorem betw_12 {T : Nat} (h : T ≤ 12) : betw (.int T) (some 0) (some 12) = true := by
  have : (T : Int) ≤ 12 := by omega
  simp [betw, this]
theorem terms_iso {n : Nat} {d : PyData} (hd : noDict d = true) (h : Hh) : isoCall (CS P75 (n + 2)) 1 [.p (.str (Str.ofString "terms")), .p d, iD 0, iD 12] h = if betw d (some 0) (some 12) then .ok (.p .none) h else .exn 0 [.p (.str (Str.ofString "terms")), .p d] h := betw_iso (n := n) (w := .str (Str.ofString "terms")) (lo := some 0) (hi := some 12) p75_1 p75_0 hd h
theorem sqsrow_iso {n N T : Nat} (hT : T ≤ 12) (hN : N ≤ 60) (h : Hh) : isoCall (CS P75 (n + 4)) 11 [iD T, iD N] h = .ok (iT (tab (N + 1) (pw Sq N T))) h := by
  have e : CS P75 (n + 4) (.fn 11) [iD T, iD N] [] = .ok (iT (tab (N + 1) (pw Sq N T))) [] := by
    rw [CS_fn p75_11]
    have := fn_run1 (F := ⟨2, 2, [], false, k75_b11⟩) (cs := CS P75 (n + 3)) (ds := [iD T, iD N]) (h := []) (Q := fun x h2 => x = iT (tab (N + 1) (pw Sq N T)) ∧ h2 = []) (X := fun c fs h2 => False) rfl rfl rfl (by
      show SW (ex k75_b11 _ ⟨[some (iD T), some (iD N)], []⟩ []) _
      unfold k75_b11
      simp only [s_seq, s_ex, s_ret, e_callT, e_c, e_g, a_cons, a_nil, e_v, nth_zero, nth_succ, ow_some, terms_iso (n := n + 1) (d := .int T) rfl, betw_12 hT, long_iso (n := n) (d := .int N) rfl, betw_nat hN, if_true, ew_ok, sqto_iso (n := n + 2) hN, raised_iso (n := n + 1) (N := N) (T := T) (g := Sq) (show N ≤ 900 by omega) (show T ≤ 100 by omega) (fun i _ => Sq_s i)]
      exact ⟨by trivial, by trivial⟩)
    obtain ⟨d', h2, e3, rfl, rfl⟩ := this.ok
    exact e3
  exact iso_ok rfl e
theorem trsrow_iso {n N T : Nat} (hT : T ≤ 12) (hN : N ≤ 60) (h : Hh) : isoCall (CS P75 (n + 4)) 12 [iD T, iD N] h = .ok (iT (tab (N + 1) (pw Tr N T))) h := by
  have e : CS P75 (n + 4) (.fn 12) [iD T, iD N] [] = .ok (iT (tab (N + 1) (pw Tr N T))) [] := by
    rw [CS_fn p75_12]
    have := fn_run1 (F := ⟨2, 2, [], false, k75_b12⟩) (cs := CS P75 (n + 3)) (ds := [iD T, iD N]) (h := []) (Q := fun x h2 => x = iT (tab (N + 1) (pw Tr N T)) ∧ h2 = []) (X := fun c fs h2 => False) rfl rfl rfl (by
      show SW (ex k75_b12 _ ⟨[some (iD T), some (iD N)], []⟩ []) _
      unfold k75_b12
      simp only [s_seq, s_ex, s_ret, e_callT, e_c, e_g, a_cons, a_nil, e_v, nth_zero, nth_succ, ow_some, terms_iso (n := n + 1) (d := .int T) rfl, betw_12 hT, long_iso (n := n) (d := .int N) rfl, betw_nat hN, if_true, ew_ok, trto_iso (n := n + 2) hN, raised_iso (n := n + 1) (N := N) (T := T) (g := Tr) (show N ≤ 900 by omega) (show T ≤ 100 by omega) (fun i _ => Tr_s i)]
      exact ⟨by trivial, by trivial⟩)
    obtain ⟨d', h2, e3, rfl, rfl⟩ := this.ok
    exact e3
  exact iso_ok rfl e
/-! the errors -/
section
variable {n : Nat} {few far : PyData}
theorem sqrow_exn (hd : noDict far = true) (hb : betw far (some 0) (some 60) = false) (h : Hh) : isoCall (CS P75 (n + 4)) 7 [.p far] h = .exn 0 [.p (.str (Str.ofString "long")), .p far] h := by
  refine iso_exn rfl (h' := []) ?_ rfl
  rw [CS_fn p75_7]
  refine EW.exn' (fn_run1 rfl rfl rfl ?_)
  show SW (ex k75_b7 _ ⟨[some (.p far)], []⟩ []) _
  unfold k75_b7
  rw [s_seq, s_ex, e_callT]
  simp only [a_cons, a_nil, e_v, nth_zero, nth_succ, ow_some, long_iso (n := n) hd, hb]
  exact ⟨by trivial, by trivial, by trivial⟩
theorem trrow_exn (hd : noDict far = true) (hb : betw far (some 0) (some 60) = false) (h : Hh) : isoCall (CS P75 (n + 4)) 8 [.p far] h = .exn 0 [.p (.str (Str.ofString "long")), .p far] h := by
  refine iso_exn rfl (h' := []) ?_ rfl
  rw [CS_fn p75_8]
  refine EW.exn' (fn_run1 rfl rfl rfl ?_)
  show SW (ex k75_b8 _ ⟨[some (.p far)], []⟩ []) _
  unfold k75_b8
  rw [s_seq, s_ex, e_callT]
  simp only [a_cons, a_nil, e_v, nth_zero, nth_succ, ow_some, long_iso (n := n) hd, hb]
  exact ⟨by trivial, by trivial, by trivial⟩
theorem sqs_few (hd : noDict few = true) (hb : betw few (some 0) (some 12) = false) (h : Hh) : isoCall (CS P75 (n + 4)) 11 [.p few, .p far] h = .exn 0 [.p (.str (Str.ofString "terms")), .p few] h := by
  refine iso_exn rfl (h' := []) ?_ rfl
  rw [CS_fn p75_11]
  refine EW.exn' (fn_run1 rfl rfl rfl ?_)
  show SW (ex k75_b11 _ ⟨[some (.p few), some (.p far)], []⟩ []) _
  unfold k75_b11
  rw [s_seq, s_ex, e_callT]
  simp only [a_cons, a_nil, e_v, e_c, e_g, nth_zero, nth_succ, ow_some, terms_iso (n := n + 1) hd, hb]
  exact ⟨by trivial, by trivial, by trivial⟩
theorem trs_few (hd : noDict few = true) (hb : betw few (some 0) (some 12) = false) (h : Hh) : isoCall (CS P75 (n + 4)) 12 [.p few, .p far] h = .exn 0 [.p (.str (Str.ofString "terms")), .p few] h := by
  refine iso_exn rfl (h' := []) ?_ rfl
  rw [CS_fn p75_12]
  refine EW.exn' (fn_run1 rfl rfl rfl ?_)
  show SW (ex k75_b12 _ ⟨[some (.p few), some (.p far)], []⟩ []) _
  unfold k75_b12
  rw [s_seq, s_ex, e_callT]
  simp only [a_cons, a_nil, e_v, e_c, e_g, nth_zero, nth_succ, ow_some, terms_iso (n := n + 1) hd, hb]
  exact ⟨by trivial, by trivial, by trivial⟩
theorem sqs_far (hd : noDict far = true) (hb : betw far (some 0) (some 60) = false) (h : Hh) : isoCall (CS P75 (n + 4)) 11 [iD 2, .p far] h = .exn 0 [.p (.str (Str.ofString "long")), .p far] h := by
  refine iso_exn rfl (h' := []) ?_ rfl
  rw [CS_fn p75_11]
  refine EW.exn' (fn_run1 rfl rfl rfl ?_)
  show SW (ex k75_b11 _ ⟨[some (iD 2), some (.p far)], []⟩ []) _
  unfold k75_b11
  rw [s_seq, s_ex, e_callT]
  simp only [a_cons, a_nil, e_v, e_c, e_g, nth_zero, nth_succ, ow_some, terms_iso (n := n + 1) (d := .int 2) rfl, show betw (.int 2) (some 0) (some 12) = true from rfl, if_true, ew_ok]
  rw [s_seq, s_ex, e_callT]
  simp only [a_cons, a_nil, e_v, nth_zero, nth_succ, ow_some, long_iso (n := n) hd, hb]
  exact ⟨by trivial, by trivial, by trivial⟩
theorem trs_far (hd : noDict far = true) (hb : betw far (some 0) (some 60) = false) (h : Hh) : isoCall (CS P75 (n + 4)) 12 [iD 2, .p far] h = .exn 0 [.p (.str (Str.ofString "long")), .p far] h := by
  refine iso_exn rfl (h' := []) ?_ rfl
  rw [CS_fn p75_12]
  refine EW.exn' (fn_run1 rfl rfl rfl ?_)
  show SW (ex k75_b12 _ ⟨[some (iD 2), some (.p far)], []⟩ []) _
  unfold k75_b12
  rw [s_seq, s_ex, e_callT]
  simp only [a_cons, a_nil, e_v, e_c, e_g, nth_zero, nth_succ, ow_some, terms_iso (n := n + 1) (d := .int 2) rfl, show betw (.int 2) (some 0) (some 12) = true from rfl, if_true, ew_ok]
  rw [s_seq, s_ex, e_callT]
  simp only [a_cons, a_nil, e_v, nth_zero, nth_succ, ow_some, long_iso (n := n) hd, hb]
  exact ⟨by trivial, by trivial, by trivial⟩
end
end Y

namespace Y
open PySem
/-! law k75: the law's walk -/
noncomputable abbrev hp75 (o : Ob) : Hh := [.cell none, .cell none, o]
noncomputable abbrev rt75 : Ps := ⟨fun _ _ => False, fun x _ => x = .p (.bool true), fun _ _ => False, fun _ _ => False, fun _ _ _ => False⟩
noncomputable abbrev ps75 (K : Rho → Hh → Prop) : Ps := ⟨K, fun _ _ => False, fun _ _ => False, fun _ _ => False, fun _ _ _ => False⟩
noncomputable abbrev hq75 (few far : PyData) (o : Ob) (J : Hh) : Hh := .cell (some (.p few)) :: .cell (some (.p far)) :: o :: J
section
variable {n : Nat} {few far : PyData} {o : Ob} {J : Hh}
theorem l75_5 (h2 : noDict far = true) (b2 : betw far (some 0) (some 60) = false) : calV (CS P75 (n + 5)) (.clo 5 [1]) [] (hq75 few far o J) = .exn 0 [.p (.str (Str.ofString "long")), .p far] (hq75 few far o J) := by
  refine EW.exn' ?_
  show EW (ev (.call true 7 (.cons (.cv 0) .nil)) (CS P75 (n + 4)) ⟨[], [1]⟩ (hq75 few far o J)) _ _
  simp only [e_callT, e_cv, a_cons, a_nil, nth_zero, nth_succ, ow_some, sqrow_exn (n := n) h2 b2, ew_exn]
  exact ⟨by trivial, by trivial, by trivial⟩
theorem l75_4 (h2 : noDict far = true) (b2 : betw far (some 0) (some 60) = false) : calV (CS P75 (n + 5)) (.clo 4 [1]) [] (hq75 few far o J) = .exn 0 [.p (.str (Str.ofString "long")), .p far] (hq75 few far o J) := by
  refine EW.exn' ?_
  show EW (ev (.call true 8 (.cons (.cv 0) .nil)) (CS P75 (n + 4)) ⟨[], [1]⟩ (hq75 few far o J)) _ _
  simp only [e_callT, e_cv, a_cons, a_nil, nth_zero, nth_succ, ow_some, trrow_exn (n := n) h2 b2, ew_exn]
  exact ⟨by trivial, by trivial, by trivial⟩
theorem l75_3 (h1 : noDict few = true) (b1 : betw few (some 0) (some 12) = false) : calV (CS P75 (n + 5)) (.clo 3 [0, 1]) [] (hq75 few far o J) = .exn 0 [.p (.str (Str.ofString "terms")), .p few] (hq75 few far o J) := by
  refine EW.exn' ?_
  show EW (ev (.call true 11 (.cons (.cv 0) (.cons (.cv 1) .nil))) (CS P75 (n + 4)) ⟨[], [0, 1]⟩ (hq75 few far o J)) _ _
  simp only [e_callT, e_cv, a_cons, a_nil, nth_zero, nth_succ, ow_some, sqs_few (n := n) h1 b1, ew_exn]
  exact ⟨by trivial, by trivial, by trivial⟩
theorem l75_2 (h2 : noDict far = true) (b2 : betw far (some 0) (some 60) = false) : calV (CS P75 (n + 5)) (.clo 2 [1]) [] (hq75 few far o J) = .exn 0 [.p (.str (Str.ofString "long")), .p far] (hq75 few far o J) := by
  refine EW.exn' ?_
  show EW (ev (.call true 11 (.cons (.c (.int 2)) (.cons (.cv 0) .nil))) (CS P75 (n + 4)) ⟨[], [1]⟩ (hq75 few far o J)) _ _
  simp only [e_callT, e_cv, e_c, a_cons, a_nil, nth_zero, nth_succ, ow_some, sqs_far (n := n) h2 b2, ew_exn]
  exact ⟨by trivial, by trivial, by trivial⟩
theorem l75_1 (h1 : noDict few = true) (b1 : betw few (some 0) (some 12) = false) : calV (CS P75 (n + 5)) (.clo 1 [0, 1]) [] (hq75 few far o J) = .exn 0 [.p (.str (Str.ofString "terms")), .p few] (hq75 few far o J) := by
  refine EW.exn' ?_
  show EW (ev (.call true 12 (.cons (.cv 0) (.cons (.cv 1) .nil))) (CS P75 (n + 4)) ⟨[], [0, 1]⟩ (hq75 few far o J)) _ _
  simp only [e_callT, e_cv, a_cons, a_nil, nth_zero, nth_succ, ow_some, trs_few (n := n) h1 b1, ew_exn]
  exact ⟨by trivial, by trivial, by trivial⟩
theorem l75_0 (h2 : noDict far = true) (b2 : betw far (some 0) (some 60) = false) : calV (CS P75 (n + 5)) (.clo 0 [1]) [] (hq75 few far o J) = .exn 0 [.p (.str (Str.ofString "long")), .p far] (hq75 few far o J) := by
  refine EW.exn' ?_
  show EW (ev (.call true 12 (.cons (.c (.int 2)) (.cons (.cv 0) .nil))) (CS P75 (n + 4)) ⟨[], [1]⟩ (hq75 few far o J)) _ _
  simp only [e_callT, e_cv, e_c, a_cons, a_nil, nth_zero, nth_succ, ow_some, trs_far (n := n) h2 b2, ew_exn]
  exact ⟨by trivial, by trivial, by trivial⟩
end
noncomputable abbrev due75 (w : String) (d : PyData) : D := .p (.tuple [.str (Str.ofString "number"), .str (Str.ofString w), d])
noncomputable def tries75 (few far : PyData) : List D := [.tup [.clo 5 [1], due75 "long" far], .tup [.clo 4 [1], due75 "long" far], .tup [.clo 3 [0, 1], due75 "terms" few], .tup [.clo 2 [1], due75 "long" far], .tup [.clo 1 [0, 1], due75 "terms" few], .tup [.clo 0 [1], due75 "long" far]]
theorem tries75_due {n L : Nat} {few far : PyData} {o : Ob} {J : Hh} (h1 : tiny few = true ∧ betw few (some 0) (some 12) = false) (h2 : tiny far = true ∧ betw far (some 0) (some 60) = false) (hl : nth (hq75 few far o J) L = some (.lst (tries75 few far))) : CS P75 (n + 7) (.fn 17) [.ref L] (hq75 few far o J) = .ok (.p (.bool true)) (hq75 few far o J) := by
  have t1 := tiny_noDict h1.1
  have t2 := tiny_noDict h2.1
  have r1 : reprOk (.tuple [.str (Str.ofString "number"), .str (Str.ofString "terms"), few]) = true := repr_fault (by decide +kernel) (by decide +kernel) h1.1
  have r2 : reprOk (.tuple [.str (Str.ofString "number"), .str (Str.ofString "long"), far]) = true := repr_fault (by decide +kernel) (by decide +kernel) h2.1
  refine due_ok (n := n + 6) p75_17 hl (by simp [tries75]) fun x hx => ?_
  simp only [tries75, List.mem_cons, List.not_mem_nil, or_false] at hx
  rcases hx with rfl | rfl | rfl | rfl | rfl | rfl
  · exact ⟨_, _, rfl, r2, fault_exn (n := n + 5) p75_16 (fs := [.str (Str.ofString "long"), far]) (l75_5 (n := n) t2 h2.2) rfl⟩
  · exact ⟨_, _, rfl, r2, fault_exn (n := n + 5) p75_16 (fs := [.str (Str.ofString "long"), far]) (l75_4 (n := n) t2 h2.2) rfl⟩
  · exact ⟨_, _, rfl, r1, fault_exn (n := n + 5) p75_16 (fs := [.str (Str.ofString "terms"), few]) (l75_3 (n := n) t1 h1.2) rfl⟩
  · exact ⟨_, _, rfl, r2, fault_exn (n := n + 5) p75_16 (fs := [.str (Str.ofString "long"), far]) (l75_2 (n := n) t2 h2.2) rfl⟩
  · exact ⟨_, _, rfl, r1, fault_exn (n := n + 5) p75_16 (fs := [.str (Str.ofString "terms"), few]) (l75_1 (n := n) t1 h1.2) rfl⟩
  · exact ⟨_, _, rfl, r2, fault_exn (n := n + 5) p75_16 (fs := [.str (Str.ofString "long"), far]) (l75_0 (n := n) t2 h2.2) rfl⟩
end Y

namespace Y
open PySem
/-! law k75: the law's own walk -/
noncomputable abbrev sl75 (s0 s2 s3 s4 s5 s6 s7 s8 s9 s10 s11 s12 s15 s16 s17 : Option D) : Rho := ⟨[s0, some (.ref 2), s2, s3, s4, s5, s6, s7, s8, s9, s10, s11, s12, none, none, s15, s16, s17], [0, 1]⟩
set_option maxHeartbeats 4000000 in
theorem tail75 {n : Nat} {o : Ob} {s0 s2 s3 s4 s5 s6 s7 s8 s9 s10 s11 s12 s15 s16 s17 : Option D} (po : PenOk o 100) : SWI (ex k75_l7 (CS P75 (n + 10)) (sl75 s0 s2 s3 s4 s5 s6 s7 s8 s9 s10 s11 s12 s15 s16 s17) (hp75 o)) rt75 := by
  rw [SWI_eq]
  unfold k75_l7
  simp only [s_seqI, s_asg, e_tup, e_callT, e_c, e_v, a_cons, a_nil, nth_zero, nth_succ, ow_some]
  refine ew_pen (k := 1) (nonum_ok (n := n + 7) p75_18 p75_15 p75_14 (lo := 0) (hi := 12)) rfl rfl po (by omega) fun few o1 p1 q1 => ?_
  refine ew_pen (k := 1) (nonum_ok (n := n + 7) p75_18 p75_15 p75_14 (lo := 0) (hi := 60)) rfl rfl p1 (by omega) fun far o2 p2 q2 => ?_
  refine ⟨rfl, ?_⟩
  have h1 := nonum_facts q1 (by decide)
  have h2 := nonum_facts q2 (by decide)
  show SWI (ex k75_l6 _ (sl75 s0 s2 s3 s4 s5 s6 s7 s8 s9 s10 s11 s12 s15 s16 s17) (hq75 few far o2 [])) _
  have c0 : ∀ x, nth (hq75 few far o2 [] ++ [x]) 0 = some (.cell (some (.p few))) := fun x => rfl
  have c1 : ∀ x, nth (hq75 few far o2 [] ++ [x]) 1 = some (.cell (some (.p far))) := fun x => rfl
  have ap : ∀ xs d, xs.length ≤ 10 → mtV .append (hq75 few far o2 [] ++ [.lst xs]) (.ref 3) [d] = .ok (.p .none) (hq75 few far o2 [] ++ [.lst (xs ++ [d])]) := fun xs d hx => by
    rw [app_ok (l := 3) (xs := xs) rfl (by omega)]; rfl
  have am : ∀ xs, mkOk .append (hq75 few far o2 [] ++ [.lst xs]) (.ref 3) = true := fun xs => app_mk (l := 3) (xs := xs) rfl
  rw [SWI_eq]
  unfold k75_l6
  simp only [s_seqI, s_asg, e_mut, l_disp, e_tup, e_lam, locs, e_cv, e_c, a_cons, a_nil, nth_zero, nth_succ, ow_some]
  refine ⟨rfl, rfl, rfl, ?_⟩
  show SWI (ex k75_l5 _ (sl75 s0 s2 s3 s4 s5 s6 s7 s8 s9 s10 s11 s12 (some (.ref 3)) s16 s17) (hq75 few far o2 [] ++ [.lst [.tup [.clo 5 [1], due75 "long" far]]])) _
  rw [SWI_eq]
  unfold k75_l5
  simp only [s_seqI, s_ex, e_mt, e_v, nth_zero, nth_succ, ow_some, am, true_and, e_tup, e_lam, locs, e_cv, e_c, a_cons, a_nil, c0, c1]
  refine ⟨rfl, rfl, ?_⟩
  rw [ap _ _ (by simp), ew_ok, SWI_eq]
  unfold k75_l4
  simp only [s_seqI, s_ex, e_mt, e_v, nth_zero, nth_succ, ow_some, am, true_and, e_tup, e_lam, locs, e_cv, e_c, a_cons, a_nil, c0, c1]
  refine ⟨rfl, rfl, ?_⟩
  rw [ap _ _ (by simp), ew_ok, SWI_eq]
  unfold k75_l3
  simp only [s_seqI, s_ex, e_mt, e_v, nth_zero, nth_succ, ow_some, am, true_and, e_tup, e_lam, locs, e_cv, e_c, a_cons, a_nil, c0, c1]
  refine ⟨rfl, rfl, ?_⟩
  rw [ap _ _ (by simp), ew_ok, SWI_eq]
  unfold k75_l2
  simp only [s_seqI, s_ex, e_mt, e_v, nth_zero, nth_succ, ow_some, am, true_and, e_tup, e_lam, locs, e_cv, e_c, a_cons, a_nil, c0, c1]
  refine ⟨rfl, rfl, ?_⟩
  rw [ap _ _ (by simp), ew_ok, SWI_eq]
  unfold k75_l1
  simp only [s_seqI, s_ex, e_mt, e_v, nth_zero, nth_succ, ow_some, am, true_and, e_tup, e_lam, locs, e_cv, e_c, a_cons, a_nil, c0, c1]
  refine ⟨rfl, rfl, ?_⟩
  rw [ap _ _ (by simp), ew_ok]
  show SWI (ex k75_l0 _ _ (hq75 few far o2 [.lst (tries75 few far)])) _
  have td := tries75_due (n := n + 3) (L := 3) (J := [Ob.lst (tries75 few far)]) (o := o2) h1 h2 rfl
  rw [SWI_eq]
  unfold k75_l0
  simp only [s_seq, s_ret, e_callF, a_cons, a_nil, e_v, nth_zero, nth_succ, ow_some]
  rw [show CS P75 (n + 10) (.fn 17) [.ref 3] (hq75 few far o2 [.lst (tries75 few far)]) = _ from td, ok_back, ew_ok]
end Y

namespace Y
open PySem
theorem allP_len : ∀ {ds : List D} {ps : List PyData}, allP ds = some ps → ps.length = ds.length
  | [], ps, h => by cases h; rfl
  | .p d :: r, ps, h => by
    have h' : (match allP r with | some ds => some (d :: ds) | none => none) = some ps := h
    cases q : allP r with
    | none => rw [q] at h'; cases h'
    | some qs =>
      rw [q] at h'
      cases h'
      rw [List.length_cons, List.length_cons, allP_len q]
  | .tup _ :: _, _, h => by cases h
  | .lst _ :: _, _, h => by cases h
  | .ref _ :: _, _, h => by cases h
  | .fn _ :: _, _, h => by cases h
  | .clo _ _ :: _, _, h => by cases h
theorem len_mk {h : Hh} {ds : List D} : prV .len h [mkLst ds] = some (iD ds.length) := by
  unfold mkLst
  cases q : allP ds with
  | some ps => rw [← allP_len q]; exact len_pl h ps
  | none =>
    show (match lenV h (.lst ds) with | some n => some (D.p (.int n)) | none => none) = _
    unfold lenV
    simp [seqT, seqL]
theorem rng_len {i j : Int} (hi : -1000 < i ∧ i < 1000) (hj : -1000 < j ∧ j < 1000) : rngV1 (iD i) (iD j) = some (.fx (rangeI i (j - i).toNat 1)) := by
  have s1 : small62 i = true := by unfold small62; exact Nat.ble_eq.mpr (by omega)
  have s2 : small62 j = true := by unfold small62; exact Nat.ble_eq.mpr (by omega)
  simp only [rngV1, s1, s2, Bool.and_self, if_true]
/-- one turn of the count -/
noncomputable def cntB75 : S := .seq (.asg (.nm 9) (.bin .add (.v 9) (.pr .len (.cons (.imm (.comp (.nm 17) (.rng2 (.neg (.c (.int 5))) (.c (.int 6))) (.so (.cmp .eq (.bin .add (.bin .add (.bin .mul (.v 11) (.v 11)) (.bin .mul (.v 12) (.v 12))) (.bin .mul (.v 17) (.v 17))) (.v 10))) (.v 17))) .nil)))) .skip
theorem cnt75 {cs : CSem} {h : Hh} {a b num c : Int} {s0 s2 s3 s4 s5 s6 s7 s8 s15 s16 s17 : Option D} (ha : -10 < a ∧ a < 10) (hb : -10 < b ∧ b < 10) (K : Rho → Hh → Prop) (hK : K (sl75 s0 s2 s3 s4 s5 s6 s7 s8 (some (iD (c + (in3 num a b : Int)))) (some (iD num)) (some (iD a)) (some (iD b)) s15 s16 s17) h) : SW (ex cntB75 cs (sl75 s0 s2 s3 s4 s5 s6 s7 s8 (some (iD c)) (some (iD num)) (some (iD a)) (some (iD b)) s15 s16 s17) h) (ps75 K) := by
  unfold cntB75
  simp (disch := omega) only [s_seq, s_asg, s_skip, e_bin, e_pr, e_imm, l_comp, i_rng2, e_neg, neg_i, e_c, e_v, a_cons, a_nil, nth_zero, nth_succ, ow_some, rng_len, ew_calm]
  refine ⟨rfl, ?_⟩
  show EW (compL _ _ _) _ _
  refine ew_compF (fun i => if a * a + b * b + (-5 + (i : Int)) * (-5 + (i : Int)) = num then some (iD (-5 + (i : Int))) else none) (fun i x hx => ?_) ?_
  · obtain ⟨hi, rfl⟩ := rangeI_at hx
    simp (disch := omega) only [b_so, Int.mul_one, asgT, List.set_cons_zero, List.set_cons_succ, ow_some, e_cmp, e_bin, e_v, nth_zero, nth_succ, bin_mul, bin_add, cmp_eq, tru_b, tw_dec]
    exact ⟨fun q => ⟨by rw [if_pos q], by trivial⟩, fun q => ⟨by rw [if_neg q], by trivial⟩⟩
  · rw [rangeI_len]
    simp only [len_mk, ow_some, bin_add, asgT, List.set_cons_zero, List.set_cons_succ]
    exact hK
set_option maxHeartbeats 4000000 in
theorem count75 {n N k : Nat} {o : Ob} {s0 s3 s4 s5 s6 s7 s8 s11 s12 s15 s16 s17 : Option D} (po : PenOk o 100) (hN : N ≤ 60) (hk : k ≤ N) (hk3 : k ≤ 30) : SWI (ex k75_l9 (CS P75 (n + 10)) (sl75 s0 (some (iD N)) s3 s4 s5 s6 s7 s8 (some (iD 0)) (some (iD k)) s11 s12 s15 s16 s17) (hp75 o)) rt75 := by
  rw [SWI_eq]
  unfold k75_l9
  simp (disch := omega) only [s_seqI, s_for, i_rng2, e_neg, neg_i, e_c, ow_some]
  refine sw_rng (i := -5) (j := 6) (fun t ρ h => h = hp75 o ∧ ∃ s11 s12 s17, ρ = sl75 s0 (some (iD N)) s3 s4 s5 s6 s7 s8 (some (iD (cA k t))) (some (iD k)) s11 s12 s15 s16 s17) (by omega) (by omega) ⟨rfl, _, _, _, rfl⟩ (fun t ρ h ht hv => ?_) fun ρ h hv => ?_
  · obtain ⟨rfl, s11, s12, s17, rfl⟩ := hv
    simp (disch := omega) only [asgT, List.set_cons_zero, List.set_cons_succ, ow_some, s_seq, s_for, s_skip, i_rng2, e_neg, neg_i, e_c]
    refine sw_rng (i := -5) (j := 6) (fun u ρ h => h = hp75 o ∧ ∃ s12 s17, ρ = sl75 s0 (some (iD N)) s3 s4 s5 s6 s7 s8 (some (iD (cB k (-5 + t) (cA k t) u))) (some (iD k)) (some (iD (-5 + t))) s12 s15 s16 s17) (by omega) (by omega) ⟨rfl, _, _, rfl⟩ (fun u ρ h hu hv => ?_) fun ρ h hv => ?_
    · obtain ⟨rfl, s12, s17, rfl⟩ := hv
      simp only [asgT, List.set_cons_zero, List.set_cons_succ, ow_some]
      exact (cnt75 (cs := CS P75 (n + 10)) (h := hp75 o) (a := -5 + t) (b := -5 + u) (num := k) (c := cB k (-5 + t) (cA k t) u) (s0 := s0) (s2 := some (iD N)) (s3 := s3) (s4 := s4) (s5 := s5) (s6 := s6) (s7 := s7) (s8 := s8) (s15 := s15) (s16 := s16) (s17 := s17) (by omega) (by omega) (fun ρ h => h = hp75 o ∧ ∃ s12 s17, ρ = sl75 s0 (some (iD N)) s3 s4 s5 s6 s7 s8 (some (iD (cB k (-5 + t) (cA k t) (u + 1)))) (some (iD k)) (some (iD (-5 + t))) s12 s15 s16 s17) ⟨rfl, _, _, rfl⟩).mono (fun _ _ z => z) (fun _ _ z => z.elim) (fun _ _ z => z.elim) (fun _ _ z => z.elim) fun _ _ _ z => z.elim
    · obtain ⟨rfl, s12, s17, rfl⟩ := hv
      exact ⟨rfl, _, _, _, rfl⟩
  · obtain ⟨rfl, s11, s12, s17, rfl⟩ := hv
    show SWI (ex k75_l8 _ (sl75 s0 (some (iD N)) s3 s4 s5 s6 s7 s8 (some (iD (cA k 11))) (some (iD k)) s11 s12 s15 s16 s17) (hp75 o)) _
    rw [SWI_eq]
    unfold k75_l8
    have e3 : ((3 : Nat) : Int) = 3 := rfl
    have sr := fun h => sqsrow_iso (n := n + 6) (T := 3) (by decide) hN h
    simp only [e3] at sr
    simp (disch := omega) only [s_seqI, s_ite, s_skip, e_cmp, e_ix, e_callT, e_c, e_v, a_cons, a_nil, nth_zero, nth_succ, ow_some, sr, ew_ok, ix_tabT, cmp_ne, tru_b, tw_ndec, Int.toNat_natCast]
    refine ⟨fun _ => tail75 po, fun q => absurd (three_count hk hk3) q⟩
end Y

namespace Y
open PySem
theorem rep_row {h : Hh} {g : Nat → Int} {N : Nat} (hN : N ≤ 60) (hg : ∀ x ∈ tab (N + 1) g, x.natAbs < 2 ^ 1900) : prV .repr h [iT (tab (N + 1) g)] = some (sD (PyData.tuple ((tab (N + 1) g).map .int)).shown) := pr_repr_iT hg (by rw [tab_len]; omega)
noncomputable abbrev lapB75 : S := .seq (.asg (.nm 6) (.call true 14 (.cons (.v 1) (.cons (.c (.int 13)) .nil)))) k75_l13
set_option maxHeartbeats 4000000 in
theorem lap75 {n N c : Nat} {o : Ob} {s0 s5 s6 s7 s8 s9 s10 s11 s12 s15 s16 s17 : Option D} (po : PenOk o c) (hc : c ≤ 100) (hN : N ≤ 60) (K : Rho → Hh → Prop) (hK : ∀ o' s6 s7 s8, PenOk o' (c + 1) → K (sl75 s0 (some (iD N)) (some (iL (tab (N + 1) Sq))) (some (iL (tab (N + 1) Tr))) s5 s6 s7 s8 s9 s10 s11 s12 s15 s16 s17) (hp75 o')) : SW (ex lapB75 (CS P75 (n + 10)) (sl75 s0 (some (iD N)) (some (iL (tab (N + 1) Sq))) (some (iL (tab (N + 1) Tr))) s5 s6 s7 s8 s9 s10 s11 s12 s15 s16 s17) (hp75 o)) (ps75 K) := by
  simp only [s_seqI, s_asg, e_callT, e_c, e_v, a_cons, a_nil, nth_zero, nth_succ, ow_some]
  refine ew_pen (k := 1) (draw_ok (n := n + 9) p75_14 (m := 13) (by omega) (by omega)) rfl rfl po (by omega) fun d o1 p1 q => ?_
  obtain ⟨z, rfl, z0, z1⟩ := q
  obtain ⟨T, rfl⟩ : ∃ T : Nat, z = T := ⟨z.toNat, by omega⟩
  have hT : T ≤ 12 := by omega
  show SWI (ex k75_l13 _ (sl75 s0 (some (iD N)) (some (iL (tab (N + 1) Sq))) (some (iL (tab (N + 1) Tr))) s5 (some (iD T)) s7 s8 s9 s10 s11 s12 s15 s16 s17) (hp75 o1)) _
  rw [SWI_eq]
  unfold k75_l13
  simp only [s_seqI, s_asg, e_tup, e_callT, e_c, e_v, a_cons, a_nil, nth_zero, nth_succ, ow_some, sqsrow_iso (n := n + 6) hT hN, trsrow_iso (n := n + 6) hT hN, ew_ok]
  refine ⟨rfl, ?_⟩
  show SWI (ex k75_l12 _ (sl75 s0 (some (iD N)) (some (iL (tab (N + 1) Sq))) (some (iL (tab (N + 1) Tr))) s5 (some (iD T)) (some (iT (tab (N + 1) (pw Sq N T)))) (some (iT (tab (N + 1) (pw Tr N T)))) s9 s10 s11 s12 s15 s16 s17) (hp75 o1)) _
  rw [SWI_eq]
  unfold k75_l12
  have r1 := fun h => rep_row (h := h) hN (pw_small (t := T) hN (by omega) (fun i => Sq_b i))
  have r2 := fun h => rep_row (h := h) hN (pw_small (t := T) hN (by omega) (fun i => Nat.le_trans (Tr_b i) (by decide)))
  simp only [s_seqI, s_ite, s_skip, e_or, e_cmp, e_pr, e_callT, e_c, e_v, a_cons, a_nil, nth_zero, nth_succ, ow_some, r1, r2, lraised_iso (n := n + 8) (N := N) (T := T) (g := Sq) (show N ≤ 900 by omega) (show T ≤ 100 by omega) (fun i _ => Sq_s i), lraised_iso (n := n + 8) (N := N) (T := T) (g := Tr) (show N ≤ 900 by omega) (show T ≤ 100 by omega) (fun i _ => Tr_s i), ew_ok, cmp_ne_s, decide_true, Bool.not_true, tru_b, tw_f]
  rw [SWI_eq]
  unfold k75_l11
  simp only [s_seq, s_ite, s_skip, e_and, e_cmp, e_c, e_v, nth_zero, nth_succ, ow_some, cmp_lt, tru_b, tw_dec]
  refine ⟨fun q => ?_, fun q => ?_⟩
  · have e1 : (T : Int) + 1 = ((T + 1 : Nat) : Int) := by omega
    have cp := fun h => cut_pp (n := n + 9) p75_19 (L := N + 1) (M := N + 1) (N := N) (f := Sq) (g := pw Sq N T) (X := .list ((tab (N + 1) Sq).map .int)) (Y := .tuple ((tab (N + 1) (pw Sq N T)).map .int)) (.inl rfl) (.inr rfl) (show N + 1 ≤ 1000 by omega) (show N + 1 ≤ 1000 by omega) (show N ≤ 1000 by omega) (Nat.le_refl _) (fun i _ => Sq_s i) h
    simp only [e_callT, e_bin, e_pr, e_c, e_v, a_cons, a_nil, nth_zero, nth_succ, ow_some, bin_add, e1, sqsrow_iso (n := n + 6) (T := T + 1) (show T + 1 ≤ 12 by omega) hN, ew_ok, cp, tup_iL, cmp_ne_iT]
    rw [show tab (N + 1) (pw Sq N (T + 1)) = tab (N + 1) (cvf Sq (pw Sq N T) (N + 1) (N + 1)) from rfl, decide_eq_true rfl]
    exact hK _ _ _ _ p1
  · exact ⟨fun z => absurd z q, fun _ => hK _ _ _ _ p1⟩
theorem comp2 {xs : List Int} : (List.range xs.length).filterMap (fun i => some (iD (2 * xs.getD i 0))) = (xs.map (2 * ·)).map iD := by
  apply List.ext_getElem?
  intro j
  rw [List.filterMap_eq_map', List.getElem?_map, List.getElem?_map, List.getElem?_map]
  by_cases h : j < xs.length
  · rw [List.getElem?_range h, List.getElem?_eq_getElem h]
    simp [h]
  · rw [List.getElem?_eq_none (by simp; omega), List.getElem?_eq_none (by omega)]; rfl
theorem tab_twice {n : Nat} {g : Nat → Int} : (tab n g).map (2 * ·) = tab n (fun p => 2 * g p) := by
  unfold tab
  rw [List.map_map]; rfl
set_option maxHeartbeats 4000000 in
theorem start75 {n N : Nat} {o : Ob} {s0 s3 s4 s5 s6 s7 s8 s9 s10 s11 s12 s15 s16 s17 : Option D} (po : PenOk o 1) (hN : N ≤ 60) : SWI (ex k75_l17 (CS P75 (n + 10)) (sl75 s0 (some (iD N)) s3 s4 s5 s6 s7 s8 s9 s10 s11 s12 s15 s16 s17) (hp75 o)) rt75 := by
  rw [SWI_eq]
  unfold k75_l17
  simp only [s_seqI, s_asg, e_tup, e_callT, e_c, e_v, a_cons, a_nil, nth_zero, nth_succ, ow_some, lsq_iso (n := n + 9) hN, ltr_iso (n := n + 9) hN, ew_ok]
  refine ⟨rfl, ?_⟩
  show SWI (ex k75_l16 _ (sl75 s0 (some (iD N)) (some (iL (tab (N + 1) Sq))) (some (iL (tab (N + 1) Tr))) s5 s6 s7 s8 s9 s10 s11 s12 s15 s16 s17) (hp75 o)) _
  have r1 := fun h => rep_row (h := h) hN (row_small (N := N) (fun i => Nat.le_trans (Sq_b i) (by decide)))
  have r2 := fun h => rep_row (h := h) hN (row_small (N := N) (fun i => Nat.le_trans (Tr_b i) (by decide)))
  rw [SWI_eq]
  unfold k75_l16
  simp only [s_seqI, s_ite, s_skip, e_or, e_cmp, e_pr, e_callT, e_c, e_v, a_cons, a_nil, nth_zero, nth_succ, ow_some, sqrow_iso (n := n + 6) hN, trrow_iso (n := n + 6) hN, tup_iL, r1, r2, ew_ok, cmp_ne_s, decide_true, Bool.not_true, tru_b, tw_f]
  rw [SWI_eq]
  unfold k75_l15
  have s1 := fun h => (iso_ok (cs := CS P75 (n + 10)) (f := 3) (ds := [iD 2, iD 1, iD 1, iD N]) (h := h) rfl (sum3_ok (n := n + 6) (m := 2) (r := 1) (s := 1) p75_3 p75_2 p75_1 p75_0 (by decide) (by decide) (.inl rfl) hN).choose_spec)
  have s2 := fun h => (iso_ok (cs := CS P75 (n + 10)) (f := 3) (ds := [iD 1, iD 0, iD 1, iD N]) (h := h) rfl (sum3_ok (n := n + 6) (m := 1) (r := 0) (s := 1) p75_3 p75_2 p75_1 p75_0 (by decide) (by decide) (.inl rfl) hN).choose_spec)
  have ln : Nat.ble (Wk.fx ((tab (N + 1) Tr).map iD)).len LINE = true := by
    show Nat.ble ((tab (N + 1) Tr).map iD).length LINE = true
    rw [List.length_map, tab_len]
    exact Nat.ble_eq.mpr (by unfold LINE; omega)
  simp only [s_seqI, s_ite, s_skip, e_or, e_cmp, e_pr, e_callT, e_imm, l_comp, i_it, e_c, e_v, a_cons, a_nil, nth_zero, nth_succ, ow_some, s1, s2, tup_iL, ew_ok, ssum21 hN, ssum10 hN, cmp_ne_iT, decide_true, Bool.not_true, tru_b, tw_f, walk_iL, ln, true_and, ew_calm]
  show EW (compL _ _ _) _ _
  refine ew_compF (fun i => some (iD (2 * (tab (N + 1) Tr).getD i 0))) (fun i x hx => ?_) ?_
  · rw [List.getElem?_map] at hx
    obtain ⟨v, hv, rfl⟩ := Option.map_eq_some_iff.mp hx
    simp (disch := omega) only [b_no, asgT, List.set_cons_zero, List.set_cons_succ, ow_some, e_bin, e_c, e_v, nth_zero, nth_succ, bin_mul]
    exact ⟨by rw [List.getD_eq_getElem?_getD, hv]; rfl, by trivial⟩
  · rw [List.length_map, comp2, mk_iL, tab_twice]
    simp only [tup_iL, ow_some, cmp_ne_iT, decide_true, Bool.not_true, tru_b, tw_f]
    rw [SWI_eq]
    unfold k75_l14
    simp (disch := omega) only [s_seqI, s_for, i_rng1, e_c]
    refine sw_rng (i := 0) (j := 3) (fun t ρ h => ∃ o s5 s6 s7 s8, h = hp75 o ∧ PenOk o (1 + t) ∧ ρ = sl75 s0 (some (iD N)) (some (iL (tab (N + 1) Sq))) (some (iL (tab (N + 1) Tr))) s5 s6 s7 s8 s9 s10 s11 s12 s15 s16 s17) (by omega) (by omega) ⟨o, _, _, _, _, rfl, po, rfl⟩ (fun t ρ h ht hv => ?_) fun ρ h hv => ?_
    · obtain ⟨o, s5, s6, s7, s8, rfl, po, rfl⟩ := hv
      have ht3 : t < 3 := ht
      simp only [asgT, List.set_cons_zero, List.set_cons_succ, ow_some]
      exact (lap75 (n := n) (N := N) (c := 1 + t) (o := o) (s0 := s0) (s5 := some (iD (0 + t))) (s6 := s6) (s7 := s7) (s8 := s8) (s9 := s9) (s10 := s10) (s11 := s11) (s12 := s12) (s15 := s15) (s16 := s16) (s17 := s17) po (by omega) hN (fun ρ h => ∃ o s5 s6 s7 s8, h = hp75 o ∧ PenOk o (1 + (t + 1)) ∧ ρ = sl75 s0 (some (iD N)) (some (iL (tab (N + 1) Sq))) (some (iL (tab (N + 1) Tr))) s5 s6 s7 s8 s9 s10 s11 s12 s15 s16 s17) (fun o' a b c p' => ⟨o', _, a, b, c, rfl, p', rfl⟩)).mono (fun _ _ z => z) (fun _ _ z => z.elim) (fun _ _ z => z.elim) (fun _ _ z => z.elim) fun _ _ _ z => z.elim
    · obtain ⟨o, s5, s6, s7, s8, rfl, po, rfl⟩ := hv
      show SWI (ex k75_l10 _ _ _) _
      rw [SWI_eq]
      unfold k75_l10
      simp only [s_seqI, s_asg, e_tup, e_callT, e_bin, e_pr, e_c, e_v, a_cons, a_nil, nth_zero, nth_succ, ow_some, pr_min2, bin_add]
      refine ew_pen (k := 1) (draw_ok (n := n + 9) p75_14 (m := (if (30 : Int) < N then 30 else (N : Int)) + 1) (by split <;> omega) (by split <;> omega)) rfl rfl po (by omega) fun d o1 p1 q => ?_
      obtain ⟨z, rfl, z0, z1⟩ := q
      obtain ⟨k, rfl⟩ : ∃ k : Nat, z = k := ⟨z.toNat, by omega⟩
      refine ⟨rfl, ?_⟩
      exact count75 (p1.mono (by decide)) hN (by split at z1 <;> omega) (by split at z1 <;> omega)
end Y

namespace Y
open PySem
noncomputable def law75F : Fn := ⟨1, 18, [13, 14], true, k75_b23⟩
theorem law75_run {n : Nat} {ns : List Int} (hn : ns.length ≤ 63) : runFn law75F (CS P75 (n + 10)) [scriptD ns] [] = .ok (.p (.bool true)) [] := by
  refine fn_runC rfl rfl ?_
  show SW (ex (.seq (.asg (.nm 1) (.call false 13 (.cons (.v 0) .nil))) k75_l18) _ ⟨[some (iL ns), none, none, none, none, none, none, none, none, none, none, none, none, none, none, none, none, none], [0, 1]⟩ [.cell none, .cell none]) rt75
  obtain ⟨o, ep, po⟩ := pen_ok (P := P75) (n := n + 9) (i := 13) p75_13 hn [.cell none, .cell none]
  rw [s_seqI, s_asg, e_callF, a_cons, e_v, nth_zero, ow_some, ow_some, a_nil]
  rw [show CS P75 (n + 10) (.fn 13) [iL ns] [.cell none, .cell none] = _ from ep]
  show SWI (ex k75_l18 _ (sl75 (some (iL ns)) none none none none none none none none none none none none none none) (hp75 o)) _
  rw [SWI_eq]
  unfold k75_l18
  simp only [s_seqI, s_asg, e_callT, e_c, e_v, a_cons, a_nil, nth_zero, nth_succ, ow_some]
  refine ew_pen (k := 1) (draw_ok (n := n + 9) p75_14 (m := 61) (by omega) (by omega)) rfl rfl po (by omega) fun d o1 p1 q => ?_
  obtain ⟨z, rfl, z0, z1⟩ := q
  obtain ⟨N, rfl⟩ : ∃ N : Nat, z = N := ⟨z.toNat, by omega⟩
  exact start75 p1 (by omega)
theorem law75_true {n : Nat} (ns : List Int) (hn : ns.length ≤ 63) : ∃ h', runFn law75F (CS (progOf k75) (n + 10)) [scriptD ns] [] = .ok (.p (.bool true)) h' := ⟨_, law75_run hn⟩
end Y
open PySem PySem.W PyProof.Rows
set_option maxRecDepth 100000 in
set_option maxHeartbeats 0 in
theorem PySem.Challenge.cw_partrules_k75_squares_and_triangles_holds : PySem.Challenge.rw_partrules_k75_squares_and_triangles.Holds := by
  w_on; o_law; k_head; (case hw => w_witness2)
  k_fill
  refine Y.law_walk (n := 10) (md := Y.k75) (ds := ⟨(Str.ofString "law"), true, [(Str.ofString "script"), (Str.ofString "pen"), (Str.ofString "long"), (Str.ofString "squares"), (Str.ofString "triangles"), (Str.ofString "lap"), (Str.ofString "terms"), (Str.ofString "told"), (Str.ofString "other"), (Str.ofString "count"), (Str.ofString "number"), (Str.ofString "a"), (Str.ofString "b"), (Str.ofString "few"), (Str.ofString "far"), (Str.ofString "tries"), (Str.ofString "item"), (Str.ofString "c")], Y.law75F⟩) ?_ ?_ ?_ ?_ ?_ ?_ ?_
  · rfl
  · rfl
  · exact ⟨rfl, by decide +kernel, by decide +kernel⟩
  · rfl
  · rfl
  · exact fun P => by kernel_rfl
  · exact fun ns hl _ => Y.law75_true (n := 0) ns hl
