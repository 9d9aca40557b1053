import PyProof.Rows.All
import Wide.All
import OpenK.AllK
import Wide.FinOn
import HandS.Base
import HandS.Call
import HandS.List
import HandS.ForMost
import HandS.Style
import HandS.TupMul
import HandS.TupAny
import HandS.Iter
import KE.GoesMore
import HandS.DictComp
import HandS.IsInst
import HandS.Zip
import HandS.More
import HandS.Conv
import HandS.TupLe
import HandS.SortInts
import HandS.Exc
import HandS.Defaults
import HandS.HeadHook1
import KE.SortData
import KE.KDictSum
import PyProof.TupleOfSeq
import HandS.ExcValue
import KE.KDictPairs
import HandS.Words
import HandS.Codes
import HandS.MapObj
import HandS.RevTup
import KE.KDictZip
import HandS.HeadHook2
import KE.KStateDown
import Lean
import HandS.Ends
import HandS.WordsExc
import HandS.Head0
import HandS.Head1
import HandS.Head2
import HandS.HeadEnd
import HandS.HeadHook3
import HandS.HeadHook4
import PySem.Challenge.RW_chainclaims_k81_alike_deeds_known_by_han
set_option Elab.async false
set_option linter.all false
noncomputable section
namespace Ev
open PySem L2

inductive AV where
  | non | bl (b : Bool) | int (i : Int) | str (x : Str) | tup (xs : List AV) | ref (n : Nat)
  /-- the script, as it is given -/
  | scr (ns : List Int)
inductive AO where
  | lst (xs : List AV)
  | dct (kvs : List (Key × AV))
  | ins (c : Nat) (fs : List (Nat × AV))

inductive Tr (α : Type) where
  | lf | nd (l : Tr α) (o : α) (r : Tr α)
/-- by the recursors themselves: the kernel goes these quicker -/
def Tr.get {α : Type} (t : Tr α) : Nat → Option α :=
  Tr.rec (motive := fun _ => Nat → Option α) (fun _ => none)
    (fun _ o _ ihl ihr n => Nat.rec (motive := fun _ => Option α) (some o) (fun k _ => Nat.rec (motive := fun _ => Option α) (ihl (Nat.div k 2)) (fun _ _ => ihr (Nat.div k 2)) (Nat.mod k 2)) n) t
/-- in its place; a new place where the tree ends -/
def Tr.putF {α : Type} (o : α) (t : Tr α) : Nat → Tr α :=
  Tr.rec (motive := fun _ => Nat → Tr α) (fun _ => .nd .lf o .lf)
    (fun l x r ihl ihr n => Nat.rec (motive := fun _ => Tr α) (.nd l o r) (fun k _ => Nat.rec (motive := fun _ => Tr α) (.nd (ihl (Nat.div k 2)) x r) (fun _ _ => .nd l x (ihr (Nat.div k 2))) (Nat.mod k 2)) n) t
def Tr.put {α : Type} (t : Tr α) (n : Nat) (o : α) : Tr α := Tr.putF o t n
/-- in its place, where there is one -/
def Tr.setF {α : Type} (o : α) (t : Tr α) : Nat → Tr α :=
  Tr.rec (motive := fun _ => Nat → Tr α) (fun _ => .lf)
    (fun l x r ihl ihr n => Nat.rec (motive := fun _ => Tr α) (.nd l o r) (fun k _ => Nat.rec (motive := fun _ => Tr α) (.nd (ihl (Nat.div k 2)) x r) (fun _ _ => .nd l x (ihr (Nat.div k 2))) (Nat.mod k 2)) n) t
def Tr.set {α : Type} (t : Tr α) (n : Nat) (o : α) : Tr α := Tr.setF o t n
structure AH where
  n : Nat
  t : Tr AO
def AH.nil : AH := ⟨0, .lf⟩
def AH.get (h : AH) (n : Nat) : Option AO := h.t.get n
def AH.set (h : AH) (n : Nat) (o : AO) : AH := ⟨h.n, h.t.put n o⟩
def AH.push (h : AH) (o : AO) : AH := ⟨h.n + 1, h.t.put h.n o⟩

inductive Res (α : Type) where
  | ok (a : α) (h : AH) | exc (c : Nat) (vs : List AV) (h : AH) | bad
def Res.bind {α β : Type} (r : Res α) (f : α → AH → Res β) : Res β := match r with
  | .ok a h => f a h
  | .exc c vs h => .exc c vs h
  | .bad => .bad
/-- within a comprehension nothing may be raised -/
def Res.calm {α : Type} (r : Res α) : Res α := match r with
  | .ok a h => .ok a h
  | _ => .bad
abbrev SL := Tr (Option AV)
/-- so many slots, all empty -/
def shape : Nat → SL
  | 0 => .lf
  | n + 1 => (shape n).put n none
def fill : List AV → Nat → SL → SL
  | [], _, sl => sl
  | v :: vs, i, sl => fill vs (i + 1) (sl.set i (some v))
inductive RSt where
  | nx (sl : SL) (h : AH) | rt (v : AV) (h : AH) | bk (sl : SL) (h : AH) | ct (sl : SL) (h : AH) | exc (c : Nat) (vs : List AV) (h : AH) | bad

def natsEq : List Nat → List Nat → Bool
  | [], [] => true
  | x :: xs, y :: ys => Nat.beq x y && natsEq xs ys
  | _, _ => false
def natsLt : List Nat → List Nat → Bool
  | [], [] => false
  | [], _ :: _ => true
  | _ :: _, [] => false
  | x :: xs, y :: ys => if Nat.beq x y then natsLt xs ys else Nat.blt x y
def strEq (x y : Str) : Bool := natsEq x.cps.toList y.cps.toList
def strLt (x y : Str) : Bool := natsLt x.cps.toList y.cps.toList
def b2z : Bool → Int
  | true => 1
  | false => 0
def intEq : Int → Int → Bool
  | .ofNat a, .ofNat b => Nat.beq a b
  | .negSucc a, .negSucc b => Nat.beq a b
  | _, _ => false
mutual
def eqD : AV → AV → Bool
  | .non, .non => true
  | .bl a, .bl b => a == b
  | .bl a, .int j => intEq (b2z a) j
  | .int i, .bl b => intEq i (b2z b)
  | .int i, .int j => intEq i j
  | .str x, .str y => strEq x y
  | .tup xs, .tup ys => eqDs xs ys
  | _, _ => false
def eqDs : List AV → List AV → Bool
  | [], [] => true
  | x :: xs, y :: ys => eqD x y && eqDs xs ys
  | _, _ => false
end
mutual
def ltD : AV → AV → Option Bool
  | .int i, .int j => some (decide (i < j))
  | .str x, .str y => some (strLt x y)
  | .tup xs, .tup ys => ltDs xs ys
  | _, _ => none
def ltDs : List AV → List AV → Option Bool
  | [], [] => some false
  | [], _ :: _ => some true
  | _ :: _, [] => some false
  | x :: xs, y :: ys => match ltDs xs ys with
    | none => none
    | some r => if eqD x y then some r else ltD x y
end
def sOk (x : Str) : Bool := x.cps.toList.all fun c => Nat.blt c 1114112
mutual
def noRef : AV → Bool
  | .ref _ => false
  | .scr _ => false
  | .tup xs => noRefs xs
  | _ => true
def noRefs : List AV → Bool
  | [] => true
  | x :: xs => noRef x && noRefs xs
end
/-- none, a flag, a number, a text -/
def flatA : AV → Bool
  | .ref _ => false
  | .scr _ => false
  | .tup _ => false
  | _ => true
/-- plain data, at most so deep -/
def okD : Nat → AV → Bool
  | _, .ref _ => false
  | _, .scr _ => false
  | _, .str x => sOk x
  | 0, .tup _ => false
  | k + 1, .tup xs => xs.all (okD k)
  | _, _ => true
def deep : Nat := 40

def insD (x : AV) : List AV → Option (List AV)
  | [] => some [x]
  | y :: ys => match ltD x y with
    | none => none
    | some true => some (x :: y :: ys)
    | some false => (insD x ys).map (y :: ·)
/-- stable: from the left, each put behind those that are not greater -/
def sortD : List AV → Option (List AV) → Option (List AV)
  | [], acc => acc
  | x :: xs, acc => match acc with
    | none => none
    | some a => sortD xs (insD x a)

def keyOf : AV → Option Key
  | .int i => some (.inl i)
  | .str x => some (.inr x)
  | _ => none
def keyAV : Key → AV
  | .inl i => .int i
  | .inr x => .str x
def keyEq : Key → Key → Bool
  | .inl i, .inl j => intEq i j
  | .inr x, .inr y => strEq x y
  | _, _ => false
def dGet {α : Type} (k : Key) : List (Key × α) → Option α
  | [] => none
  | (q, v) :: r => if keyEq q k then some v else dGet k r
def dPut {α : Type} (k : Key) (v : α) : List (Key × α) → List (Key × α)
  | [] => [(k, v)]
  | (q, u) :: r => if keyEq q k then (q, v) :: r else (q, u) :: dPut k v r
def dDel {α : Type} (k : Key) : List (Key × α) → List (Key × α)
  | [] => []
  | (q, u) :: r => if keyEq q k then r else (q, u) :: dDel k r
/-- pairs put one by one -/
def dMerge : List (Key × AV) → List AV → Option (List (Key × AV))
  | acc, [] => some acc
  | acc, .tup [k, v] :: r => match keyOf k with
    | some q => dMerge (dPut q v acc) r
    | none => none
  | _, _ :: _ => none

def fGet (f : Nat) : List (Nat × AV) → Option AV
  | [] => none
  | (g, v) :: r => if Nat.beq g f then some v else fGet f r
def fPut (f : Nat) (v : AV) : List (Nat × AV) → List (Nat × AV)
  | [] => [(f, v)]
  | (g, u) :: r => if Nat.beq g f then (g, v) :: r else (g, u) :: fPut f v r

inductive BOp where
  | add | sub | mul | fdiv | mod | pow
inductive COp where
  | eq | ne | lt | le | gt | ge | isin | notin | isN | notN
inductive BI where
  | len | max1 | min1 | sum1 | all1 | any1 | sorted1 | abs1 | int1 | list1 | tuple1 | dict1 | dictZ | tupleZ
inductive BM where
  | append | extend | pop0 | dpop1 | dpop2 | get1 | get2
inductive Ty where
  | str | tup | int | bool
/-- targets -/
inductive RT where
  | nm (i : Nat) | tp (ts : RT) | tnil | tcons (t r : RT)

def two64 : Int := 18446744073709551616
def smallI (i : Int) : Bool := decide (-two64 < i) && decide (i < two64)
def line : Nat := 8000000
def short {α : Type} (xs : List α) : Bool := Nat.ble xs.length line
def strCat (x y : Str) : Str := ⟨(x.cps.toList ++ y.cps.toList).toArray⟩
def rep {α : Type} (xs : List α) : Nat → List α
  | 0 => []
  | k + 1 => xs ++ rep xs k
def okI (i : Int) (h : AH) : Res AV := .ok (.int i) h
def newL (xs : List AV) (h : AH) : Res AV := .ok (.ref h.n) (h.push (.lst xs))
def listAt (h : AH) (n : Nat) : Option (List AV) := match h.get n with
  | some (.lst xs) => some xs
  | _ => none
def binA (op : BOp) (x y : AV) (h : AH) : Res AV := match x, y with
  | .int i, .int j => match op with
    | .add => okI (i + j) h
    | .sub => okI (i - j) h
    | .mul => if smallI i || smallI j then okI (i * j) h else .bad
    | .fdiv => if decide (0 < j) && decide (j < 1073741824) then okI (i / j) h else .bad
    | .mod => if decide (0 < j) then okI (i % j) h else .bad
    | .pow => if decide (0 ≤ j) && decide (j ≤ 1000) && smallI i then okI (i ^ j.toNat) h else .bad
  | .str a, .str b => match op with
    | .add => if short a.cps.toList && short b.cps.toList then .ok (.str (strCat a b)) h else .bad
    | _ => .bad
  | .tup xs, .tup ys => match op with
    | .add => if short xs && short ys then .ok (.tup (xs ++ ys)) h else .bad
    | _ => .bad
  | .tup xs, .int k => match op with
    | .mul => if Nat.beq xs.length 1 && decide (0 ≤ k) && decide (k ≤ 1000) then .ok (.tup (rep xs k.toNat)) h else .bad
    | _ => .bad
  | .ref n, .ref m => match op, h.get n, h.get m with
    | .add, some (.lst xs), some (.lst ys) => if short xs && short ys then newL (xs ++ ys) h else .bad
    | _, _, _ => .bad
  | _, _ => .bad
/-- what a thing is as data: lists as tuples beside a mark -/
def eqDicts : List (Key × AV) → List (Key × AV) → Bool
  | [], _ => true
  | (k, v) :: r, ys => (match dGet k ys with
    | some w => eqD v w
    | none => false) && eqDicts r ys
def eqA (x y : AV) (h : AH) : Option Bool := match x, y with
  | .ref n, .ref m => match h.get n, h.get m with
    | some (.lst xs), some (.lst ys) => if xs.all (okD deep) && ys.all (okD deep) then some (eqDs xs ys) else none
    | some (.dct ks), some (.dct ls) => if (ks.map (·.2)).all (okD deep) && (ls.map (·.2)).all (okD deep) && short ks && short ls then
        some (Nat.beq ks.length ls.length && eqDicts ks ls) else none
    | _, _ => none
  | .int i, .int j => some (intEq i j)
  | .str a, .str b => some (strEq a b)
  | x, y => if okD deep x && okD deep y then some (eqD x y) else none
def subStr (x y : List Nat) : Bool := match y with
  | [] => natsEq x []
  | c :: r => natsEq x ((c :: r).take x.length) || subStr x r
def inA (x y : AV) (h : AH) : Option Bool := match y with
  | .tup ys => if flatA x && ys.all flatA then some (ys.any fun z => eqD z x) else none
  | .str t => match x with
    | .str s => if Nat.beq s.cps.toList.length 1 then some (subStr s.cps.toList t.cps.toList) else none
    | _ => none
  | .ref n => match h.get n with
    | some (.lst ys) => if flatA x && ys.all flatA then some (ys.any fun z => eqD z x) else none
    | some (.dct ks) => match keyOf x with
      | some k => some (dGet k ks).isSome
      | none => none
    | _ => none
  | _ => none
def isNon : AV → Bool
  | .non => true
  | _ => false
def cmpA (op : COp) (x y : AV) (h : AH) : Option Bool := match op with
  | .eq => eqA x y h
  | .ne => (eqA x y h).map (!·)
  | .lt => match x, y with
    | .int i, .int j => some (decide (i < j))
    | .str a, .str b => some (strLt a b)
    | x, y => if okD deep x && okD deep y then ltD x y else none
  | .gt => match x, y with
    | .int i, .int j => some (decide (j < i))
    | _, _ => none
  | .le => match x, y with
    | .int i, .int j => some (decide (i ≤ j))
    | _, _ => none
  | .ge => match x, y with
    | .int i, .int j => some (decide (j ≤ i))
    | _, _ => none
  | .isin => inA x y h
  | .notin => (inA x y h).map (!·)
  | .isN => match y with
    | .non => some (isNon x)
    | _ => none
  | .notN => match y with
    | .non => some (!isNon x)
    | _ => none
def truth (v : AV) (h : AH) : Option Bool := match v with
  | .bl b => some b
  | _ => none
def toNix (n : Nat) (i : Int) : Option Nat := if decide (0 ≤ i) then (if decide (i < n) then some i.toNat else none) else if decide (-(n : Int) ≤ i) then some (i + n).toNat else none
def atA {α : Type} (xs : List α) (i : Int) : Option α := match toNix xs.length i with
  | some j => xs[j]?
  | none => none
def optR (o : Option AV) (h : AH) : Res AV := match o with
  | some v => .ok v h
  | none => .bad
def idxA (o i : AV) (h : AH) : Res AV := match o with
  | .tup xs => match i with
    | .int k => optR (atA xs k) h
    | _ => .bad
  | .ref n => match h.get n with
    | some (.lst xs) => match i with
      | .int k => optR (atA xs k) h
      | _ => .bad
    | some (.dct ks) => match keyOf i with
      | some k => optR (dGet k ks) h
      | none => .bad
    | _ => .bad
  | _ => .bad
def sIx (n d : Nat) : Option Int → Nat
  | none => d
  | some i => if decide (i < 0) then (i + n).toNat else min i.toNat n
def cut {α : Type} (xs : List α) (lo hi : Option Int) : List α := (xs.drop (sIx xs.length 0 lo)).take (sIx xs.length xs.length hi - sIx xs.length 0 lo)
def slcA (o : AV) (lo hi : Option Int) (h : AH) : Res AV := match o with
  | .tup xs => .ok (.tup (cut xs lo hi)) h
  | .ref n => match listAt h n with
    | some xs => newL (cut xs lo hi) h
    | none => .bad
  | .scr ns => newL (cut (ns.map .int) lo hi) h
  | _ => .bad
def itemsOf (v : AV) (h : AH) : Option (List AV) := match v with
  | .tup xs => some xs
  | .ref n => listAt h n
  | _ => none
def listOf (v : AV) (h : AH) : Option (List AV) := match v with
  | .ref n => listAt h n
  | _ => none
def intsOf : List AV → Option (List Int)
  | [] => some []
  | .int i :: r => (intsOf r).map (i :: ·)
  | _ :: _ => none
def boolsOf : List AV → Option (List Bool)
  | [] => some []
  | .bl b :: r => (boolsOf r).map (b :: ·)
  | _ :: _ => none
def maxI : Int → List Int → Int
  | m, [] => m
  | m, i :: r => if decide (m < i) then maxI i r else maxI m r
def minI : Int → List Int → Int
  | m, [] => m
  | m, i :: r => if decide (i < m) then minI i r else minI m r
def sumI : Int → List Int → Int
  | m, [] => m
  | m, i :: r => sumI (m + i) r
def zipA : List AV → List AV → List AV
  | x :: xs, y :: ys => .tup [x, y] :: zipA xs ys
  | _, _ => []
mutual
/-- the two can be compared, place by place -/
def alikeA : AV → AV → Bool
  | .non, .non => true
  | .bl _, .bl _ => true
  | .int _, .int _ => true
  | .str _, .str _ => true
  | .tup xs, .tup ys => alikeAs xs ys
  | _, _ => false
def alikeAs : List AV → List AV → Bool
  | x :: xs, y :: ys => alikeA x y && alikeAs xs ys
  | [], _ => true
  | _ :: _, [] => true
end
def isFullTup : AV → Bool
  | .tup (_ :: _) => true
  | _ => false
def isNoTup : AV → Bool
  | .tup _ => false
  | .non => false
  | _ => true
/-- such things can be sorted -/
def sortOk (xs : List AV) : Bool := short xs && (xs.all isFullTup || xs.all isNoTup) && (xs.all fun x => xs.all fun y => alikeA x y) && xs.all (okD deep)
def sortedA (xs : List AV) (h : AH) : Res AV := if sortOk xs then (match sortD xs (some []) with
  | some ys => newL ys h
  | none => .bad) else .bad
def bltA (b : BI) (vs : List AV) (h : AH) : Res AV := match b, vs with
  | .len, [v] => match v with
    | .str x => if short x.cps.toList then okI x.cps.toList.length h else .bad
    | .ref n => match h.get n with
      | some (.lst xs) => okI xs.length h
      | some (.dct ks) => okI ks.length h
      | _ => .bad
    | .tup xs => okI xs.length h
    | .scr ns => okI ns.length h
    | _ => .bad
  | .max1, [v] => match (itemsOf v h).bind intsOf with
    | some (i :: r) => okI (maxI i r) h
    | _ => .bad
  | .min1, [v] => match (listOf v h).bind intsOf with
    | some (i :: r) => okI (minI i r) h
    | _ => .bad
  | .sum1, [v] => match (listOf v h).bind intsOf with
    | some is => okI (sumI 0 is) h
    | _ => .bad
  | .all1, [v] => match (listOf v h).bind boolsOf with
    | some bs => .ok (.bl (bs.all id)) h
    | _ => .bad
  | .any1, [v] => match (listOf v h).bind boolsOf with
    | some bs => .ok (.bl (bs.any id)) h
    | _ => .bad
  | .sorted1, [v] => match v with
    | .ref n => match h.get n with
      | some (.dct ks) => sortedA (ks.map fun p => keyAV p.1) h
      | some (.lst xs) => sortedA xs h
      | _ => .bad
    | .tup xs => sortedA xs h
    | _ => .bad
  | .abs1, [.int i] => okI (if decide (i < 0) then -i else i) h
  | .int1, [.int i] => okI i h
  | .int1, [.bl b] => okI (b2z b) h
  | .list1, [v] => match itemsOf v h with
    | some xs => newL xs h
    | none => .bad
  | .tuple1, [v] => match itemsOf v h with
    | some xs => .ok (.tup xs) h
    | none => .bad
  | .dict1, [v] => match v with
    | .ref n => match h.get n with
      | some (.dct ks) => .ok (.ref h.n) (h.push (.dct ks))
      | some (.lst xs) => if short xs then (match dMerge [] xs with
        | some ks => .ok (.ref h.n) (h.push (.dct ks))
        | none => .bad) else .bad
      | _ => .bad
    | .tup xs => if short xs then (match dMerge [] xs with
      | some ks => .ok (.ref h.n) (h.push (.dct ks))
      | none => .bad) else .bad
    | _ => .bad
  | .dictZ, [.tup xs, .tup ys] => if short xs && short ys then (match dMerge [] (zipA xs ys) with
    | some ks => .ok (.ref h.n) (h.push (.dct ks))
    | none => .bad) else .bad
  | .tupleZ, [.tup xs, .tup ys] => if short xs && short ys then .ok (.tup (zipA xs ys)) h else .bad
  | _, _ => .bad
def isiA (t : Ty) (v : AV) (h : AH) : Option Bool := match v with
  | .non => some false
  | .bl _ => some (match t with
    | .bool => true
    | .int => true
    | _ => false)
  | .int _ => some (match t with
    | .int => true
    | _ => false)
  | .str _ => some (match t with
    | .str => true
    | _ => false)
  | .tup _ => some (match t with
    | .tup => true
    | _ => false)
  | .ref n => match h.get n with
    | some (.lst _) => some false
    | some (.dct _) => some false
    | _ => none
  | .scr _ => none
def bmA (m : BM) (o : AV) (vs : List AV) (h : AH) : Res AV := match o with
  | .ref n => match m, vs, h.get n with
    | .append, [v], some (.lst xs) => if short xs then .ok .non (h.set n (.lst (xs ++ [v]))) else .bad
    | .extend, [.ref k], some (.lst xs) => if Nat.beq n k then .bad else match h.get k with
      | some (.lst ys) => if short xs && short ys then .ok .non (h.set n (.lst (xs ++ ys))) else .bad
      | _ => .bad
    | .pop0, [], some (.lst xs) => match xs.getLast? with
      | some v => .ok v (h.set n (.lst xs.dropLast))
      | none => .bad
    | .dpop1, [k], some (.dct ks) => match keyOf k with
      | some q => match dGet q ks with
        | some v => .ok v (h.set n (.dct (dDel q ks)))
        | none => .bad
      | none => .bad
    | .dpop2, [k, d], some (.dct ks) => match keyOf k with
      | some q => match dGet q ks with
        | some v => .ok v (h.set n (.dct (dDel q ks)))
        | none => .ok d h
      | none => .bad
    | .get1, [k], some (.dct ks) => match keyOf k with
      | some q => .ok ((dGet q ks).getD .non) h
      | none => .bad
    | .get2, [k, d], some (.dct ks) => match keyOf k with
      | some q => .ok ((dGet q ks).getD d) h
      | none => .bad
    | _, _, _ => .bad
  | _ => .bad

inductive Src where
  | fix (xs : List AV) | live (n : Nat) | rng (lo : Int) (n : Nat) | enm (s : Src) | zp (s t : Src)
def Src.item : Src → AH → Nat → Option (Option AV)
  | .fix xs, _, i => some xs[i]?
  | .live n, h, i => match listAt h n with
    | some xs => some xs[i]?
    | none => none
  | .rng lo n, _, i => some (if Nat.blt i n then some (.int (lo + i)) else none)
  | .enm s, h, i => match s.item h i with
    | some (some v) => some (some (.tup [.int i, v]))
    | r => r
  | .zp s t, h, i => match s.item h i with
    | some (some v) => (match t.item h i with
      | some (some w) => some (some (.tup [v, w]))
      | some none => some none
      | none => none)
    | r => r
def Src.many : Src → AH → Nat
  | .fix xs, _ => xs.length
  | .live n, h => match listAt h n with
    | some xs => xs.length
    | none => 0
  | .rng _ n, _ => n
  | .enm s, h => s.many h
  | .zp s _, h => s.many h
def srcOf (v : AV) (h : AH) : Option Src := match v with
  | .tup xs => some (.fix xs)
  | .str x => if short x.cps.toList then some (.fix (x.cps.toList.map fun c => .str ⟨#[c]⟩)) else none
  | .ref n => match listAt h n with
    | some _ => some (.live n)
    | none => none
  | _ => none
/-- for enumerate and zip: a tuple, a list -/
def seqOf (v : AV) (h : AH) : Option Src := match v with
  | .tup xs => some (.fix xs)
  | .ref n => match listAt h n with
    | some _ => some (.live n)
    | none => none
  | _ => none
def inRange (i : Int) : Bool := decide (-1000000000 ≤ i) && decide (i ≤ 1000000000)

def wipeA (sl : SL) : List Nat → SL
  | [] => sl
  | v :: vs => (wipeA sl vs).set v none
def tgtA : RT → AV → SL → Option SL
  | .nm i, v, sl => some (sl.set i (some v))
  | .tp ts, v, sl => match v with
    | .tup _ => tgtA ts v sl
    | _ => none
  | .tnil, v, sl => match v with
    | .tup [] => some sl
    | _ => none
  | .tcons t r, v, sl => match v with
    | .tup (x :: xs) => match tgtA t x sl with
      | some sl' => tgtA r (.tup xs) sl'
      | none => none
    | _ => none

/-- what comes of a call with data alone, without a heap -/
inductive PR where
  | val (v : AV) | exc (c : Nat) (us : List AV) | bad
structure Tab where
  call : Nat → List AV → AH → Res AV
  pcall : Nat → List AV → PR
  meth : Nat → Nat → Option Nat
  init : Nat → Nat
  glo : Nat → AV
  fuel : Nat
def pureVal : Res AV → PR
  | .ok v _ => if noRef v then .val v else .bad
  | .exc c us _ => if noRefs us then .exc c us else .bad
  | .bad => .bad
/-- a call with data alone: it is run where nothing stands, and leaves nothing -/
def pureEnd (h : AH) : PR → Res AV
  | .val v => .ok v h
  | .exc c us => .exc c us h
  | .bad => .bad
def callPure (T : Tab) (f : Nat) (vs : List AV) (h : AH) : Res AV :=
  if noRefs vs then pureEnd h (T.pcall f vs) else T.call f vs h
def optV {α : Type} (o : Option α) (h : AH) : Res α := match o with
  | some a => .ok a h
  | none => .bad

/-- the turns of a comprehension: each item to what it adds, none where nothing -/
def turns (item : AH → Nat → Option (Option AV)) (step : AV → AH → Res (Option AV)) : Nat → Nat → List AV → AH → Res (List AV)
  | 0, i, acc, h => match item h i with
    | some none => .ok acc.reverse h
    | _ => .bad
  | k + 1, i, acc, h => match item h i with
    | none => .bad
    | some none => .ok acc.reverse h
    | some (some v) => (step v h).calm.bind fun o h' => match o with
      | some w => turns item step k (i + 1) (w :: acc) h'
      | none => turns item step k (i + 1) acc h'
/-- what follows a turn of a loop -/
def RSt.turn (r : RSt) (again : SL → AH → RSt) : RSt := match r with
  | .nx sl h => again sl h
  | .ct sl h => again sl h
  | .bk sl h => .nx sl h
  | .rt v h => .rt v h
  | .exc c vs h => .exc c vs h
  | .bad => .bad
def loopF (item : AH → Nat → Option (Option AV)) (body : AV → SL → AH → RSt) : Nat → Nat → SL → AH → RSt
  | 0, i, sl, h => match item h i with
    | some none => .nx sl h
    | _ => .bad
  | k + 1, i, sl, h => match item h i with
    | none => .bad
    | some none => .nx sl h
    | some (some v) => (body v sl h).turn fun sl' h' => loopF item body k (i + 1) sl' h'
def Res.st {α : Type} (r : Res α) (f : α → AH → RSt) : RSt := match r with
  | .ok a h => f a h
  | .exc c vs h => .exc c vs h
  | .bad => .bad
def loopW (c : SL → AH → Res Bool) (body : SL → AH → RSt) : Nat → SL → AH → RSt
  | 0, _, _ => .bad
  | k + 1, sl, h => (c sl h).st fun b h' => match b with
    | true => (body sl h').turn fun sl' h'' => loopW c body k sl' h''
    | false => .nx sl h'

abbrev FE := SL → AH → Res AV
abbrev FA := SL → AH → Res (List AV)
abbrev FT := SL → AH → Res Bool
abbrev FI := SL → AH → Res Src
abbrev FS := SL → AH → RSt
def cSlot (i : Nat) : FE := fun sl h => match sl.get i with
  | some (some v) => .ok v h
  | _ => .bad
def cCst (v : AV) : FE := fun _ h => .ok v h
def cTup (a : FA) : FE := fun sl h => (a sl h).bind fun vs h1 => if short vs then .ok (.tup vs) h1 else .bad
def cLst (a : FA) : FE := fun sl h => (a sl h).bind fun vs h1 => if short vs then newL vs h1 else .bad
def cBin (op : BOp) (a b : FE) : FE := fun sl h => (a sl h).bind fun x h1 => (b sl h1).bind fun y h2 => binA op x y h2
def boolV (o : Option Bool) (h : AH) : Res AV := match o with
  | some b => .ok (.bl b) h
  | none => .bad
def cCmp (op : COp) (a b : FE) : FE := fun sl h => (a sl h).bind fun x h1 => (b sl h1).bind fun y h2 => boolV (cmpA op x y h2) h2
def cChn (o1 o2 : COp) (a b c : FE) : FE := fun sl h => (a sl h).bind fun x h1 => (b sl h1).bind fun y h2 => match cmpA o1 x y h2 with
  | some true => (c sl h2).bind fun z h3 => boolV (cmpA o2 y z h3) h3
  | some false => .ok (.bl false) h2
  | none => .bad
def cAnd (a b : FE) : FE := fun sl h => (a sl h).bind fun x h1 => match x with
  | .bl true => b sl h1
  | .bl false => .ok (.bl false) h1
  | _ => .bad
def cOr (a b : FE) : FE := fun sl h => (a sl h).bind fun x h1 => match x with
  | .bl true => .ok (.bl true) h1
  | .bl false => b sl h1
  | _ => .bad
def cNot (a : FE) : FE := fun sl h => (a sl h).bind fun x h1 => match x with
  | .bl b => .ok (.bl (!b)) h1
  | _ => .bad
def cIfe (c : FT) (a b : FE) : FE := fun sl h => (c sl h).bind fun k h1 => match k with
  | true => a sl h1
  | false => b sl h1
def cCall (T : Tab) (p : Bool) (f : Nat) (a : FA) : FE := fun sl h => (a sl h).bind fun vs h1 => match p with
  | true => callPure T f vs h1
  | false => T.call f vs h1
def cBlt (b : BI) (a : FA) : FE := fun sl h => (a sl h).bind fun vs h1 => bltA b vs h1
def cIsi (t : Ty) (a : FE) : FE := fun sl h => (a sl h).bind fun v h1 => boolV (isiA t v h1) h1
def cMk (T : Tab) (c : Nat) (a : FA) : FE := fun sl h => (a sl h).bind fun vs h1 => (T.call (T.init c) (.ref h1.n :: vs) (h1.push (.ins c []))).bind fun v h2 => match v with
  | .non => .ok (.ref h1.n) h2
  | _ => .bad
def insAt (h : AH) (v : AV) : Option (Nat × Nat × List (Nat × AV)) := match v with
  | .ref n => match h.get n with
    | some (.ins c fs) => some (n, c, fs)
    | _ => none
  | _ => none
def cUm (T : Tab) (m : Nat) (o : FE) (a : FA) : FE := fun sl h => (o sl h).bind fun x h1 => match insAt h1 x with
  | some (_, c, _) => match T.meth c m with
    | some f => (a sl h1).bind fun vs h2 => T.call f (x :: vs) h2
    | none => .bad
  | none => .bad
def BM.isL : BM → Bool
  | .append => true
  | .extend => true
  | .pop0 => true
  | _ => false
def bmKind (m : BM) (x : AV) (h : AH) : Bool := match x with
  | .ref n => match h.get n with
    | some (.lst _) => m.isL
    | some (.dct _) => !m.isL
    | _ => false
  | _ => false
def cBm (m : BM) (o : FE) (a : FA) : FE := fun sl h => (o sl h).bind fun x h1 => if bmKind m x h1 then (a sl h1).bind fun vs h2 => bmA m x vs h2 else .bad
def cFld (f : Nat) (o : FE) : FE := fun sl h => (o sl h).bind fun x h1 => match insAt h1 x with
  | some (_, _, fs) => optV (fGet f fs) h1
  | none => .bad
def cIdx (o i : FE) : FE := fun sl h => (o sl h).bind fun x h1 => (i sl h1).bind fun y h2 => idxA x y h2
abbrev FO := SL → AH → Res (Option Int)
def oNone : FO := fun _ h => .ok none h
def oSome (e : FE) : FO := fun sl h => (e sl h).bind fun x h1 => match x with
  | .int i => .ok (some i) h1
  | _ => .bad
def cSlc (o : FE) (lo hi : FO) : FE := fun sl h => (o sl h).bind fun x h1 => (lo sl h1).bind fun l h2 => (hi sl h2).bind fun u h3 => slcA x l u h3
def revA (x : AV) (h : AH) : Res AV := match x with
  | .ref n => match listAt h n with
    | some xs => newL xs.reverse h
    | none => .bad
  | _ => .bad
def cRev (o : FE) : FE := fun sl h => (o sl h).bind revA
def cDnw : FE := fun _ h => .ok (.ref h.n) (h.push (.dct []))
def cNeg (a : FE) : FE := fun sl h => (a sl h).bind fun x h1 => match x with
  | .int i => okI (-i) h1
  | _ => .bad
def tgtR (t : RT) (v : AV) (sl : SL) (h : AH) : Res SL := optV (tgtA t v sl) h
def stepL (t : RT) (sl : SL) (c : FT) (e : FE) (v : AV) (h : AH) : Res (Option AV) := (tgtR t v sl h).bind fun sl2 h2 => (c sl2 h2).bind fun b h3 => match b with
  | true => (e sl2 h3).bind fun w h4 => .ok (some w) h4
  | false => .ok none h3
def cLcm (own : List Nat) (t : RT) (it : FI) (c : FT) (e : FE) : FE := fun sl h => (it sl h).bind fun src h1 => if Nat.ble (src.many h1) line then
    (turns src.item (stepL t (wipeA sl own) c e) (src.many h1) 0 [] h1).bind newL
  else .bad
def stepD (t : RT) (sl : SL) (c : FT) (k e : FE) (v : AV) (h : AH) : Res (Option (Key × AV)) := (tgtR t v sl h).bind fun sl2 h2 => (c sl2 h2).bind fun b h3 => match b with
  | true => (k sl2 h3).bind fun q h4 => (e sl2 h4).bind fun w h5 => match keyOf q with
    | some q' => .ok (some (q', w)) h5
    | none => .bad
  | false => .ok none h3
def turnsD (item : AH → Nat → Option (Option AV)) (step : AV → AH → Res (Option (Key × AV))) : Nat → Nat → List (Key × AV) → AH → Res (List (Key × AV))
  | 0, i, acc, h => match item h i with
    | some none => .ok acc h
    | _ => .bad
  | k + 1, i, acc, h => match item h i with
    | none => .bad
    | some none => .ok acc h
    | some (some v) => (step v h).calm.bind fun o h' => match o with
      | some (q, w) => turnsD item step k (i + 1) (dPut q w acc) h'
      | none => turnsD item step k (i + 1) acc h'
def newD (ks : List (Key × AV)) (h : AH) : Res AV := .ok (.ref h.n) (h.push (.dct ks))
def cDcm (own : List Nat) (t : RT) (it : FI) (c : FT) (k e : FE) : FE := fun sl h => (it sl h).bind fun src h1 => if Nat.ble (src.many h1) line then
    (turnsD src.item (stepD t (wipeA sl own) c k e) (src.many h1) 0 [] h1).bind newD
  else .bad
def cBad {α : Type} : SL → AH → Res α := fun _ _ => .bad
def aNil : FA := fun _ h => .ok [] h
def aCons (e : FE) (r : FA) : FA := fun sl h => (e sl h).bind fun v h1 => (r sl h1).bind fun vs h2 => .ok (v :: vs) h2
def tAndA (a b : FT) : FT := fun sl h => (a sl h).bind fun k h1 => match k with
  | true => b sl h1
  | false => .ok false h1
def tOrA (a b : FT) : FT := fun sl h => (a sl h).bind fun k h1 => match k with
  | true => .ok true h1
  | false => b sl h1
def tNotA (a : FT) : FT := fun sl h => (a sl h).bind fun k h1 => .ok (!k) h1
def tYesA : FT := fun _ h => .ok true h
def tCmpA (op : COp) (a b : FE) : FT := fun sl h => (a sl h).bind fun x h1 => (b sl h1).bind fun y h2 => optV (cmpA op x y h2) h2
def tValA (e : FE) : FT := fun sl h => (e sl h).bind fun v h1 => optV (truth v h1) h1
def rngOf (i j : Int) (h : AH) : Res Src := if inRange i && inRange j then .ok (.rng i (j - i).toNat) h else .bad
def iRng1A (a : FE) : FI := fun sl h => (a sl h).bind fun x h1 => match x with
  | .int j => rngOf 0 j h1
  | _ => .bad
def iRng2A (a b : FE) : FI := fun sl h => (a sl h).bind fun x h1 => (b sl h1).bind fun y h2 => match x, y with
  | .int i, .int j => rngOf i j h2
  | _, _ => .bad
def iEnmA (a : FE) : FI := fun sl h => (a sl h).bind fun v h1 => match seqOf v h1 with
  | some s => .ok (.enm s) h1
  | none => .bad
def zpOf (s t : Option Src) (h : AH) : Res Src := match s, t with
  | some (.fix xs), some (.fix ys) => .ok (.zp (.fix xs) (.fix ys)) h
  | some (.live n), some (.live m) => .ok (.zp (.live n) (.live m)) h
  | _, _ => .bad
def iZpA (a b : FE) : FI := fun sl h => (a sl h).bind fun v h1 => (b sl h1).bind fun w h2 => zpOf (seqOf v h2) (seqOf w h2) h2
def iValA (e : FE) : FI := fun sl h => (e sl h).bind fun v h1 => optV (srcOf v h1) h1

def setAll : List Nat → List AV → SL → Option SL
  | [], [], sl => some sl
  | i :: is, v :: vs, sl => setAll is vs (sl.set i (some v))
  | _, _, _ => none
def sNil : FS := fun sl h => .nx sl h
def RSt.seq (r : RSt) (f : FS) : RSt := match r with
  | .nx sl h => f sl h
  | .ct sl h => .ct sl h
  | .bk sl h => .bk sl h
  | .rt v h => .rt v h
  | .exc c vs h => .exc c vs h
  | .bad => .bad
def sSeq (s r : FS) : FS := fun sl h => (s sl h).seq r
def sAsg (t : RT) (e : FE) : FS := fun sl h => (e sl h).st fun v h1 => (tgtR t v sl h1).st .nx
def sPar (is : List Nat) (a : FA) : FS := fun sl h => (a sl h).st fun vs h1 => (optV (setAll is vs sl) h1).st .nx
def putF (f : Nat) (x v : AV) (h : AH) : Res Unit := match insAt h x with
  | some (n, c, fs) => if Nat.blt fs.length 100 then .ok () (h.set n (.ins c (fPut f v fs))) else .bad
  | none => .bad
def sSetF (f : Nat) (o e : FE) : FS := fun sl h => (e sl h).st fun v h1 => (o sl h1).st fun x h2 => (putF f x v h2).st fun _ h3 => .nx sl h3
def putI (x j v : AV) (h : AH) : Res Unit := match x with
  | .ref n => match h.get n with
    | some (.lst xs) => match j with
      | .int k => match toNix xs.length k with
        | some q => .ok () (h.set n (.lst (xs.set q v)))
        | none => .bad
      | _ => .bad
    | some (.dct ks) => match keyOf j with
      | some q => if short ks then .ok () (h.set n (.dct (dPut q v ks))) else .bad
      | none => .bad
    | _ => .bad
  | _ => .bad
def sSetI (o i e : FE) : FS := fun sl h => (e sl h).st fun v h1 => (o sl h1).st fun x h2 => (i sl h2).st fun j h3 => (putI x j v h3).st fun _ h4 => .nx sl h4
def augA (op : BOp) (x y : AV) (h : AH) : Res AV := match x, y, op with
  | .int i, .int j, .add => okI (i + j) h
  | .int i, .int j, .sub => okI (i - j) h
  | _, _, _ => .bad
def sAug (i : Nat) (op : BOp) (e : FE) : FS := fun sl h => (cSlot i sl h).st fun x h1 => (e sl h1).st fun y h2 => (augA op x y h2).st fun z h3 => .nx (sl.set i (some z)) h3
def sameC (c : Nat) (x : AV) (h : AH) : Bool := match insAt h x with
  | some (_, d, _) => Nat.beq d c
  | none => false
def sAugF (f : Nat) (op : BOp) (o e : FE) : FS := fun sl h => (o sl h).st fun x h1 => match insAt h1 x with
  | some (_, c, fs) => (optV (fGet f fs) h1).st fun v h2 => (e sl h2).st fun y h3 => (augA op v y h3).st fun z h4 => if sameC c x h4 then (putF f x z h4).st fun _ h5 => .nx sl h5 else .bad
  | none => .bad
def sExp (e : FE) : FS := fun sl h => (e sl h).st fun _ h1 => .nx sl h1
def sRet (e : FE) : FS := fun sl h => (e sl h).st .rt
def sRetN : FS := fun _ h => .rt .non h
def sIf (c : FT) (a b : FS) : FS := fun sl h => (c sl h).st fun k h1 => match k with
  | true => a sl h1
  | false => b sl h1
def bodyF (t : RT) (b : FS) (v : AV) : FS := fun sl h => (tgtR t v sl h).st b
def sFor (t : RT) (it : FI) (b : FS) : FS := fun sl h => (it sl h).st fun src h1 => loopF src.item (bodyF t b) (src.many h1) 0 sl h1
def sNever : FS := fun _ _ => .bad
def sBrk : FS := .bk
def sCont : FS := .ct
def sRaise (c : Nat) (a : FA) : FS := fun sl h => (a sl h).st fun vs h1 => .exc c vs h1

/-- a def: how many slots, how many of them parameters, its body -/
structure FB where
  slots : Nat
  params : Nat
  body : Tab → FS
def RSt.fin (r : RSt) : Res AV := match r with
  | .nx _ h => .ok .non h
  | .rt v h => .ok v h
  | .exc c us h => .exc c us h
  | _ => .bad
def runF (T : Tab) (f : FB) (vs : List AV) (h : AH) : Res AV :=
  if Nat.beq vs.length f.params then (f.body T (fill vs 0 (shape f.slots)) h).fin else .bad
/-- a program: its defs, its classes' methods, its constants -/
structure Prg where
  defs : Nat → Option FB
  meth : Nat → Nat → Option Nat
  init : Nat → Nat
  glo : Nat → AV
  fuel : Nat
def tabAt (P : Prg) (c : Nat → List AV → AH → Res AV) : Tab := ⟨c, fun f vs => pureVal (c f vs .nil), P.meth, P.init, P.glo, P.fuel⟩
def runP (P : Prg) : Nat → Nat → List AV → AH → Res AV
  | 0, _, _, _ => .bad
  | k + 1, f, vs, h => match P.defs f with
    | some fb => runF (tabAt P (runP P k)) fb vs h
    | none => .bad
end Ev
end

set_option Elab.async false
set_option linter.all false
set_option maxRecDepth 100000
set_option maxHeartbeats 4000000
set_option autoImplicit false
namespace Low
open PySem PySem.Spec PyProof.Rows L2
open AutoSeq1 (wpAny_loadPart')
theorem meets_enumerate_newT (l : Addr) (items : Array Value) (n : Nat) (dct : Option Addr) (sl : Array (Option Value)) :
    Meets (Builtin.«enumerate.__new__» ⟨[.type "enumerate", .ref l], []⟩) (fun _ R s => s.heap.get? l = some { cls := .type "tuple", dict := dct, data := .seq items n, slots := sl } ∧
      R (.ok (.ret (.ref (s.heap.push { cls := .type "tuple_iterator", data := .fields #[.ref l, .int 0 0] }).objs.size)))
        { s with heap := (s.heap.push { cls := .type "tuple_iterator", data := .fields #[.ref l, .int 0 0] }).push { cls := .type "enumerate", data := .fields #[.none, .bool false, .ref s.heap.objs.size, rawInt 0, .none, .none] } }) :=
  .of_wp fun prog w A R s h => by
    obtain ⟨hp, g, d, tk, os⟩ := s; obtain ⟨hl, h⟩ := h
    have hsub := sub_enumerate
    have hL : Heap.IsTuple (Shared.heap ⟨hp, g, d, tk, os⟩) l items := ⟨_, hl, rfl, n, rfl⟩
    wp_walk using wpAny_loadPart' hl
    refine wpAny_stack_any fun st => wpAny_pure ?_
    split
    · rename_i c _ _ _ _ _
      cases (c == Value.type "enumerate")
      · wp_walk using wpAny_loadPart' hl, wpAny_pyIter_tuple hL
        exact ⟨_, rfl, h⟩
      · wp_walk using wpAny_loadPart' hl, wpAny_pyIter_tuple hL
        exact ⟨_, rfl, h⟩
    · wp_walk using wpAny_loadPart' hl, wpAny_pyIter_tuple hL
      exact ⟨_, rfl, h⟩
theorem call_enumerate_tuple {prog : Program} {w : World} {A : Around} {E : Value → Shared → Prop} {s : Shared} {l : Addr} {items : Array Value} {Q : Value → Shared → Prop} (hL : s.heap.IsTuple l items)
    (h : ∀ h', IsEnum h' (s.heap.objs.size + 1) s.heap.objs.size 0 .none → h'.IsTupleIter s.heap.objs.size l 0 → h'.objs.size = s.heap.objs.size + 2 →
      (∀ b o, s.heap.get? b = some o → h'.get? b = some o) → Q (.ref (s.heap.objs.size + 1)) { s with heap := h' }) :
    wpAny (model prog w) A (call (.type "enumerate") [.ref l]) Q E s := by
  obtain ⟨⟨c, dct, dt, sl⟩, hl, hc, n, hd⟩ := hL
  replace hc : c = .type "tuple" := hc
  replace hd : dt = .seq items n := hd
  subst hc hd
  refine callType_new F.called_enumerate (by decide) (F.typeCall_enumerate_1 _) (F.newCall_enumerate_1 _) (fun obj => F.args_object_init_2 obj _) F.entry_enumerate_new
    (meets_enumerate_newT l items n dct sl) ⟨hl, ?_⟩
  have hz : (s.heap.push { cls := .type "tuple_iterator", data := .fields #[.ref l, .int 0 0] }).objs.size = s.heap.objs.size + 1 := Heap.size_push ..
  show _ ∧ _
  rw [hz]
  have he : IsEnum ((s.heap.push { cls := .type "tuple_iterator", data := .fields #[.ref l, .int 0 0] }).push
      { cls := .type "enumerate", data := .fields #[.none, .bool false, .ref s.heap.objs.size, rawInt 0, .none, .none] }) (s.heap.objs.size + 1) s.heap.objs.size 0 .none := by
    have := Heap.get?_push_size (s.heap.push { cls := .type "tuple_iterator", data := .fields #[.ref l, .int 0 0] })
      (o := { cls := .type "enumerate", data := .fields #[.none, .bool false, .ref s.heap.objs.size, rawInt 0, .none, .none] }) rfl
    rw [hz] at this; exact this
  refine ⟨⟨_, he, rfl⟩, h _ he ⟨_, Heap.get?_push_of_some _ (Heap.get?_push_size _ rfl), rfl, rfl⟩ (by rw [Heap.size_push, hz]) fun b o x => Heap.get?_push_of_some _ (Heap.get?_push_of_some _ x)⟩
theorem apart {h : Heap} {a b : Addr} {o u : Obj} (x : h.get? a = some o) (y : h.get? b = some u) (n : o.cls ≠ u.cls) : a ≠ b := fun e => by
  subst e
  rw [x] at y
  exact n (congrArg Obj.cls (Option.some.inj y))
theorem enum_endT {prog : Program} {w : World} {A : Around} {E : Value → Shared → Prop} {s : Shared} {e it t : Addr} {i : Int} {k : Nat} {items : Array Value} {old : Value} {Q : Option Value → Shared → Prop} (hh : A.handled = none) (he : IsEnum s.heap e it i old) (hit : s.heap.IsTupleIter it t k) (ht : s.heap.IsTuple t items) (hx : items[k]? = none)
    (hQ : ∀ h', Heap.ExtBut it s.heap h' → Q none { s with heap := h' }) : wpAny (model prog w) A (pyNext (.ref e)) Q E s := by
  have hT : s.TypeIs (.ref e) "enumerate" := ⟨_, he, rfl⟩
  unfold pyNext
  refine wpAny_bind (wpAny_attempt (wpAny_callSpecial?_slot (name := Str.ofString "__next__") hT F.slot_enumerate_next
    (wpAny_call_entry F.slot_enumerate_next hT F.entry_enumerate_next ?_ (F.args_enumerate_next_1 _))))
  show wpAny _ _ (field (.ref e) 2 >>= _) _ _ _
  refine wpAny_bind (wpAny_field he rfl (x := .ref it) rfl ?_)
  refine wpAny_bind (wpAny_nextOf_tuple_end (A := A.in1) hh hit ht hx fun h' x he' hx' => ?_)
  obtain ⟨o, ho, hc⟩ := hx'
  refine wpAny_bind (wpAny_isInstance (T := "StopIteration") (b := true) ⟨o, ho, hc⟩ isSubtype_stop ?_)
  exact wpAny_pure (hQ _ he')
/-- the tuple at a, each item in a new pair -/
def IteTF (K : PySem.W.Frag) (a : Addr) : It :=
  ⟨fun i H => ∃ (xs : List V) (x : V), SqT K H a xs ∧ xs[i]? = some x, fun i H v H' => ∃ T o x, v = .ref T ∧ H T = none ∧ o.dict = none ∧ H' = upd H T (.frz o (.tup [.int (i : Nat), x])) ∧ ∀ xs, SqT K H a xs → xs[i]? = some x, fun i H => ∃ xs : List V, SqT K H a xs ∧ xs.length ≤ i⟩
/-- the list at a, each item in a new pair -/
def IteLF (K : PySem.W.Frag) (a : Addr) : It :=
  ⟨fun i H => ∃ (xs : List V) (x : V), SqL K H a xs ∧ xs[i]? = some x, fun i H v H' => ∃ T o x, v = .ref T ∧ H T = none ∧ o.dict = none ∧ H' = upd H T (.frz o (.tup [.int (i : Nat), x])) ∧ ∀ xs, SqL K H a xs → xs[i]? = some x, fun i H => ∃ xs : List V, SqL K H a xs ∧ xs.length ≤ i⟩
theorem turn_enumTF {P : Program} {w : World} {K : PySem.W.Frag} {elts : List Expr} {kk : Nat} {tpos : Pos} (a e it : Addr) :
    Turn P w K (.Tuple elts kk tpos) (IteTF K a) [e, it] e (fun i h => (∃ old, IsEnum h e it ((i : Nat) : Int) old) ∧ h.IsTupleIter it a i ∧ e ≠ it) where
  mem := by simp
  obj := fun i h st b hb => by
    obtain ⟨⟨old, he⟩, ⟨o, ho, hc, hd⟩, _⟩ := st
    have e' : b = e ∨ b = it := by simpa using hb
    rcases e' with z | z
    · rw [z]; exact ⟨_, he, fun v q => nomatch q⟩
    · rw [z]; exact ⟨o, ho, fun v q => by rw [hd] at q; cases q⟩
  keep := fun i h h' st k => let ⟨⟨old, he⟩, hi, hne⟩ := st; ⟨⟨old, k e (by simp) _ he⟩, hi.at fun o q => k it (by simp) o q, hne⟩
  item := by
    intro X hP hw hK hc i pins s σ H E I hf st hg
    subst hP hw hK
    obtain ⟨⟨old, he⟩, hit, hne⟩ := st
    obtain ⟨xs, x, hq, hx⟩ := hg
    obtain ⟨its, rv, p, hz⟩ := I.tuple hq
    obtain ⟨u, hu, ru⟩ := rv.get hx
    have hel : e < s.heap.objs.size := Heap.lt_size he
    have hil : it < s.heap.objs.size := by obtain ⟨_, q, _⟩ := hit; exact Heap.lt_size q
    have nai : a ≠ it := by
      obtain ⟨o1, p1, c1, _⟩ := id p
      obtain ⟨o2, p2, c2, _⟩ := id hit
      exact apart p1 p2 (by rw [c1, c2]; decide)
    have nea : e ≠ a := by
      obtain ⟨o1, p1, c1, _⟩ := id p
      exact apart he p1 (by rw [c1]; show Value.type "enumerate" ≠ Value.type "tuple"; decide)
    have hlt : i < its.toArray.size := by
      obtain ⟨l, _⟩ := List.getElem?_eq_some_iff.mp hu
      simpa using l
    refine wpAny_pyNext_enum_itemD (Draws.tuple (A := X.A.in1) (I.ok.hd hc) it a nai its.toArray) he ⟨hit, p⟩ hlt hne (by simp [hne, nea]) fun x' h' tk hx' ho st' hT hsz hk => ?_
    have ex : x' = u := by
      have z : its.toArray[i]? = some u := by simpa using hu
      rw [z] at hx'
      exact (Option.some.inj hx').symm
    subst ex
    refine ⟨_, rfl, wpAny_letOwnedTupleGo_enum (s := { s with heap := h', toks := tk + 1 }) ho fun h'' he' sb => ?_⟩
    have hT2 : h''.get? s.heap.objs.size = some { cls := .type "tuple", data := .seq #[.int i tk, x'] } := (sb.2 _ (Nat.ne_of_gt hel)).trans hT
    have new : ObjOk X.prog X.w (upd H s.heap.objs.size (.frz { cls := .type "tuple", data := .seq #[.int i tk, x'] } (.tup [.int (i : Nat), x]))) h'' s.heap.objs.size (.frz { cls := .type "tuple", data := .seq #[.int i tk, x'] } (.tup [.int (i : Nat), x])) :=
      ⟨hT2, by show 2 ≤ sizeLine; decide, [.int i tk, x'], .cons ⟨_, rfl⟩ (.cons ru .nil), ⟨_, hT2, rfl, _, rfl⟩⟩
    have I1 : Inv X pins σ (upd H s.heap.objs.size (.frz { cls := .type "tuple", data := .seq #[.int i tk, x'] } (.tup [.int (i : Nat), x]))) { s with heap := h'', toks := tk + 1 } :=
      I.turnedNew (ch := [e, it]) (fun b ob hb q => (sb.2 b (fun z => hb (by simp [z]))).trans (hk b ob (fun z => hb (by simp [z])) (fun z => hb (by simp [z])) q)) hf (Nat.le_refl _) new
    refine ⟨.ref s.heap.objs.size, _, I1, rfl, ⟨_, _, x, rfl, I.hok.fresh (Nat.le_refl _), rfl, rfl, fun ys hy => by rw [I.tuple_inj hy hq]; exact hx⟩, ⟨⟨x', ?_⟩, st'.1.at fun o q => (sb.2 it (Ne.symm hne)).trans q, hne⟩, fun b hb => ?_⟩
    · have e1 : ((i + 1 : Nat) : Int) = (i : Int) + 1 := by omega
      rw [e1]; exact he'
    · have hb' : b < s.heap.objs.size := by
        have e' : b = e ∨ b = it := by simpa using hb
        rcases e' with z | z
        · rw [z]; exact hel
        · rw [z]; exact hil
      rw [upd_ne (Nat.ne_of_lt hb')]
      exact (hf b hb).1
  done := by
    intro X hP hw hK hc i pins s σ H E I hf st hg
    subst hP hw hK
    obtain ⟨⟨old, he⟩, hit, hne⟩ := st
    obtain ⟨xs, hq, hx⟩ := hg
    obtain ⟨its, rv, p, hz⟩ := I.tuple hq
    obtain ⟨f0, f1, f2, f3, f4, f5⟩ := hf it (by simp)
    have hl := rv.length
    exact enum_endT (I.ok.hd hc) he hit p (by simp; omega) fun h' eb => ⟨rfl, I.turned (t' := s.toks) (fun b o hb q => eb b o hb q) f0 f1 f3 f4 f5⟩
  self := fun A i s Q E st h => let ⟨⟨_, he⟩, _⟩ := st; wpAny_pyIter_enum he h
theorem turn_enumLF {P : Program} {w : World} {K : PySem.W.Frag} {elts : List Expr} {kk : Nat} {tpos : Pos} (a e it : Addr) :
    Turn P w K (.Tuple elts kk tpos) (IteLF K a) [e, it] e (fun i h => (∃ old, IsEnum h e it ((i : Nat) : Int) old) ∧ h.IsListIter it a i ∧ e ≠ it) where
  mem := by simp
  obj := fun i h st b hb => by
    obtain ⟨⟨old, he⟩, ⟨o, ho, hc, hd⟩, _⟩ := st
    have e' : b = e ∨ b = it := by simpa using hb
    rcases e' with z | z
    · rw [z]; exact ⟨_, he, fun v q => nomatch q⟩
    · rw [z]; exact ⟨o, ho, fun v q => by rw [hd] at q; cases q⟩
  keep := fun i h h' st k => let ⟨⟨old, he⟩, hi, hne⟩ := st; ⟨⟨old, k e (by simp) _ he⟩, hi.at fun o q => k it (by simp) o q, hne⟩
  item := by
    intro X hP hw hK hc i pins s σ H E I hf st hg
    subst hP hw hK
    obtain ⟨⟨old, he⟩, hit, hne⟩ := st
    obtain ⟨xs, x, hq, hx⟩ := hg
    obtain ⟨its, rv, p, hz⟩ := I.list hq
    obtain ⟨u, hu, ru⟩ := rv.get hx
    have hel : e < s.heap.objs.size := Heap.lt_size he
    have hil : it < s.heap.objs.size := by obtain ⟨_, q, _⟩ := hit; exact Heap.lt_size q
    refine wpAny_pyNext_enum_item he hit p.isList (x := u) (by simpa using hu) hne fun h' ho hit' hT hsz hk => ?_
    refine ⟨_, rfl, wpAny_letOwnedTupleGo_enum (s := { s with heap := h', toks := s.toks + 1 }) ho fun h'' he' sb => ?_⟩
    have hT2 : h''.get? s.heap.objs.size = some { cls := .type "tuple", data := .seq #[.int i s.toks, u] } := (sb.2 _ (Nat.ne_of_gt hel)).trans hT
    have new : ObjOk X.prog X.w (upd H s.heap.objs.size (.frz { cls := .type "tuple", data := .seq #[.int i s.toks, u] } (.tup [.int (i : Nat), x]))) h'' s.heap.objs.size (.frz { cls := .type "tuple", data := .seq #[.int i s.toks, u] } (.tup [.int (i : Nat), x])) :=
      ⟨hT2, by show 2 ≤ sizeLine; decide, [.int i s.toks, u], .cons ⟨_, rfl⟩ (.cons ru .nil), ⟨_, hT2, rfl, _, rfl⟩⟩
    have I1 : Inv X pins σ (upd H s.heap.objs.size (.frz { cls := .type "tuple", data := .seq #[.int i s.toks, u] } (.tup [.int (i : Nat), x]))) { s with heap := h'', toks := s.toks + 1 } :=
      I.turnedNew (ch := [e, it]) (fun b ob hb q => (sb.2 b (fun z => hb (by simp [z]))).trans (hk b ob (fun z => hb (by simp [z])) (fun z => hb (by simp [z])) q)) hf (Nat.le_refl _) new
    refine ⟨.ref s.heap.objs.size, _, I1, rfl, ⟨_, _, x, rfl, I.hok.fresh (Nat.le_refl _), rfl, rfl, fun ys hy => by rw [I.list_inj hy hq]; exact hx⟩, ⟨⟨u, ?_⟩, hit'.at fun o q => (sb.2 it (Ne.symm hne)).trans q, hne⟩, fun b hb => ?_⟩
    · have e1 : ((i + 1 : Nat) : Int) = (i : Int) + 1 := by omega
      rw [e1]; exact he'
    · have hb' : b < s.heap.objs.size := by
        have e' : b = e ∨ b = it := by simpa using hb
        rcases e' with z | z
        · rw [z]; exact hel
        · rw [z]; exact hil
      rw [upd_ne (Nat.ne_of_lt hb')]
      exact (hf b hb).1
  done := by
    intro X hP hw hK hc i pins s σ H E I hf st hg
    subst hP hw hK
    obtain ⟨⟨old, he⟩, hit, hne⟩ := st
    obtain ⟨xs, hq, hx⟩ := hg
    obtain ⟨its, rv, p, hz⟩ := I.list hq
    obtain ⟨f0, f1, f2, f3, f4, f5⟩ := hf it (by simp)
    have hl := rv.length
    exact wpAny_pyNext_enum_end (I.ok.hd hc) he hit p.isList (by simp; omega) fun h' eb => ⟨rfl, I.turned (t' := s.toks) (fun b o hb q => eb b o hb q) f0 f1 f3 f4 f5⟩
  self := fun A i s Q E st h => let ⟨⟨_, he⟩, _⟩ := st; wpAny_pyIter_enum he h

/-- what is wanted behind a new tuple -/
def TQ (Q : VK) (H : Hp) (xs : List V) : Prop := ∀ p o, H p = none → o.dict = none → Q (.ref p) (upd H p (.frz o (.tup xs)))
section
variable {X : Cx} {pins : List (Addr × Obj)} {σ : L2.St} {H : Hp} {s : Shared}
theorem laidF (I : Inv X pins σ H s) {xs : List V} {us : List Value} (r : Vals xs us) (z : xs.length ≤ sizeLine) {Q : VK} (q : TQ Q H xs) : EP X pins σ Q (.ref s.heap.objs.size) { s with heap := s.heap.push { cls := .type "tuple", data := .seq us.toArray } } :=
  ⟨.ref s.heap.objs.size, _, I.laid (t' := s.toks) (o := .frz { cls := .type "tuple", data := .seq us.toArray } (.tup xs)) (fun b u e => Heap.get?_push_of_some _ e) (Nat.le_refl _) ⟨Heap.get?_push_size _ rfl, z, us, r, ⟨_, Heap.get?_push_size _ rfl, rfl, _, rfl⟩⟩, rfl, q _ _ (I.hok.fresh (Nat.le_refl _)) rfl⟩
def tTupF (t : TA) : TE := fun σ H Q => t σ H fun xs H1 => xs.length ≤ sizeLine ∧ TQ Q H1 xs
theorem pe_tupF {es : List Expr} {t : TA} {pos : Pos} {x1} (h : PA X es t) : PE X (.Tuple es x1 pos) (tTupF t) := by
  refine ⟨fun pins s σ H Q I hq => ?_⟩
  refine wpAny_Tuple_spliced (thn (h.run pos pins s σ H _ I hq) fun us s1 ⟨xs, H1, I1, r, z, q⟩ => ⟨by rw [← r.length]; exact z, laidF I1 r z q⟩)
def rCatF (K : PySem.W.Frag) : R2 := fun x y H Q => ∃ a b xs ys, x = .ref a ∧ y = .ref b ∧ SqT K H a xs ∧ SqT K H b ys ∧ xs.length + ys.length ≤ sizeLine ∧
  (xs = [] → Q (.ref b) H) ∧ (xs ≠ [] → ys = [] → Q (.ref a) H) ∧ (xs ≠ [] → ys ≠ [] → TQ Q H (xs ++ ys))
theorem op_catF : OpR X (binaryOp .Add) (rCatF X.K) := by
  intro pins s σ H x y v u Q I rx ry h
  obtain ⟨a, b, xs, ys, rfl, rfl, ha, hb, hz, q0, q1, q2⟩ := h
  cases rx
  cases ry
  obtain ⟨its, r1, p1, _⟩ := I.tuple ha
  obtain ⟨its2, r2, p2, _⟩ := I.tuple hb
  by_cases hx : xs = []
  · subst hx
    cases r1
    exact cat_tup0 p1 p2 ⟨.ref b, H, I, rfl, q0 rfl⟩
  · have hv : its ≠ [] := fun e => hx ((Vals.nil_iff r1).mp e)
    refine HT.cat_tup p1 p2 hv (fun e => ⟨.ref a, H, I, rfl, q1 hx ((Vals.nil_iff r2).mp e)⟩) (fun e => laidF I (Vals.append r1 r2) (by rw [List.length_append]; exact hz) (q2 hx fun z => e ((Vals.nil_iff r2).mpr z))) ?_
    rw [← r1.length, ← r2.length]
    exact hz
def rSlF (K : PySem.W.Frag) : V → Option Int → Option Int → Hp → VK → Prop := fun x lo hi H Q => ∃ a xs, x = .ref a ∧ SqT K H a xs ∧
  (HT.sIx xs.length 0 lo = 0 ∧ HT.sIx xs.length xs.length hi = xs.length → Q (.ref a) H) ∧ (¬ (HT.sIx xs.length 0 lo = 0 ∧ HT.sIx xs.length xs.length hi = xs.length) → TQ Q H (cutV xs lo hi))
theorem sl_tupF : SlR X (rSlF X.K) := by
  intro pins s σ H x v vl vu lo hi sl Q I rx hs pl pu h
  obtain ⟨a, xs, rfl, hx, q1, q2⟩ := h
  cases rx
  obtain ⟨its, r, ht, hz⟩ := I.tuple hx
  have hlen : its.toArray.size = xs.length := by rw [List.size_toArray]; exact r.length.symm
  refine ⟨"tuple", _, PyProof.Rows.slot_tuple_getitem.lookup, ht.typeIs, ?_⟩
  by_cases hw : HT.sIx xs.length 0 lo = 0 ∧ HT.sIx xs.length xs.length hi = xs.length
  · exact getItem_tuple_whole ht hs pl pu (by rw [hlen]; exact hw) ⟨.ref a, H, I, rfl, q1 hw⟩
  · refine HT.getItem_tuple_cut ht hs pl pu (by rw [hlen]; exact hw) ?_ (by rw [hlen]; exact hz)
    have e : (its.toArray.toList.drop (HT.sIx its.toArray.size 0 lo)).take (HT.sIx its.toArray.size its.toArray.size hi - HT.sIx its.toArray.size 0 lo) = (its.drop (HT.sIx xs.length 0 lo)).take (HT.sIx xs.length xs.length hi - HT.sIx xs.length 0 lo) := by rw [hlen]
    rw [e]
    exact laidF I ((r.drop _).take _) (Nat.le_trans (cutV_length xs lo hi) hz) (q2 hw)
theorem call_tuple_ofF : CallR X (.type "tuple") (fun xs H Q => ∃ p ys, xs = [.ref p] ∧ ((SqL X.K H p ys ∧ TQ Q H ys) ∨ (SqT X.K H p ys ∧ Q (.ref p) H))) := by
  intro pins s σ H xs us Q I r h
  obtain ⟨p, ys, rfl, h⟩ := h
  obtain ⟨u, rfl, rx⟩ := vals1 r
  cases rx
  rcases h with ⟨hq, q⟩ | ⟨hq, q⟩
  · obtain ⟨its, r', pl, hz⟩ := I.list hq
    have hlen := r'.length
    refine call_tuple_list pl.isList (fun h' kp => ?_) (by simp only [List.size_toArray] <;> omega)
    have I1 : Inv X pins σ H { s with heap := h' } := I.kept (t' := s.toks) kp
    exact laidF I1 r' hz q
  · obtain ⟨its, r', pl, hz⟩ := I.tuple hq
    exact call_tuple_same pl ⟨.ref p, H, I, rfl, q⟩
def rRepTF (K : PySem.W.Frag) : R2 := fun x y H Q => ∃ l k xs, x = .ref l ∧ y = .int k ∧ SqT K H l xs ∧ xs ≠ [] ∧ 2 ≤ k ∧ k ≤ 1000 ∧ xs.length ≤ 1000 ∧ TQ Q H (List.replicate k.toNat xs).flatten
theorem op_repTF : OpR X (binaryOp .Mult) (rRepTF X.K) := by
  intro pins s σ H x y v u Q I rx ry h
  obtain ⟨l, k, xs, rfl, rfl, hT, hne, h1, h2, hz, q⟩ := h
  cases rx
  obtain ⟨t, rfl⟩ := ry
  obtain ⟨its, r, ⟨⟨cls, dd, data, sl⟩, ho, hc, n, hd⟩, hs⟩ := I.tuple hT
  simp only at hc hd
  subst hc hd
  have hle : its.length = xs.length := r.length.symm
  have hn : its ≠ [] := fun e => hne (by
    rw [e] at hle
    exact List.eq_nil_of_length_eq_zero hle.symm)
  have hi : its.toArray.isEmpty = false := by
    cases its with
    | nil => exact absurd rfl hn
    | cons a b => rfl
  have hsz0 : its.toArray.size = xs.length := by rw [List.size_toArray, hle]
  have hm : ((its.toArray.size : Nat) : Int) * k ≤ 1000000 := by
    rw [hsz0]
    have a1 : ((xs.length : Nat) : Int) * k ≤ 1000 * k := Int.mul_le_mul_of_nonneg_right (by omega) (by omega)
    omega
  have flen : (List.replicate k.toNat its).flatten.length ≤ sizeLine := by
    rw [PyProof.Rows.lm_len_rep_flat, hle, sizeLine_eq]
    have a1 : k.toNat * xs.length ≤ 1000 * 1000 := Nat.mul_le_mul (by omega) hz
    omega
  have c0 : (decide (k < -(2 ^ 63)) || decide (k ≥ 2 ^ 63)) = false := by
    rw [decide_eq_false (by omega), decide_eq_false (by omega)] <;> rfl
  have c1 : (its.toArray.isEmpty || k == 1) = false := by
    rw [hi, Bool.false_or]
    exact beq_eq_false_iff_ne.mpr (by omega)
  have c2 : (decide (k ≤ 0) || its.toArray.isEmpty) = false := by
    rw [hi, Bool.or_false]
    exact decide_eq_false (by omega)
  have c4 : Builtin.Tuple.tupleTooMany (((its.toArray.size : Nat) : Int) * k) = false := by
    unfold Builtin.Tuple.tupleTooMany
    rw [sizeLine_eq]
    exact decide_eq_false (by omega)
  refine wpAny_binaryOp_repeat_ref (T := "tuple") (U := "int") (by decide) ⟨_, ho, rfl⟩ (fun s' => typeIs_int s' k t) noFill_tuple_mul F.fills_int_mul F.slot_int_rmul repeat_tuple F.slot_int_index.lookup
    (call_meets F.slot_int_rmul (typeIs_int s k t) F.entry_int_rmul (F.args_int_rmul_2 _ _) (int_rmul_tuple k t l its.toArray n dd sl)
      ⟨ho, rfl, ⟨_, ho, rfl⟩, call_meets F.slot_tuple_mul ⟨_, ho, rfl⟩ F.entry_tuple_mul (F.args_tuple_mul_2 _ _) (tuple_mulW l its.toArray n dd sl k t c0 c1 c2 (by omega) c4 (by rw [size_rep, List.size_toArray]; exact flen)) ⟨ho, ?_⟩⟩)
  rw [size_rep]
  exact laidF I (r.rep k.toNat) (by rw [PyProof.Rows.lm_len_rep_flat, sizeLine_eq]; have a1 : k.toNat * xs.length ≤ 1000 * 1000 := Nat.mul_le_mul (by omega) hz; omega) q
end
end Low

set_option Elab.async false
set_option linter.all false
set_option maxRecDepth 100000
set_option maxHeartbeats 4000000
set_option autoImplicit false
namespace Ev
open PySem PySem.Spec PyProof.Rows L2

/-- the names behind the numbers; how an error lies -/
structure Cn where
  K : PySem.W.Frag
  cls : Nat → Str
  fld : Nat → Str
  nf : Nat
  exr : Nat → List AV → Value → Option Addr → Hp → Prop

variable {N : Cn} {ι ι1 ι2 ι' : List Addr} {H H1 H2 H' : Hp} {h h1 h' : AH}

/-- where the script lies -/
def ScrAt (K : PySem.W.Frag) (H : Hp) (a : Addr) (ws : List V) : Prop := (∃ o, H a = some (.frz o (.lst ws))) ∨
  ∃ (o : Obj) (its : Array Value) (n : Nat), K.lookup a = some o ∧ o.cls = .type "list" ∧ o.dict = none ∧ o.data = .seq its n ∧ its.size ≤ sizeLine ∧ Vals ws its.toList
/-- a tuple that is told with its object: no dict is there -/
def SqP (K : PySem.W.Frag) (H : Hp) (a : Addr) (ws : List V) : Prop := (∃ o, H a = some (.frz o (.tup ws)) ∧ o.dict = none) ∨
  ∃ (o : Obj) (its : Array Value) (n : Nat), K.lookup a = some o ∧ o.cls = .type "tuple" ∧ o.dict = none ∧ o.data = .seq its n ∧ its.size ≤ sizeLine ∧ Vals ws its.toList
theorem SqP.t {K : PySem.W.Frag} {H : Hp} {a : Addr} {ws : List V} (s : SqP K H a ws) : SqT K H a ws := by
  rcases s with ⟨o, e, _⟩ | ⟨o, its, n, e, c, _, r⟩
  · exact .inl (.inr ⟨o, e⟩)
  · exact .inr ⟨o, its, n, e, c, r⟩
mutual
def VR (N : Cn) (ι : List Addr) (H : Hp) : AV → V → Prop
  | .non, w => w = .non
  | .bl b, w => w = .bl b
  | .int i, w => w = .int i
  | .str x, w => w = .str x
  | .ref n, w => ∃ a, ι[n]? = some a ∧ w = .ref a
  | .tup xs, w => ∃ a ws, w = .ref a ∧ SqP N.K H a ws ∧ VRs N ι H xs ws
  | .scr ns, w => ∃ a, w = .ref a ∧ ScrAt N.K H a (ns.map V.int)
def VRs (N : Cn) (ι : List Addr) (H : Hp) : List AV → List V → Prop
  | [], ws => ws = []
  | x :: xs, ws => ∃ w r, ws = w :: r ∧ VR N ι H x w ∧ VRs N ι H xs r
end
def DR (N : Cn) (ι : List Addr) (H : Hp) : List (Key × AV) → List (Key × V) → Prop
  | [], ws => ws = []
  | p :: r, ws => ∃ w s, ws = (p.1, w) :: s ∧ VR N ι H p.2 w ∧ DR N ι H r s
def FR (N : Cn) (ι : List Addr) (H : Hp) : List (Nat × AV) → List (Str × V) → Prop
  | [], ws => ws = []
  | p :: r, ws => ∃ w s, ws = (N.fld p.1, w) :: s ∧ VR N ι H p.2 w ∧ FR N ι H r s
/-- a class of the text whose instances are told -/
def ClsOk (N : Cn) (c : Nat) : Prop := Cls N.K (He.ga N.K (N.cls c)) ∧ ∀ f, f < N.nf → NoAttr N.K (He.ga N.K (N.cls c)) (N.fld f)
def OR (N : Cn) (ι : List Addr) (H : Hp) : AO → Addr → Prop
  | .lst xs, a => ∃ ws, H a = some (.lst ws) ∧ VRs N ι H xs ws
  | .dct ks, a => (ks.map (·.1)).Nodup ∧ ∃ ws, H a = some (.dK ws) ∧ DR N ι H ks ws
  | .ins c fs, a => ClsOk N c ∧ ∃ dx ws, H a = some (.ins (He.ga N.K (N.cls c)) dx ws) ∧ FR N ι H fs ws

/-- nothing of the outside is changed; what is new was not there -/
structure Ext (N : Cn) (ι : List Addr) (H : Hp) (ι' : List Addr) (H' : Hp) : Prop where
  pre : ∃ t, ι' = ι ++ t
  keep : ∀ a o, H a = some o → a ∉ ι → H' a = some o
  fresh : ∀ a, a ∈ ι' → a ∉ ι → H a = none
  frz : ∀ a o u, H a = some (.frz o u) → H' a = some (.frz o u)
theorem Ext.refl : Ext N ι H ι H := ⟨⟨[], by simp⟩, fun _ _ e _ => e, fun _ a b => absurd a b, fun _ _ _ e => e⟩
theorem Ext.mem (x : Ext N ι H ι' H') {a : Addr} (h : a ∈ ι) : a ∈ ι' := by
  obtain ⟨t, e⟩ := x.pre
  rw [e]
  exact List.mem_append_left _ h
theorem Ext.get (x : Ext N ι H ι' H') {n : Nat} {a : Addr} (h : ι[n]? = some a) : ι'[n]? = some a := by
  obtain ⟨t, e⟩ := x.pre
  rw [e, List.getElem?_append_left (List.getElem?_eq_some_iff.mp h).1]
  exact h
theorem Ext.trans (x : Ext N ι H ι1 H1) (y : Ext N ι1 H1 ι' H') : Ext N ι H ι' H' := by
  obtain ⟨t, e⟩ := x.pre
  obtain ⟨u, e2⟩ := y.pre
  refine ⟨⟨t ++ u, by rw [e2, e, List.append_assoc]⟩, fun a o h n => ?_, fun a m n => ?_, fun a o u q => y.frz a o u (x.frz a o u q)⟩
  · refine y.keep a o (x.keep a o h n) fun m => ?_
    have := x.fresh a m n
    rw [h] at this
    cases this
  · by_cases m1 : a ∈ ι1
    · exact x.fresh a m1 n
    · have q := y.fresh a m m1
      cases e3 : H a with
      | none => rfl
      | some o =>
        have := x.keep a o e3 n
        rw [q] at this
        cases this
structure Wk (N : Cn) (ι : List Addr) (H : Hp) (ι' : List Addr) (H' : Hp) : Prop where
  get : ∀ {n : Nat} {a : Addr}, ι[n]? = some a → ι'[n]? = some a
  frz : ∀ a o u, H a = some (.frz o u) → H' a = some (.frz o u)
theorem Ext.wk (x : Ext N ι H ι' H') : Wk N ι H ι' H' := ⟨fun e => x.get e, x.frz⟩
theorem Wk.tup (x : Wk N ι H ι' H') (a : Addr) (ws : List V) (s : SqP N.K H a ws) : SqP N.K H' a ws := by
  rcases s with ⟨o, e, d⟩ | k
  · exact .inl ⟨o, x.frz a o _ e, d⟩
  · exact .inr k
mutual
theorem VR.wk (x : Wk N ι H ι' H') : ∀ {v : AV} {w : V}, VR N ι H v w → VR N ι' H' v w
  | .non, _, h => h
  | .bl _, _, h => h
  | .int _, _, h => h
  | .str _, _, h => h
  | .ref n, _, h => by
    obtain ⟨a, e, r⟩ := (show ∃ a, ι[n]? = some a ∧ _ from h)
    exact ⟨a, x.get e, r⟩
  | .tup xs, _, h => by
    obtain ⟨a, ws, e, s, r⟩ := (show ∃ a ws, _ = V.ref a ∧ SqP N.K H a ws ∧ VRs N ι H xs ws from h)
    exact ⟨a, ws, e, x.tup a ws s, VRs.wk x r⟩
  | .scr ns, _, h => by
    obtain ⟨a, e, r⟩ := (show ∃ a, _ = V.ref a ∧ ScrAt N.K H a (ns.map V.int) from h)
    refine ⟨a, e, ?_⟩
    rcases r with ⟨o, r⟩ | r
    · exact .inl ⟨o, x.frz a o _ r⟩
    · exact .inr r
theorem VRs.wk (x : Wk N ι H ι' H') : ∀ {vs : List AV} {ws : List V}, VRs N ι H vs ws → VRs N ι' H' vs ws
  | [], _, h => h
  | v :: vs, _, h => by
    obtain ⟨w, r, e, a, b⟩ := (show ∃ w r, _ = w :: r ∧ VR N ι H v w ∧ VRs N ι H vs r from h)
    exact ⟨w, r, e, VR.wk x a, VRs.wk x b⟩
end
theorem DR.wk (x : Wk N ι H ι' H') : ∀ {vs : List (Key × AV)} {ws : List (Key × V)}, DR N ι H vs ws → DR N ι' H' vs ws
  | [], _, h => h
  | v :: vs, _, h => by
    obtain ⟨w, r, e, a, b⟩ := (show ∃ w r, _ = (v.1, w) :: r ∧ VR N ι H v.2 w ∧ DR N ι H vs r from h)
    exact ⟨w, r, e, a.wk x, DR.wk x b⟩
theorem FR.wk (x : Wk N ι H ι' H') : ∀ {vs : List (Nat × AV)} {ws : List (Str × V)}, FR N ι H vs ws → FR N ι' H' vs ws
  | [], _, h => h
  | v :: vs, _, h => by
    obtain ⟨w, r, e, a, b⟩ := (show ∃ w r, _ = (N.fld v.1, w) :: r ∧ VR N ι H v.2 w ∧ FR N ι H vs r from h)
    exact ⟨w, r, e, a.wk x, FR.wk x b⟩
theorem VR.ext (x : Ext N ι H ι' H') {v : AV} {w : V} (r : VR N ι H v w) : VR N ι' H' v w := r.wk x.wk
theorem VRs.ext (x : Ext N ι H ι' H') {v : List AV} {w : List V} (r : VRs N ι H v w) : VRs N ι' H' v w := r.wk x.wk
theorem DR.ext (x : Ext N ι H ι' H') {v : List (Key × AV)} {w : List (Key × V)} (r : DR N ι H v w) : DR N ι' H' v w := r.wk x.wk
theorem FR.ext (x : Ext N ι H ι' H') {v : List (Nat × AV)} {w : List (Str × V)} (r : FR N ι H v w) : FR N ι' H' v w := r.wk x.wk
theorem VRs.cons {v : AV} {w : V} {vs : List AV} {ws : List V} (a : VR N ι H v w) (b : VRs N ι H vs ws) : VRs N ι H (v :: vs) (w :: ws) := ⟨w, ws, rfl, a, b⟩
theorem VRs.nil : VRs N ι H [] [] := rfl
theorem VRs.length : ∀ {vs : List AV} {ws : List V}, VRs N ι H vs ws → ws.length = vs.length
  | [], _, h => by
    have e : _ = [] := h
    rw [e]
    rfl
  | v :: vs, _, h => by
    obtain ⟨w, r, e, _, b⟩ := (show ∃ w r, _ = w :: r ∧ VR N ι H v w ∧ VRs N ι H vs r from h)
    rw [e, List.length_cons, List.length_cons, VRs.length b]
theorem VRs.get : ∀ {vs : List AV} {ws : List V}, VRs N ι H vs ws → ∀ i : Nat, (∀ v, vs[i]? = some v → ∃ w, ws[i]? = some w ∧ VR N ι H v w) ∧ (vs[i]? = none → ws[i]? = none)
  | [], _, h, i => by
    have e : _ = [] := h
    subst e
    exact ⟨fun v q => by simp at q, fun _ => by simp⟩
  | v :: vs, _, h, i => by
    obtain ⟨w, r, e, a, b⟩ := (show ∃ w r, _ = w :: r ∧ VR N ι H v w ∧ VRs N ι H vs r from h)
    subst e
    cases i with
    | zero => exact ⟨fun u q => by simp at q; subst q; exact ⟨w, by simp, a⟩, fun q => by simp at q⟩
    | succ i =>
      have ih := VRs.get b i
      exact ⟨fun u q => by simpa using ih.1 u (by simpa using q), fun q => by simpa using ih.2 (by simpa using q)⟩
theorem VRs.append : ∀ {vs : List AV} {ws : List V} {us : List AV} {zs : List V}, VRs N ι H vs ws → VRs N ι H us zs → VRs N ι H (vs ++ us) (ws ++ zs)
  | [], _, _, _, h, g => by
    have e : _ = [] := h
    subst e
    exact g
  | v :: vs, _, _, _, h, g => by
    obtain ⟨w, r, e, a, b⟩ := (show ∃ w r, _ = w :: r ∧ VR N ι H v w ∧ VRs N ι H vs r from h)
    subst e
    exact ⟨w, _, rfl, a, VRs.append b g⟩
theorem VRs.take : ∀ {vs : List AV} {ws : List V} (n : Nat), VRs N ι H vs ws → VRs N ι H (vs.take n) (ws.take n)
  | _, _, 0, _ => by simp only [List.take_zero]; exact rfl
  | [], _, n + 1, h => by
    have e : _ = [] := h
    subst e
    exact rfl
  | v :: vs, _, n + 1, h => by
    obtain ⟨w, r, e, a, b⟩ := (show ∃ w r, _ = w :: r ∧ VR N ι H v w ∧ VRs N ι H vs r from h)
    subst e
    exact ⟨w, _, rfl, a, VRs.take n b⟩
theorem VRs.drop : ∀ {vs : List AV} {ws : List V} (n : Nat), VRs N ι H vs ws → VRs N ι H (vs.drop n) (ws.drop n)
  | _, _, 0, h => h
  | [], _, n + 1, h => by
    have e : _ = [] := h
    subst e
    exact rfl
  | v :: vs, _, n + 1, h => by
    obtain ⟨w, r, e, a, b⟩ := (show ∃ w r, _ = w :: r ∧ VR N ι H v w ∧ VRs N ι H vs r from h)
    subst e
    exact VRs.drop n b
theorem VRs.set {v : AV} {w : V} (q : VR N ι H v w) : ∀ {vs : List AV} {ws : List V} (n : Nat), VRs N ι H vs ws → VRs N ι H (vs.set n v) (ws.set n w)
  | [], _, _, h => by
    have e : _ = [] := h
    subst e
    exact rfl
  | u :: vs, _, 0, h => by
    obtain ⟨z, r, e, a, b⟩ := (show ∃ w r, _ = w :: r ∧ VR N ι H u w ∧ VRs N ι H vs r from h)
    subst e
    exact ⟨w, _, rfl, q, b⟩
  | u :: vs, _, n + 1, h => by
    obtain ⟨z, r, e, a, b⟩ := (show ∃ w r, _ = w :: r ∧ VR N ι H u w ∧ VRs N ι H vs r from h)
    subst e
    exact ⟨z, _, rfl, a, VRs.set q n b⟩
theorem VRs.reverse : ∀ {vs : List AV} {ws : List V}, VRs N ι H vs ws → VRs N ι H vs.reverse ws.reverse
  | [], _, h => by
    have e : _ = [] := h
    subst e
    exact rfl
  | v :: vs, _, h => by
    obtain ⟨w, r, e, a, b⟩ := (show ∃ w r, _ = w :: r ∧ VR N ι H v w ∧ VRs N ι H vs r from h)
    subst e
    rw [List.reverse_cons, List.reverse_cons]
    exact VRs.append (VRs.reverse b) (VRs.cons a VRs.nil)

section
variable {α : Type}
def Full (t : Tr α) (n : Nat) : Prop := ∀ m, (t.get m).isSome = decide (m < n)
theorem Tr.get_lf (n : Nat) : (Tr.lf : Tr α).get n = none := rfl
theorem Tr.get_zero (l : Tr α) (o : α) (r : Tr α) : (Tr.nd l o r).get 0 = some o := rfl
theorem div_odd (k : Nat) : Nat.div (2 * k) 2 = k := by
  show 2 * k / 2 = k
  omega
theorem mod_odd (k : Nat) : Nat.mod (2 * k) 2 = 0 := by
  show 2 * k % 2 = 0
  omega
theorem div_even (k : Nat) : Nat.div (2 * k + 1) 2 = k := by
  show (2 * k + 1) / 2 = k
  omega
theorem mod_even (k : Nat) : Nat.mod (2 * k + 1) 2 = 1 := by
  show (2 * k + 1) % 2 = 1
  omega
theorem Tr.get_odd (l : Tr α) (o : α) (r : Tr α) (k : Nat) : (Tr.nd l o r).get (2 * k + 1) = l.get k := by
  show Nat.rec (motive := fun _ => Option α) (l.get (Nat.div (2 * k) 2)) (fun _ _ => r.get (Nat.div (2 * k) 2)) (Nat.mod (2 * k) 2) = _
  rw [mod_odd, div_odd]
  try rfl
theorem Tr.get_even (l : Tr α) (o : α) (r : Tr α) (k : Nat) : (Tr.nd l o r).get (2 * k + 2) = r.get k := by
  show Nat.rec (motive := fun _ => Option α) (l.get (Nat.div (2 * k + 1) 2)) (fun _ _ => r.get (Nat.div (2 * k + 1) 2)) (Nat.mod (2 * k + 1) 2) = _
  rw [mod_even, div_even]
  try rfl
theorem Tr.put_zero (l : Tr α) (x : α) (r : Tr α) (o : α) : (Tr.nd l x r).put 0 o = .nd l o r := rfl
theorem Tr.put_odd (l : Tr α) (x : α) (r : Tr α) (k : Nat) (o : α) : (Tr.nd l x r).put (2 * k + 1) o = .nd (l.put k o) x r := by
  show Nat.rec (motive := fun _ => Tr α) (.nd (l.put (Nat.div (2 * k) 2) o) x r) (fun _ _ => .nd l x (r.put (Nat.div (2 * k) 2) o)) (Nat.mod (2 * k) 2) = _
  rw [mod_odd, div_odd]
  try rfl
theorem Tr.put_even (l : Tr α) (x : α) (r : Tr α) (k : Nat) (o : α) : (Tr.nd l x r).put (2 * k + 2) o = .nd l x (r.put k o) := by
  show Nat.rec (motive := fun _ => Tr α) (.nd (l.put (Nat.div (2 * k + 1) 2) o) x r) (fun _ _ => .nd l x (r.put (Nat.div (2 * k + 1) 2) o)) (Nat.mod (2 * k + 1) 2) = _
  rw [mod_even, div_even]
  try rfl
theorem Tr.set_zero (l : Tr α) (x : α) (r : Tr α) (o : α) : (Tr.nd l x r).set 0 o = .nd l o r := rfl
theorem Tr.set_odd (l : Tr α) (x : α) (r : Tr α) (k : Nat) (o : α) : (Tr.nd l x r).set (2 * k + 1) o = .nd (l.set k o) x r := by
  show Nat.rec (motive := fun _ => Tr α) (.nd (l.set (Nat.div (2 * k) 2) o) x r) (fun _ _ => .nd l x (r.set (Nat.div (2 * k) 2) o)) (Nat.mod (2 * k) 2) = _
  rw [mod_odd, div_odd]
  try rfl
theorem Tr.set_even (l : Tr α) (x : α) (r : Tr α) (k : Nat) (o : α) : (Tr.nd l x r).set (2 * k + 2) o = .nd l x (r.set k o) := by
  show Nat.rec (motive := fun _ => Tr α) (.nd (l.set (Nat.div (2 * k + 1) 2) o) x r) (fun _ _ => .nd l x (r.set (Nat.div (2 * k + 1) 2) o)) (Nat.mod (2 * k + 1) 2) = _
  rw [mod_even, div_even]
  try rfl
theorem three (n : Nat) : n = 0 ∨ (∃ k, n = 2 * k + 1) ∨ ∃ k, n = 2 * k + 2 := by
  rcases Nat.eq_zero_or_pos n with e | e
  · exact .inl e
  · by_cases p : n % 2 = 1
    · exact .inr (.inl ⟨n / 2, by omega⟩)
    · exact .inr (.inr ⟨n / 2 - 1, by omega⟩)
theorem Tr.get_set : ∀ (t : Tr α) (m : Nat) (o : α) (k : Nat), (t.set m o).get k = if k = m then (t.get k).map (fun _ => o) else t.get k
  | .lf, m, o, k => by
    show (Tr.lf : Tr α).get k = _
    rw [Tr.get_lf]
    split <;> rfl
  | .nd l x r, m, o, k => by
    rcases three m with e | ⟨i, e⟩ | ⟨i, e⟩
    · subst e
      rw [Tr.set_zero]
      rcases three k with e | ⟨j, e⟩ | ⟨j, e⟩
      · subst e
        rw [if_pos rfl, Tr.get_zero, Tr.get_zero]
        rfl
      · subst e
        rw [if_neg (by omega), Tr.get_odd, Tr.get_odd]
      · subst e
        rw [if_neg (by omega), Tr.get_even, Tr.get_even]
    · subst e
      rw [Tr.set_odd]
      rcases three k with e | ⟨j, e⟩ | ⟨j, e⟩
      · subst e
        rw [if_neg (by omega), Tr.get_zero, Tr.get_zero]
      · subst e
        rw [Tr.get_odd, Tr.get_odd, Tr.get_set l i o j]
        by_cases q : j = i
        · rw [if_pos q, if_pos (by omega)]
        · rw [if_neg q, if_neg (by omega)]
      · subst e
        rw [if_neg (by omega), Tr.get_even, Tr.get_even]
    · subst e
      rw [Tr.set_even]
      rcases three k with e | ⟨j, e⟩ | ⟨j, e⟩
      · subst e
        rw [if_neg (by omega), Tr.get_zero, Tr.get_zero]
      · subst e
        rw [if_neg (by omega), Tr.get_odd, Tr.get_odd]
      · subst e
        rw [Tr.get_even, Tr.get_even, Tr.get_set r i o j]
        by_cases q : j = i
        · rw [if_pos q, if_pos (by omega)]
        · rw [if_neg q, if_neg (by omega)]
theorem Full.sets {t : Tr α} {n m : Nat} {o : α} (f : Full t n) : Full (t.set m o) n := fun k => by
  rw [Tr.get_set, ← f k]
  split
  · rw [Option.isSome_map]
  · rfl
theorem Tr.get_put : ∀ (t : Tr α) (n m : Nat) (o : α), Full t n → m ≤ n → ∀ k, (t.put m o).get k = if k = m then some o else t.get k
  | .lf, n, m, o, f, hm, k => by
    have n0 : n = 0 := by
      have q := f 0
      rw [Tr.get_lf] at q
      rcases Nat.eq_zero_or_pos n with e | e
      · exact e
      · rw [decide_eq_true e] at q
        cases q
    have m0 : m = 0 := by omega
    subst m0
    show (Tr.nd .lf o .lf : Tr α).get k = _
    rcases three k with e | ⟨j, e⟩ | ⟨j, e⟩
    · subst e
      rw [if_pos rfl, Tr.get_zero]
    · subst e
      rw [if_neg (by omega), Tr.get_odd, Tr.get_lf, Tr.get_lf]
    · subst e
      rw [if_neg (by omega), Tr.get_even, Tr.get_lf, Tr.get_lf]
  | .nd l x r, n, m, o, f, hm, k => by
    have n1 : 0 < n := by
      have q := f 0
      rw [Tr.get_zero] at q
      exact of_decide_eq_true q.symm
    have fl : Full l (n / 2) := fun j => by
      have q := f (2 * j + 1)
      rw [Tr.get_odd] at q
      rw [q]
      exact decide_eq_decide.mpr (by omega)
    have fr : Full r ((n - 1) / 2) := fun j => by
      have q := f (2 * j + 2)
      rw [Tr.get_even] at q
      rw [q]
      exact decide_eq_decide.mpr (by omega)
    rcases three m with e | ⟨i, e⟩ | ⟨i, e⟩
    · subst e
      rw [Tr.put_zero]
      rcases three k with e | ⟨j, e⟩ | ⟨j, e⟩
      · subst e
        rw [if_pos rfl, Tr.get_zero]
      · subst e
        rw [if_neg (by omega), Tr.get_odd, Tr.get_odd]
      · subst e
        rw [if_neg (by omega), Tr.get_even, Tr.get_even]
    · subst e
      rw [Tr.put_odd]
      rcases three k with e | ⟨j, e⟩ | ⟨j, e⟩
      · subst e
        rw [if_neg (by omega), Tr.get_zero, Tr.get_zero]
      · subst e
        rw [Tr.get_odd, Tr.get_odd, Tr.get_put l (n / 2) i o fl (by omega)]
        by_cases q : j = i
        · rw [if_pos q, if_pos (by omega)]
        · rw [if_neg q, if_neg (by omega)]
      · subst e
        rw [if_neg (by omega), Tr.get_even, Tr.get_even]
    · subst e
      rw [Tr.put_even]
      rcases three k with e | ⟨j, e⟩ | ⟨j, e⟩
      · subst e
        rw [if_neg (by omega), Tr.get_zero, Tr.get_zero]
      · subst e
        rw [if_neg (by omega), Tr.get_odd, Tr.get_odd]
      · subst e
        rw [Tr.get_even, Tr.get_even, Tr.get_put r ((n - 1) / 2) i o fr (by omega)]
        by_cases q : j = i
        · rw [if_pos q, if_pos (by omega)]
        · rw [if_neg q, if_neg (by omega)]

end
structure Rel (N : Cn) (ι : List Addr) (h : AH) (H : Hp) : Prop where
  len : ι.length = h.n
  nd : ι.Nodup
  full : Full h.t h.n
  obj : ∀ n o, h.get n = some o → ∃ a, ι[n]? = some a ∧ OR N ι H o a
theorem Rel.nil : Rel N [] .nil H := ⟨rfl, List.nodup_nil, fun m => by
  show ((Tr.lf : Tr AO).get m).isSome = decide (m < 0)
  rw [Tr.get_lf, decide_eq_false (by omega)]
  rfl, fun n o e => by cases e⟩
theorem Rel.there (R : Rel N ι h H) {n : Nat} {a : Addr} (e : ι[n]? = some a) : ∃ o, h.get n = some o ∧ OR N ι H o a := by
  have hn : n < h.n := by
    rw [← R.len]
    exact (List.getElem?_eq_some_iff.mp e).1
  have q := R.full n
  rw [decide_eq_true hn] at q
  obtain ⟨o, eo⟩ := Option.isSome_iff_exists.mp q
  obtain ⟨b, eb, r⟩ := R.obj n o eo
  rw [e] at eb
  cases eb
  exact ⟨o, eo, r⟩
theorem Rel.mem (R : Rel N ι h H) {a : Addr} (m : a ∈ ι) : ∃ n o, ι[n]? = some a ∧ h.get n = some o ∧ OR N ι H o a := by
  obtain ⟨n, hn, e⟩ := List.mem_iff_getElem.mp m
  have e2 : ι[n]? = some a := by rw [List.getElem?_eq_getElem hn, e]
  obtain ⟨o, eo, r⟩ := R.there e2
  exact ⟨n, o, e2, eo, r⟩
/-- what stands at a place of the relation is no tuple -/
theorem OR.kind {o : AO} {a : Addr} (r : OR N ι H o a) : ∃ u, H a = some u ∧ (∀ xs, u ≠ .tup xs) ∧ (∀ ob xs, u ≠ .frz ob (.tup xs)) := by
  cases o with
  | lst xs =>
    obtain ⟨ws, e, _⟩ := r
    exact ⟨_, e, (fun _ z => by cases z), (fun _ _ z => by cases z)⟩
  | dct ks =>
    obtain ⟨_, ws, e, _⟩ := r
    exact ⟨_, e, (fun _ z => by cases z), (fun _ _ z => by cases z)⟩
  | ins c fs =>
    obtain ⟨_, dx, ws, e, _⟩ := r
    exact ⟨_, e, (fun _ z => by cases z), (fun _ _ z => by cases z)⟩
theorem sqT_upd {K : PySem.W.Frag} {a b : Addr} {u o : HO} {ws : List V} (s : SqT K H b ws) (e : H a = some u) (n1 : ∀ xs, u ≠ .tup xs) (n2 : ∀ ob xs, u ≠ .frz ob (.tup xs)) : SqT K (upd H a o) b ws := by
  rcases s with (s | ⟨ob, s⟩) | s
  · refine .inl (.inl ?_)
    rw [upd_ne]
    · exact s
    · intro q
      subst q
      rw [e] at s
      exact n1 _ (Option.some.inj s)
  · refine .inl (.inr ⟨ob, ?_⟩)
    rw [upd_ne]
    · exact s
    · intro q
      subst q
      rw [e] at s
      exact n2 _ _ (Option.some.inj s)
  · exact .inr s
theorem sqT_new {K : PySem.W.Frag} {a b : Addr} {o : HO} {ws : List V} (s : SqT K H b ws) (e : H a = none) : SqT K (upd H a o) b ws := by
  rcases s with (s | ⟨ob, s⟩) | s
  · exact .inl (.inl (by rw [upd_ne (ne_of_none s e)]; exact s))
  · exact .inl (.inr ⟨ob, by rw [upd_ne (ne_of_none s e)]; exact s⟩)
  · exact .inr s
/-- a place of the relation gets another thing -/
theorem Ext.chg {a : Addr} {u o : HO} (m : a ∈ ι) (e : H a = some u) (n1 : ∀ xs, u ≠ .tup xs) (n2 : ∀ ob xs, u ≠ .frz ob xs) : Ext N ι H ι (upd H a o) :=
  ⟨⟨[], by simp⟩, fun b p q nb => by
    rw [upd_ne]
    · exact q
    · intro z
      subst z
      exact nb m, fun _ x y => absurd x y, fun b ob x q => by
    rw [upd_ne]
    · exact q
    · intro z
      subst z
      rw [e] at q
      exact n2 _ _ (Option.some.inj q)⟩
/-- a new thing, known or not -/
theorem Ext.new {p : Addr} {o : HO} (e : H p = none) : Ext N ι H (ι ++ [p]) (upd H p o) :=
  ⟨⟨[p], rfl⟩, fun b q z _ => by rw [upd_ne (ne_of_none z e)]; exact z, fun a m n => by
    rcases List.mem_append.mp m with m | m
    · exact absurd m n
    · rw [List.mem_singleton.mp m]
      exact e, fun b ob x q => by rw [upd_ne (ne_of_none q e)]; exact q⟩
theorem Ext.new0 {p : Addr} {o : HO} (e : H p = none) : Ext N ι H ι (upd H p o) :=
  ⟨⟨[], by simp⟩, fun b q z _ => by rw [upd_ne (ne_of_none z e)]; exact z, fun a m n => absurd m n, fun b ob x q => by rw [upd_ne (ne_of_none q e)]; exact q⟩
theorem OR.wk (x : Wk N ι H ι' H') {o : AO} {a : Addr} (r : OR N ι H o a) (e : ∀ u, H a = some u → H' a = some u) : OR N ι' H' o a := by
  cases o with
  | lst xs =>
    obtain ⟨ws, q, r⟩ := r
    exact ⟨ws, e _ q, r.wk x⟩
  | dct ks =>
    obtain ⟨nd, ws, q, r⟩ := r
    exact ⟨nd, ws, e _ q, r.wk x⟩
  | ins c fs =>
    obtain ⟨ok, dx, ws, q, r⟩ := r
    exact ⟨ok, dx, ws, e _ q, r.wk x⟩
theorem OR.ext (x : Ext N ι H ι' H') {o : AO} {a : Addr} (r : OR N ι H o a) (e : ∀ u, H a = some u → H' a = some u) : OR N ι' H' o a := r.wk x.wk e
/-- the relation where a new untracked thing came -/
theorem Rel.new0 (R : Rel N ι h H) {p : Addr} {o : HO} (e : H p = none) : Rel N ι h (upd H p o) :=
  ⟨R.len, R.nd, R.full, fun n ob q => by
    obtain ⟨a, ea, r⟩ := R.obj n ob q
    exact ⟨a, ea, r.ext (Ext.new0 e) fun u z => by rw [upd_ne (ne_of_none z e)]; exact z⟩⟩
theorem Full.push {α : Type} {t : Tr α} {n : Nat} {o : α} (f : Full t n) : Full (t.put n o) (n + 1) := fun m => by
  rw [Tr.get_put t n n o f (Nat.le_refl _)]
  by_cases q : m = n
  · rw [if_pos q, decide_eq_true (by omega)]
    rfl
  · rw [if_neg q, f m]
    exact decide_eq_decide.mpr (by omega)
theorem Full.set {α : Type} {t : Tr α} {n m : Nat} {o : α} (f : Full t n) (hm : m < n) : Full (t.put m o) n := fun k => by
  rw [Tr.get_put t n m o f (by omega)]
  by_cases q : k = m
  · rw [if_pos q, decide_eq_true (by omega)]
    rfl
  · rw [if_neg q, f k]
/-- a new tracked thing -/
theorem Rel.push (R : Rel N ι h H) {p : Addr} {u : HO} {o : AO} (e : H p = none) (r : OR N (ι ++ [p]) (upd H p u) o p) : Rel N (ι ++ [p]) (h.push o) (upd H p u) := by
  have np : p ∉ ι := fun m => by
    obtain ⟨n, ob, _, _, r⟩ := R.mem m
    obtain ⟨u, q, _⟩ := r.kind
    rw [e] at q
    cases q
  refine ⟨by rw [List.length_append, R.len]; rfl, ?_, R.full.push, fun n ob q => ?_⟩
  · rw [List.nodup_append]
    exact ⟨R.nd, List.nodup_cons.mpr ⟨by simp, List.nodup_nil⟩, fun a m b mb z => by
      subst z
      rw [List.mem_singleton.mp mb] at m
      exact np m⟩
  · have q2 : (h.t.put h.n o).get n = some ob := q
    rw [Tr.get_put h.t h.n h.n o R.full (Nat.le_refl _)] at q2
    by_cases z : n = h.n
    · rw [if_pos z] at q2
      cases q2
      refine ⟨p, ?_, r⟩
      rw [z, ← R.len, List.getElem?_append_right (Nat.le_refl _), Nat.sub_self]
      rfl
    · rw [if_neg z] at q2
      obtain ⟨a, ea, r2⟩ := R.obj n ob q2
      exact ⟨a, (Ext.new (N := N) (o := u) e).get ea, r2.ext (Ext.new e) fun w y => by rw [upd_ne (ne_of_none y e)]; exact y⟩
/-- a tracked thing changes -/
theorem Rel.set (R : Rel N ι h H) {n : Nat} {a : Addr} {u u' : HO} {o' : AO} (ea : ι[n]? = some a) (e : H a = some u) (n1 : ∀ xs, u ≠ .tup xs) (n2 : ∀ ob xs, u ≠ .frz ob xs) (r : OR N ι (upd H a u') o' a) : Rel N ι (h.set n o') (upd H a u') := by
  have hn : n < h.n := by
    rw [← R.len]
    exact (List.getElem?_eq_some_iff.mp ea).1
  have m : a ∈ ι := List.mem_of_getElem? ea
  refine ⟨R.len, R.nd, R.full.set hn, fun k ob q => ?_⟩
  have q2 : (h.t.put n o').get k = some ob := q
  rw [Tr.get_put h.t h.n n o' R.full (by omega)] at q2
  by_cases z : k = n
  · rw [if_pos z] at q2
    cases q2
    exact ⟨a, by rw [z]; exact ea, r⟩
  · rw [if_neg z] at q2
    obtain ⟨b, eb, r2⟩ := R.obj k ob q2
    refine ⟨b, eb, r2.ext (Ext.chg m e n1 n2) fun w y => ?_⟩
    rw [upd_ne]
    · exact y
    · intro ab
      subst ab
      have h1 := (List.getElem?_eq_some_iff.mp ea)
      have h2 := (List.getElem?_eq_some_iff.mp eb)
      obtain ⟨l1, e1⟩ := h1
      obtain ⟨l2, e2⟩ := h2
      exact z ((List.getElem_inj R.nd).mp (e2.trans e1.symm))
/-- after a call that knew nothing of what stands -/
theorem Ext.over (x : Ext N [] H ι' H') : Ext N ι H ι H' :=
  ⟨⟨[], by simp⟩, fun a o e _ => x.keep a o e (by simp), fun a m n => absurd m n, x.frz⟩
theorem Rel.over (R : Rel N ι h H) (x : Ext N [] H ι' H') : Rel N ι h H' :=
  ⟨R.len, R.nd, R.full, fun n ob q => by
    obtain ⟨a, ea, r⟩ := R.obj n ob q
    exact ⟨a, ea, r.ext x.over fun u z => x.keep a u z (by simp)⟩⟩
mutual
theorem VR.noRef : ∀ {v : AV} {w : V}, noRef v = true → VR N ι H v w → VR N ι' H v w
  | .non, _, _, h => h
  | .bl _, _, _, h => h
  | .int _, _, _, h => h
  | .str _, _, _, h => h
  | .ref n, _, e, h => by cases e
  | .scr n, _, e, h => by cases e
  | .tup xs, _, e, h => by
    obtain ⟨a, ws, q, s, r⟩ := (show ∃ a ws, _ = V.ref a ∧ SqP N.K H a ws ∧ VRs N ι H xs ws from h)
    exact ⟨a, ws, q, s, VRs.noRef e r⟩
theorem VRs.noRef : ∀ {vs : List AV} {ws : List V}, noRefs vs = true → VRs N ι H vs ws → VRs N ι' H vs ws
  | [], _, _, h => h
  | v :: vs, _, e, h => by
    obtain ⟨w, r, q, a, b⟩ := (show ∃ w r, _ = w :: r ∧ VR N ι H v w ∧ VRs N ι H vs r from h)
    have e2 : (noRef v && noRefs vs) = true := e
    obtain ⟨e3, e4⟩ := Bool.and_eq_true_iff.mp e2
    exact ⟨w, r, q, VR.noRef e3 a, VRs.noRef e4 b⟩
end

structure SR (N : Cn) (ι : List Addr) (H : Hp) (sl : SL) (σ : L2.St) : Prop where
  len : Full sl σ.length
  at_ : ∀ (i : Nat) (v : AV), sl.get i = some (some v) → ∃ w, σ[i]? = some (some w) ∧ VR N ι H v w
theorem SR.ext {sl : SL} {σ : L2.St} (S : SR N ι H sl σ) (x : Ext N ι H ι' H') : SR N ι' H' sl σ :=
  ⟨S.len, fun i v e => let ⟨w, a, b⟩ := S.at_ i v e; ⟨w, a, b.ext x⟩⟩
theorem SR.lt {sl : SL} {σ : L2.St} (S : SR N ι H sl σ) {i : Nat} {v : Option AV} (e : sl.get i = some v) : i < σ.length := by
  have q := S.len i
  rw [e] at q
  exact of_decide_eq_true q.symm
theorem SR.set {sl : SL} {σ : L2.St} (S : SR N ι H sl σ) (i : Nat) {v : AV} {w : V} (r : VR N ι H v w) : SR N ι H (sl.set i (some v)) (σ.set i (some w)) := by
  refine ⟨by rw [List.length_set]; exact S.len.sets, fun j u e => ?_⟩
  rw [Tr.get_set] at e
  by_cases q : j = i
  · subst q
    rw [if_pos rfl] at e
    obtain ⟨x, e1, e2⟩ := Option.map_eq_some_iff.mp e
    cases e2
    exact ⟨w, List.getElem?_set_self (S.lt e1), r⟩
  · rw [if_neg q] at e
    obtain ⟨z, a, b⟩ := S.at_ j u e
    exact ⟨z, by rw [List.getElem?_set_ne (Ne.symm q)]; exact a, b⟩
theorem SR.setNone {sl : SL} {σ : L2.St} (S : SR N ι H sl σ) (i : Nat) : SR N ι H (sl.set i none) (σ.set i none) := by
  refine ⟨by rw [List.length_set]; exact S.len.sets, fun j u e => ?_⟩
  rw [Tr.get_set] at e
  by_cases q : j = i
  · subst q
    rw [if_pos rfl] at e
    obtain ⟨x, e1, e2⟩ := Option.map_eq_some_iff.mp e
    cases e2
  · rw [if_neg q] at e
    obtain ⟨z, a, b⟩ := S.at_ j u e
    exact ⟨z, by rw [List.getElem?_set_ne (Ne.symm q)]; exact a, b⟩
theorem SR.wipe {sl : SL} {σ : L2.St} (S : SR N ι H sl σ) : ∀ vs : List Nat, SR N ι H (wipeA sl vs) (wipe σ vs)
  | [] => S
  | v :: vs => (SR.wipe S vs).setNone v

def PostG {α β : Type} (N : Cn) (rel : List Addr → Hp → α → β → Prop) (E : XK) (ι : List Addr) (H : Hp) (r : Res α) (Q : β → Hp → Prop) : Prop := match r with
  | .ok v h' => ∀ ι' H' w, Ext N ι H ι' H' → Rel N ι' h' H' → rel ι' H' v w → Q w H'
  | .exc c us h' => ∀ ι' H' k d, Ext N ι H ι' H' → Rel N ι' h' H' → N.exr c us k d H' → E k d H'
  | .bad => False
section
variable {α β γ δ : Type} {rel : List Addr → Hp → α → β → Prop} {rel2 : List Addr → Hp → γ → δ → Prop} {E : XK}
theorem PostG.weak {r : Res α} {Q : β → Hp → Prop} (x : Ext N ι H ι1 H1) (p : PostG N rel E ι H r Q) : PostG N rel E ι1 H1 r Q := by
  cases r with
  | ok v h' => exact fun ι' H' w y R q => p ι' H' w (x.trans y) R q
  | exc c us h' => exact fun ι' H' k d y R q => p ι' H' k d (x.trans y) R q
  | bad => exact p
theorem PostG.imp {r : Res α} {Q Q' : β → Hp → Prop} (p : PostG N rel E ι H r Q) (f : ∀ w H', Q w H' → Q' w H') : PostG N rel E ι H r Q' := by
  cases r with
  | ok v h' => exact fun ι' H' w y R q => f _ _ (p ι' H' w y R q)
  | exc c us h' => exact p
  | bad => exact p
/-- a piece, then what follows it -/
theorem PostG.bind {r : Res α} {f : α → AH → Res γ} {Q : δ → Hp → Prop} (p : PostG N rel2 E ι H (r.bind f) Q) :
    PostG N rel E ι H r fun w H1 => ∃ ι1 h1 v, Ext N ι H ι1 H1 ∧ Rel N ι1 h1 H1 ∧ rel ι1 H1 v w ∧ PostG N rel2 E ι1 H1 (f v h1) Q := by
  cases r with
  | ok v h' => exact fun ι' H' w y R q => ⟨ι', h', v, y, R, q, p.weak y⟩
  | exc c us h' => exact p
  | bad => exact p
/-- the same with an older base -/
theorem PostG.bindB {ιb : List Addr} {Hb : Hp} (x : Ext N ιb Hb ι H) {r : Res α} {f : α → AH → Res γ} {Q : δ → Hp → Prop} (p : PostG N rel2 E ιb Hb (r.bind f) Q) :
    PostG N rel E ι H r fun w H1 => ∃ ι1 h1 v, Ext N ι H ι1 H1 ∧ Rel N ι1 h1 H1 ∧ rel ι1 H1 v w ∧ PostG N rel2 E ιb Hb (f v h1) Q := by
  cases r with
  | ok v h' => exact fun ι' H' w y R q => ⟨ι', h', v, y, R, q, p⟩
  | exc c us h' => exact fun ι' H' k d y R q => p ι' H' k d (x.trans y) R q
  | bad => exact p
theorem PostG.calm {E' : XK} {ιb : List Addr} {Hb : Hp} (x : Ext N ιb Hb ι H) {r : Res α} {f : α → AH → Res γ} {Q : δ → Hp → Prop} (p : PostG N rel2 E ιb Hb (r.calm.bind f) Q) :
    PostG N rel E' ι H r fun w H1 => ∃ ι1 h1 v, Ext N ι H ι1 H1 ∧ Rel N ι1 h1 H1 ∧ rel ι1 H1 v w ∧ PostG N rel2 E ιb Hb (f v h1) Q := by
  cases r with
  | ok v h' => exact fun ι' H' w y R q => ⟨ι', h', v, y, R, q, p⟩
  | exc c us h' => exact p.elim
  | bad => exact p.elim
theorem PostG.optV {o : Option α} {Q : β → Hp → Prop} (p : PostG N rel E ι H (optV o h) Q) : ∃ a, o = some a ∧ ∀ ι' H' w, Ext N ι H ι' H' → Rel N ι' h H' → rel ι' H' a w → Q w H' := by
  cases o with
  | none => exact p.elim
  | some a => exact ⟨a, rfl, p⟩
end
abbrev PostE (N : Cn) (E : XK) := PostG N (VR N) E
abbrev PostA (N : Cn) (E : XK) := PostG N (VRs N) E
def eqR : List Addr → Hp → Bool → Bool → Prop := fun _ _ a b => a = b
abbrev PostT (N : Cn) (E : XK) := PostG N eqR E
def uR : List Addr → Hp → Unit → Unit → Prop := fun _ _ _ _ => True
abbrev PostU (N : Cn) (E : XK) := PostG N uR E

def tE (N : Cn) (E : XK) (f : FE) : TE := fun σ H Q => ∃ ι h sl, Rel N ι h H ∧ SR N ι H sl σ ∧ PostE N E ι H (f sl h) Q
def tA (N : Cn) (E : XK) (f : FA) : TA := fun σ H Q => ∃ ι h sl, Rel N ι h H ∧ SR N ι H sl σ ∧ PostA N E ι H (f sl h) Q
def tT (N : Cn) (E : XK) (f : FT) : TT := fun σ H Q => ∃ ι h sl, Rel N ι h H ∧ SR N ι H sl σ ∧ PostT N E ι H (f sl h) Q
theorem _root_.L2.PE.imp {X : Cx} {e : Expr} {t t' : TE} (p : PE X e t) (f : ∀ σ H Q, t' σ H Q → t σ H Q) : PE X e t' := ⟨fun pins s σ H Q I q => p.run pins s σ H Q I (f σ H Q q)⟩
theorem _root_.L2.PT.imp {X : Cx} {e : Expr} {t t' : TT} (p : PT X e t) (f : ∀ σ H Q, t' σ H Q → t σ H Q) : PT X e t' := ⟨fun pins s σ H Q I q => p.run pins s σ H Q I (f σ H Q q)⟩
theorem _root_.L2.PA.imp {X : Cx} {e : List Expr} {t t' : TA} (p : PA X e t) (f : ∀ σ H Q, t' σ H Q → t σ H Q) : PA X e t' := ⟨fun pos pins s σ H Q I q => p.run pos pins s σ H Q I (f σ H Q q)⟩
theorem _root_.L2.PS.imp {X : Cx} {e : Stmt} {t t' : TS} (p : PS X e t) (f : ∀ D σ H, t' D σ H → t D σ H) : PS X e t' := ⟨fun pins s σ H D I q => p.run pins s σ H D I (f D σ H q)⟩
theorem _root_.L2.PSs.imp {X : Cx} {e : List Stmt} {t t' : TS} (p : PSs X e t) (f : ∀ D σ H, t' D σ H → t D σ H) : PSs X e t' := ⟨fun pins s σ H D I q => p.run pins s σ H D I (f D σ H q)⟩
end Ev

set_option Elab.async false
set_option linter.all false
set_option maxRecDepth 100000
set_option maxHeartbeats 4000000
set_option autoImplicit false
namespace Ev
open PySem PySem.Spec PyProof.Rows L2

/-- what a body's context must have -/
structure Ld (N : Cn) (CX : CXT) (E : XK) (X : Cx) : Prop where
  K : X.K = N.K
  calm : X.calm = true
  nd : X.N.Nodup
  un : X.A.units + 200 < cLine
  pass : Passes CX X E

variable {N : Cn} {CX : CXT} {E : XK} {X : Cx} {ι ι1 ι2 ι' : List Addr} {H H1 H2 H' : Hp} {h h1 h' : AH}

theorem fin0 {Q : VK} {v : AV} {w : V} (p : PostE N E ι H (.ok v h) Q) (R : Rel N ι h H) (r : VR N ι H v w) : Q w H := p ι H w Ext.refl R r
theorem get_new {p : Addr} (R : Rel N ι h H) : (ι ++ [p])[h.n]? = some p := by
  rw [← R.len, List.getElem?_append_right (Nat.le_refl _), Nat.sub_self]
  rfl
theorem finL {Q : VK} {xs : List AV} {ws : List V} {p : Addr} (q : PostE N E ι H (newL xs h) Q) (R : Rel N ι h H) (r : VRs N ι H xs ws) (e : H p = none) : Q (.ref p) (upd H p (.lst ws)) :=
  q (ι ++ [p]) (upd H p (.lst ws)) (.ref p) (Ext.new e) (R.push e ⟨ws, upd_same, r.ext (Ext.new e)⟩) ⟨p, get_new R, rfl⟩
theorem finD {Q : VK} {ks : List (Key × AV)} {ws : List (Key × V)} {p : Addr} (q : PostE N E ι H (.ok (.ref h.n) (h.push (.dct ks))) Q) (R : Rel N ι h H) (nd : (ks.map (·.1)).Nodup) (r : DR N ι H ks ws) (e : H p = none) : Q (.ref p) (upd H p (.dK ws)) :=
  q (ι ++ [p]) (upd H p (.dK ws)) (.ref p) (Ext.new e) (R.push e ⟨nd, ws, upd_same, r.ext (Ext.new e)⟩) ⟨p, get_new R, rfl⟩
theorem finT {Q : VK} {xs : List AV} {ws : List V} (q : PostE N E ι H (.ok (.tup xs) h) Q) (R : Rel N ι h H) (r : VRs N ι H xs ws) : Low.TQ Q H ws := fun p o e d =>
  q ι (upd H p (.frz o (.tup ws))) (.ref p) (Ext.new0 e) (R.new0 e) ⟨p, ws, rfl, .inl ⟨o, upd_same, d⟩, r.ext (Ext.new0 e)⟩
theorem short_le {α : Type} {xs : List α} (e : short xs = true) : xs.length ≤ 8000000 := Nat.le_of_ble_eq_true e
theorem line_le {n : Nat} (e : n ≤ 8000000) : n ≤ sizeLine := by rw [sizeLine_eq]; omega
theorem line_le2 {n m : Nat} (e : n ≤ 8000000) (f : m ≤ 8000000) : n + m ≤ sizeLine := by rw [sizeLine_eq]; omega
theorem VR.int {i : Int} {w : V} (r : VR N ι H (.int i) w) : w = .int i := r
theorem VR.str {x : Str} {w : V} (r : VR N ι H (.str x) w) : w = .str x := r
theorem VR.bl {b : Bool} {w : V} (r : VR N ι H (.bl b) w) : w = .bl b := r
theorem VR.non {w : V} (r : VR N ι H .non w) : w = .non := r
theorem VR.tup {xs : List AV} {w : V} (r : VR N ι H (.tup xs) w) : ∃ a ws, w = .ref a ∧ SqP N.K H a ws ∧ VRs N ι H xs ws := r
theorem VR.rf {n : Nat} {w : V} (r : VR N ι H (.ref n) w) : ∃ a, ι[n]? = some a ∧ w = .ref a := r
theorem VR.sc {ns : List Int} {w : V} (r : VR N ι H (.scr ns) w) : ∃ a, w = .ref a ∧ ScrAt N.K H a (ns.map V.int) := r
theorem and_t {a b : Bool} (e : (a && b) = true) : a = true ∧ b = true := Bool.and_eq_true_iff.mp e
theorem Rel.at_ (R : Rel N ι h H) {n : Nat} {a : Addr} {o : AO} (e : ι[n]? = some a) (g : h.get n = some o) : OR N ι H o a := by
  obtain ⟨b, eb, r⟩ := R.obj n o g
  rw [e] at eb
  cases eb
  exact r
theorem strCat_eq (x y : Str) : strCat x y = x ++ y := by
  show (⟨(x.cps.toList ++ y.cps.toList).toArray⟩ : Str) = ⟨x.cps ++ y.cps⟩
  rw [← Array.toList_append, Array.toArray_toList]
theorem len_eq (x : Str) : x.length = x.cps.toList.length := by
  show x.cps.size = _
  rw [Array.length_toList]
theorem rep_eq {α : Type} (xs : List α) : ∀ k, rep xs k = (List.replicate k xs).flatten
  | 0 => rfl
  | k + 1 => by
    show xs ++ rep xs k = _
    rw [List.replicate_succ, List.flatten_cons, rep_eq xs k]
theorem VRs.rep {xs : List AV} {ws : List V} (r : VRs N ι H xs ws) : ∀ k, VRs N ι H (rep xs k) (List.replicate k ws).flatten
  | 0 => rfl
  | k + 1 => by
    rw [List.replicate_succ, List.flatten_cons]
    exact VRs.append r (VRs.rep r k)

def bopO : BOp → Operator
  | .add => .Add
  | .sub => .Sub
  | .mul => .Mult
  | .fdiv => .FloorDiv
  | .mod => .Mod
  | .pow => .Pow
def rB (N : Cn) (E : XK) (op : BOp) : R2 := fun x y H Q => ∃ ι h xa ya, Rel N ι h H ∧ VR N ι H xa x ∧ VR N ι H ya y ∧ PostE N E ι H (binA op xa ya h) Q
theorem smallI_ok {i : Int} (e : smallI i = true) : -(2 ^ 64) < i ∧ i < 2 ^ 64 := by
  obtain ⟨a, b⟩ := and_t e
  have a := of_decide_eq_true a
  have b := of_decide_eq_true b
  unfold two64 at a b
  omega
open AutoSeq1 (wpAny_loadPart') in
theorem tuple_mulS (l : Addr) (items : Array Value) (n : Nat) (dd : Option Addr) (sl : Array (Option Value)) (x : Int) (u : Tok) (c0 : (decide (x < -(2 ^ 63)) || decide (x ≥ 2 ^ 63)) = false) (c1 : (items.isEmpty || x == 1) = true) :
    Meets (Builtin.«tuple.__mul__» ⟨[.ref l, .int x u], []⟩) (fun _ R s => s.heap.get? l = some { cls := .type "tuple", dict := dd, data := .seq items n, slots := sl } ∧ R (.ok (.ret (Value.ref l))) s) :=
  .of_wp fun prog w A R s h => by
    obtain ⟨hp, g, d, tk, os⟩ := s
    obtain ⟨hl, h⟩ := h
    have f1 := AutoSeq1.idx_int
    wp_walk using wpAny_loadPart' hl
    repeat (first
      | (refine wpAny_ite_false (decide_eq_false (by rw [c0]; exact Bool.false_ne_true)) ?_; wp_walk using wpAny_loadPart' hl)
      | (refine wpAny_ite_true (decide_eq_true c1) ?_; wp_walk using wpAny_loadPart' hl))
    exact ⟨_, rfl, h⟩
open AutoSeq1 (wpAny_loadPart') in
theorem tuple_mulZ (l : Addr) (items : Array Value) (n : Nat) (dd : Option Addr) (sl : Array (Option Value)) (x : Int) (u : Tok) (c0 : (decide (x < -(2 ^ 63)) || decide (x ≥ 2 ^ 63)) = false) (c1 : (items.isEmpty || x == 1) = false) (c2 : (decide (x ≤ 0) || items.isEmpty) = true) :
    Meets (Builtin.«tuple.__mul__» ⟨[.ref l, .int x u], []⟩) (fun _ R s => s.heap.get? l = some { cls := .type "tuple", dict := dd, data := .seq items n, slots := sl } ∧ R (.ok (.ret (Value.ref s.heap.objs.size))) { s with heap := s.heap.push { cls := Value.type "tuple", data := Data.seq #[] }, toks := s.toks }) :=
  .of_wp fun prog w A R s h => by
    obtain ⟨hp, g, d, tk, os⟩ := s
    obtain ⟨hl, h⟩ := h
    have f1 := AutoSeq1.idx_int
    wp_walk using wpAny_loadPart' hl
    repeat (first
      | (refine wpAny_ite_false (decide_eq_false (by rw [c0]; exact Bool.false_ne_true)) ?_; wp_walk using wpAny_loadPart' hl)
      | (refine wpAny_ite_false (decide_eq_false (by rw [c1]; exact Bool.false_ne_true)) ?_; wp_walk using wpAny_loadPart' hl)
      | (refine wpAny_ite_true (decide_eq_true c2) ?_; wp_walk using wpAny_loadPart' hl))
    exact ⟨_, rfl, h⟩
theorem op_bin (L : Ld N CX E X) (op : BOp) : OpR X (binaryOp (bopO op)) (rB N E op) := by
  intro pins s σ H x y v u Q I rx ry ⟨ι, h, xa, ya, R, vx, vy, p⟩
  unfold binA at p
  split at p
  · rename_i i j
    have ex := VR.int vx
    have ey := VR.int vy
    subst ex ey
    cases op with
    | add => exact op_add pins s σ H _ _ v u Q I rx ry ⟨i, j, rfl, rfl, fin0 p R rfl⟩
    | sub => exact op_sub pins s σ H _ _ v u Q I rx ry ⟨i, j, rfl, rfl, fin0 p R rfl⟩
    | mul =>
      simp only at p
      split at p
      · rename_i c
        refine op_mul pins s σ H _ _ v u Q I rx ry ⟨i, j, rfl, rfl, ?_, fin0 p R rfl⟩
        rcases Bool.or_eq_true_iff.mp c with c | c
        · exact .inl (smallI_ok c)
        · exact .inr (smallI_ok c)
      · exact p.elim
    | fdiv =>
      simp only at p
      split at p
      · rename_i c
        obtain ⟨c1, c2⟩ := and_t c
        exact op_fdiv pins s σ H _ _ v u Q I rx ry ⟨i, j, rfl, rfl, ⟨of_decide_eq_true c1, of_decide_eq_true c2⟩, fin0 p R rfl⟩
      · exact p.elim
    | mod =>
      simp only at p
      split at p
      · rename_i c
        exact op_mod pins s σ H _ _ v u Q I rx ry ⟨i, j, rfl, rfl, of_decide_eq_true c, fin0 p R rfl⟩
      · exact p.elim
    | pow =>
      simp only at p
      split at p
      · rename_i c
        obtain ⟨c1, c2⟩ := and_t c
        obtain ⟨c0, c1⟩ := and_t c1
        have c2 := smallI_ok c2
        have c0 := of_decide_eq_true c0
        have c1 := of_decide_eq_true c1
        exact op_pow pins s σ H _ _ v u Q I rx ry ⟨i, j, rfl, rfl, ⟨c0, by omega, by omega⟩, fin0 p R rfl⟩
      · exact p.elim
  · rename_i a b
    have ex := VR.str vx
    have ey := VR.str vy
    subst ex ey
    split at p
    · split at p
      · rename_i c
        obtain ⟨c1, c2⟩ := and_t c
        refine op_add_str pins s σ H _ _ v u Q I rx ry ⟨a, b, rfl, rfl, ?_, fin0 p R (strCat_eq a b ▸ rfl)⟩
        rw [len_eq, len_eq]
        exact line_le2 (short_le c1) (short_le c2)
      · exact p.elim
    · exact p.elim
  · rename_i xs ys
    obtain ⟨a, ws, ex, sa, ra⟩ := VR.tup vx
    obtain ⟨b, zs, ey, sb, rb⟩ := VR.tup vy
    subst ex ey
    split at p
    · split at p
      · rename_i c
        obtain ⟨c1, c2⟩ := and_t c
        refine Low.op_catF pins s σ H _ _ v u Q I rx ry ⟨a, b, ws, zs, rfl, rfl, L.K ▸ sa.t, L.K ▸ sb.t, ?_, fun e => ?_, fun e f => ?_, fun e f => ?_⟩
        · rw [ra.length, rb.length]
          exact line_le2 (short_le c1) (short_le c2)
        · subst e
          have l := ra.length
          cases xs with
          | nil => exact fin0 p R ⟨b, zs, rfl, sb, rb⟩
          | cons _ _ => cases l
        · subst f
          have l := rb.length
          cases ys with
          | nil => exact fin0 p R ⟨a, ws, rfl, sa, by rw [List.append_nil]; exact ra⟩
          | cons _ _ => cases l
        · exact finT p R (VRs.append ra rb)
      · exact p.elim
    · exact p.elim
  · rename_i xs k
    obtain ⟨a, ws, ex, sa, ra⟩ := VR.tup vx
    have ey := VR.int vy
    subst ex ey
    split at p
    · split at p
      · rename_i c
        obtain ⟨c1, c3⟩ := and_t c
        obtain ⟨c0', c2⟩ := and_t c1
        have c2 := of_decide_eq_true c2
        have c3 := of_decide_eq_true c3
        have len := ra.length
        have c0 : xs.length = 1 := Nat.eq_of_beq_eq_true c0'
        by_cases k2 : 2 ≤ k
        · refine Low.op_repTF pins s σ H _ _ v u Q I rx ry ⟨a, k, ws, rfl, rfl, L.K ▸ sa.t, ?_, k2, c3, by omega, finT p R (VRs.rep ra _)⟩
          intro e
          rw [e] at len
          simp at len
          omega
        · cases rx
          obtain ⟨t, rfl⟩ := ry
          obtain ⟨its, r, ⟨⟨cls, dd, data, sl⟩, ho, hc, n, hd⟩, hs⟩ := I.tuple (L.K ▸ sa.t)
          simp only at hc hd
          subst hc hd
          have hle : its.length = 1 := by rw [← r.length, len, c0]
          have hi : its.toArray.isEmpty = false := by
            cases its with
            | nil => cases hle
            | cons a b => rfl
          have z0 : (decide (k < -(2 ^ 63)) || decide (k ≥ 2 ^ 63)) = false := by
            rw [decide_eq_false (by omega), decide_eq_false (by omega)] <;> rfl
          by_cases k1 : k = 1
          · subst k1
            refine wpAny_binaryOp_repeat_ref (T := "tuple") (U := "int") (by decide) ⟨_, ho, rfl⟩ (fun s' => typeIs_int s' 1 t) noFill_tuple_mul F.fills_int_mul F.slot_int_rmul repeat_tuple F.slot_int_index.lookup
              (call_meets F.slot_int_rmul (typeIs_int s 1 t) F.entry_int_rmul (F.args_int_rmul_2 _ _) (int_rmul_tuple 1 t a its.toArray n dd sl)
                ⟨ho, rfl, ⟨_, ho, rfl⟩, call_meets F.slot_tuple_mul ⟨_, ho, rfl⟩ F.entry_tuple_mul (F.args_tuple_mul_2 _ _) (tuple_mulS a its.toArray n dd sl 1 t z0 (by rw [hi]; rfl)) ⟨ho, ?_⟩⟩)
            have e1 : rep xs (1 : Int).toNat = xs := by
              show xs ++ rep xs 0 = xs
              rw [show rep xs 0 = [] from rfl, List.append_nil]
            rw [e1] at p
            exact ⟨.ref a, H, I, rfl, fin0 p R ⟨a, ws, rfl, sa, ra⟩⟩
          · have k0 : k = 0 := by omega
            subst k0
            refine wpAny_binaryOp_repeat_ref (T := "tuple") (U := "int") (by decide) ⟨_, ho, rfl⟩ (fun s' => typeIs_int s' 0 t) noFill_tuple_mul F.fills_int_mul F.slot_int_rmul repeat_tuple F.slot_int_index.lookup
              (call_meets F.slot_int_rmul (typeIs_int s 0 t) F.entry_int_rmul (F.args_int_rmul_2 _ _) (int_rmul_tuple 0 t a its.toArray n dd sl)
                ⟨ho, rfl, ⟨_, ho, rfl⟩, call_meets F.slot_tuple_mul ⟨_, ho, rfl⟩ F.entry_tuple_mul (F.args_tuple_mul_2 _ _) (tuple_mulZ a its.toArray n dd sl 0 t z0 (by rw [hi]; rfl) (by rfl)) ⟨ho, ?_⟩⟩)
            exact Low.laidF I .nil (Nat.zero_le _) (finT p R (xs := rep xs 0) (ws := []) rfl)
      · exact p.elim
    · exact p.elim
  · rename_i n m
    obtain ⟨a, ea, ex⟩ := VR.rf vx
    obtain ⟨b, eb, ey⟩ := VR.rf vy
    subst ex ey
    split at p
    · rename_i xs ys g1 g2
      split at p
      · rename_i c
        obtain ⟨c1, c2⟩ := and_t c
        obtain ⟨ws, ha, ra⟩ := R.at_ ea g1
        obtain ⟨zs, hb, rb⟩ := R.at_ eb g2
        refine op_cat pins s σ H _ _ v u Q I rx ry ⟨a, b, ws, zs, rfl, rfl, ha, hb, ?_, fun q hq => finL p R (VRs.append ra rb) hq⟩
        rw [ra.length, rb.length]
        exact line_le2 (short_le c1) (short_le c2)
      · exact p.elim
    · exact p.elim
  · exact p.elim

mutual
def toD : AV → PyData
  | .non => .none
  | .bl b => .bool b
  | .int i => .int i
  | .str x => .str x
  | .tup xs => .tuple (toDs xs)
  | .ref _ => .none
  | .scr _ => .none
def toDs : List AV → List PyData
  | [] => []
  | x :: xs => toD x :: toDs xs
end
theorem sOk_ok {x : Str} (e : sOk x = true) : PyData.strOk x = true := by
  unfold sOk at e
  unfold PyData.strOk
  rw [Array.all_eq_true_iff_forall_mem]
  intro c m
  have q := List.all_eq_true.mp e c (Array.mem_toList_iff.mpr m)
  have q := Nat.le_of_ble_eq_true q
  exact decide_eq_true (by omega)
theorem okD_dp : ∀ (k : Nat) (v : AV) (w : V), okD k v = true → VR N ι H v w → Dp N.K H w (toD v) ∧ (toD v).canLay0 = true ∧ (toD v).depth ≤ k
  | k, .ref _, _, e, _ => by cases k <;> cases e
  | k, .scr _, _, e, _ => by cases k <;> cases e
  | k, .non, w, _, r => by
    have r := VR.non r
    subst r
    exact ⟨.non, rfl, Nat.zero_le _⟩
  | k, .bl b, w, _, r => by
    have r := VR.bl r
    subst r
    exact ⟨.bl b, rfl, Nat.zero_le _⟩
  | k, .int i, w, _, r => by
    have r := VR.int r
    subst r
    exact ⟨.int i, rfl, Nat.zero_le _⟩
  | k, .str x, w, e, r => by
    have r := VR.str r
    subst r
    refine ⟨.str x, ?_, Nat.zero_le _⟩
    cases k with
    | zero => exact sOk_ok e
    | succ k => exact sOk_ok e
  | 0, .tup xs, _, e, _ => by cases e
  | k + 1, .tup xs, w, e, r => by
    obtain ⟨a, ws, q, s, r0⟩ := VR.tup r
    subst q
    have all : ∀ (xs : List AV) (ws : List V), xs.all (okD k) = true → VRs N ι H xs ws → DpAll N.K H ws (toDs xs) ∧ PyData.canLayAll0 (toDs xs) = true ∧ PyData.depthAll (toDs xs) ≤ k := by
      intro xs
      induction xs with
      | nil =>
        intro ws _ r
        have r : ws = [] := r
        subst r
        exact ⟨.nil, rfl, Nat.zero_le _⟩
      | cons x xs ih =>
        intro ws e r
        obtain ⟨w, r', q, a, b⟩ := (show ∃ w r, ws = w :: r ∧ VR N ι H x w ∧ VRs N ι H xs r from r)
        subst q
        rw [List.all_cons] at e
        obtain ⟨e1, e2⟩ := and_t e
        obtain ⟨p1, p2, p3⟩ := okD_dp k x w e1 a
        obtain ⟨q1, q2, q3⟩ := ih r' e2 b
        refine ⟨.cons p1 q1, ?_, ?_⟩
        · show ((toD x).canLay0 && PyData.canLayAll0 (toDs xs)) = true
          rw [p2, q2]
          rfl
        · show max (toD x).depth (PyData.depthAll (toDs xs)) ≤ k
          omega
    obtain ⟨q1, q2, q3⟩ := all xs ws e r0
    exact ⟨.tup s.t q1, q2, Nat.succ_le_succ q3⟩
theorem okD_shaped {v : AV} {w : V} (e : okD deep v = true) (r : VR N ι H v w) : Dp N.K H w (toD v) ∧ SeqAt.shaped (toD v) = true := by
  obtain ⟨p1, p2, p3⟩ := okD_dp deep v w e r
  refine ⟨p1, ?_⟩
  unfold SeqAt.shaped
  rw [p2, decide_eq_true (Nat.le_trans p3 (by decide))]
  rfl
theorem okDs_shaped {xs : List AV} {ws : List V} (e : xs.all (okD deep) = true) (r : VRs N ι H xs ws) : DpAll N.K H ws (toDs xs) ∧ SeqAt.shaped (.list (toDs xs)) = true := by
  have all : ∀ (xs : List AV) (ws : List V), xs.all (okD deep) = true → VRs N ι H xs ws → DpAll N.K H ws (toDs xs) ∧ PyData.canLayAll0 (toDs xs) = true ∧ PyData.depthAll (toDs xs) ≤ deep := by
    intro xs
    induction xs with
    | nil =>
      intro ws _ r
      have r : ws = [] := r
      subst r
      exact ⟨.nil, rfl, Nat.zero_le _⟩
    | cons x xs ih =>
      intro ws e r
      obtain ⟨w, r', q, a, b⟩ := (show ∃ w r, ws = w :: r ∧ VR N ι H x w ∧ VRs N ι H xs r from r)
      subst q
      rw [List.all_cons] at e
      obtain ⟨e1, e2⟩ := and_t e
      obtain ⟨p1, p2, p3⟩ := okD_dp deep x w e1 a
      obtain ⟨q1, q2, q3⟩ := ih r' e2 b
      refine ⟨.cons p1 q1, ?_, ?_⟩
      · show ((toD x).canLay0 && PyData.canLayAll0 (toDs xs)) = true
        rw [p2, q2]
        rfl
      · show max (toD x).depth (PyData.depthAll (toDs xs)) ≤ deep
        omega
  obtain ⟨q1, q2, q3⟩ := all xs ws e r
  refine ⟨q1, ?_⟩
  unfold SeqAt.shaped
  show (PyData.canLayAll0 (toDs xs) && decide (PyData.depthAll (toDs xs) + 1 ≤ 64)) = true
  rw [q2, decide_eq_true (by have : deep = 40 := rfl; omega)]
  rfl
theorem natsEq_eq : ∀ xs ys : List Nat, natsEq xs ys = decide (xs = ys)
  | [], [] => (decide_eq_true rfl).symm
  | [], y :: ys => (decide_eq_false (by simp)).symm
  | x :: xs, [] => (decide_eq_false (by simp)).symm
  | x :: xs, y :: ys => by
    show (Nat.beq x y && natsEq xs ys) = _
    rw [natsEq_eq xs ys]
    by_cases e : x = y
    · subst e
      rw [show Nat.beq x x = true from Nat.beq_refl x, Bool.true_and]
      exact decide_eq_decide.mpr (by simp)
    · rw [show Nat.beq x y = false from Bool.eq_false_iff.mpr fun q => e (Nat.eq_of_beq_eq_true q), Bool.false_and]
      exact (decide_eq_false (by simp [e])).symm
theorem strEq_eq (x y : Str) : strEq x y = decide (x = y) := by
  unfold strEq
  rw [natsEq_eq]
  apply decide_eq_decide.mpr
  constructor
  · intro e
    cases x
    cases y
    simp only [Str.mk.injEq]
    exact Array.toList_inj.mp e
  · intro e
    rw [e]
theorem intEq_eq : ∀ i j : Int, intEq i j = decide (i = j)
  | .ofNat a, .ofNat b => by
    show Nat.beq a b = _
    by_cases e : a = b
    · subst e
      rw [Nat.beq_refl]
      exact (decide_eq_true rfl).symm
    · rw [show Nat.beq a b = false from Bool.eq_false_iff.mpr fun q => e (Nat.eq_of_beq_eq_true q)]
      exact (decide_eq_false fun q => e (Int.ofNat.inj q)).symm
  | .negSucc a, .negSucc b => by
    show Nat.beq a b = _
    by_cases e : a = b
    · subst e
      rw [Nat.beq_refl]
      exact (decide_eq_true rfl).symm
    · rw [show Nat.beq a b = false from Bool.eq_false_iff.mpr fun q => e (Nat.eq_of_beq_eq_true q)]
      exact (decide_eq_false fun q => e (Int.negSucc.inj q)).symm
  | .ofNat a, .negSucc b => (decide_eq_false (fun q => nomatch q)).symm
  | .negSucc a, .ofNat b => (decide_eq_false (fun q => nomatch q)).symm
theorem b2z_eq (b : Bool) : b2z b = if b then 1 else 0 := by cases b <;> rfl
mutual
theorem eqv_eqD : ∀ x y : AV, noRef x = true → noRef y = true → PyData.eqv (toD x) (toD y) = eqD x y
  | .ref _, _, e, _ => by cases e
  | .scr _, _, e, _ => by cases e
  | _, .ref _, _, e => by cases e
  | _, .scr _, _, e => by cases e
  | .non, .non, _, _ => rfl
  | .non, .bl _, _, _ => rfl
  | .non, .int _, _, _ => rfl
  | .non, .str _, _, _ => rfl
  | .non, .tup _, _, _ => rfl
  | .bl _, .non, _, _ => rfl
  | .bl a, .bl b, _, _ => rfl
  | .bl a, .int j, _, _ => by
    show ((if a then 1 else 0) == j) = intEq (b2z a) j
    rw [intEq_eq, b2z_eq]
    rfl
  | .bl _, .str _, _, _ => rfl
  | .bl _, .tup _, _, _ => rfl
  | .int _, .non, _, _ => rfl
  | .int i, .bl b, _, _ => by
    show (i == (if b then 1 else 0)) = intEq i (b2z b)
    rw [intEq_eq, b2z_eq]
    rfl
  | .int i, .int j, _, _ => by
    show (i == j) = intEq i j
    rw [intEq_eq]
    rfl
  | .int _, .str _, _, _ => rfl
  | .int _, .tup _, _, _ => rfl
  | .str _, .non, _, _ => rfl
  | .str _, .bl _, _, _ => rfl
  | .str _, .int _, _, _ => rfl
  | .str x, .str y, _, _ => by
    show (x == y) = strEq x y
    rw [strEq_eq]
    rfl
  | .str _, .tup _, _, _ => rfl
  | .tup _, .non, _, _ => rfl
  | .tup _, .bl _, _, _ => rfl
  | .tup _, .int _, _, _ => rfl
  | .tup _, .str _, _, _ => rfl
  | .tup xs, .tup ys, e, f => eqvs_eqDs xs ys e f
theorem eqvs_eqDs : ∀ xs ys : List AV, noRefs xs = true → noRefs ys = true → PyData.eqvAll (toDs xs) (toDs ys) = eqDs xs ys
  | [], [], _, _ => rfl
  | [], _ :: _, _, _ => rfl
  | _ :: _, [], _, _ => rfl
  | x :: xs, y :: ys, e, f => by
    have e : (noRef x && noRefs xs) = true := e
    have f : (noRef y && noRefs ys) = true := f
    obtain ⟨e1, e2⟩ := and_t e
    obtain ⟨f1, f2⟩ := and_t f
    show (PyData.eqv (toD x) (toD y) && PyData.eqvAll (toDs xs) (toDs ys)) = (eqD x y && eqDs xs ys)
    rw [eqv_eqD x y e1 f1, eqvs_eqDs xs ys e2 f2]
end
theorem okD_noRef : ∀ (k : Nat) (v : AV), okD k v = true → noRef v = true
  | k, .ref _, e => by cases k <;> cases e
  | k, .scr _, e => by cases k <;> cases e
  | _, .non, _ => rfl
  | _, .bl _, _ => rfl
  | _, .int _, _ => rfl
  | _, .str _, _ => rfl
  | 0, .tup _, e => by cases e
  | k + 1, .tup xs, e => by
    have all : ∀ xs : List AV, xs.all (okD k) = true → noRefs xs = true := by
      intro xs
      induction xs with
      | nil => intro _; rfl
      | cons x xs ih =>
        intro e
        rw [List.all_cons] at e
        obtain ⟨e1, e2⟩ := and_t e
        show (noRef x && noRefs xs) = true
        rw [okD_noRef k x e1, ih e2]
        rfl
    exact all xs e
theorem okDs_noRefs : ∀ xs : List AV, xs.all (okD deep) = true → noRefs xs = true
  | [], _ => rfl
  | x :: xs, e => by
    rw [List.all_cons] at e
    obtain ⟨e1, e2⟩ := and_t e
    show (noRef x && noRefs xs) = true
    rw [okD_noRef deep x e1, okDs_noRefs xs e2]
    rfl
theorem natsLt_eq : ∀ xs ys : List Nat, natsLt xs ys = decide (xs < ys)
  | [], [] => (decide_eq_false (by simp)).symm
  | [], y :: ys => (decide_eq_true (by simp)).symm
  | x :: xs, [] => (decide_eq_false (by simp)).symm
  | x :: xs, y :: ys => by
    show (if Nat.beq x y then natsLt xs ys else Nat.blt x y) = _
    by_cases e : x = y
    · subst e
      rw [Nat.beq_refl, if_pos rfl, natsLt_eq xs ys]
      exact decide_eq_decide.mpr (by simp [List.cons_lt_cons_iff])
    · rw [show Nat.beq x y = false from Bool.eq_false_iff.mpr fun q => e (Nat.eq_of_beq_eq_true q), if_neg (by simp)]
      show Nat.blt x y = _
      by_cases l : x < y
      · rw [decide_eq_true (by simp [List.cons_lt_cons_iff, l])]
        exact Nat.ble_eq.mpr l
      · rw [decide_eq_false (by simp [List.cons_lt_cons_iff, l, e])]
        exact Bool.eq_false_iff.mpr fun q => l (Nat.ble_eq.mp q)
theorem strLt_eq (x y : Str) : strLt x y = decide (x.cps.toList < y.cps.toList) := natsLt_eq _ _

theorem lexAt_ltDs : ∀ (xs ys : List AV) (b : Bool) (e r : Nat → Bool) (i : Nat), ltDs xs ys = some b →
    (∀ (j : Nat) (x y : AV), xs[j]? = some x → ys[j]? = some y → e (i + j) = eqD x y ∧ (eqD x y = false → ltD x y = some (r (i + j)))) →
    Ob.lexAt e r (decide (xs.length < ys.length)) i (min xs.length ys.length) = b
  | [], [], b, e, r, i, q, _ => by
    have q : some false = some b := q
    cases q
    rfl
  | [], y :: ys, b, e, r, i, q, _ => by
    have q : some true = some b := q
    cases q
    show Ob.lexAt e r (decide (0 < ys.length + 1)) i (min 0 (ys.length + 1)) = true
    rw [Nat.zero_min, Ob.lexAt_zero]
    exact decide_eq_true (by omega)
  | x :: xs, [], b, e, r, i, q, _ => by
    have q : some false = some b := q
    cases q
    show Ob.lexAt e r (decide (xs.length + 1 < 0)) i (min (xs.length + 1) 0) = false
    rw [Nat.min_zero, Ob.lexAt_zero]
    exact decide_eq_false (by omega)
  | x :: xs, y :: ys, b, e, r, i, q, f => by
    have q : (match ltDs xs ys with
      | none => none
      | some r => if eqD x y then some r else ltD x y) = some b := q
    obtain ⟨f1, f2⟩ := f 0 x y rfl rfl
    rw [Nat.add_zero] at f1 f2
    rw [List.length_cons, List.length_cons, show min (xs.length + 1) (ys.length + 1) = min xs.length ys.length + 1 by omega, Ob.lexAt_succ, f1]
    cases c : ltDs xs ys with
    | none =>
      rw [c] at q
      cases q
    | some b2 =>
      rw [c] at q
      simp only at q
      have ih := lexAt_ltDs xs ys b2 e r (i + 1) c fun j x' y' a a' => by
        have := f (j + 1) x' y' a a'
        rwa [show i + (j + 1) = i + 1 + j by omega] at this
      by_cases z : eqD x y = true
      · rw [if_pos z] at q ⊢
        cases q
        rw [← ih]
        congr 1
        exact decide_eq_decide.mpr (by omega)
      · rw [if_neg z] at q ⊢
        have := f2 (Bool.eq_false_iff.mpr z)
        rw [q] at this
        exact (Option.some.inj this).symm
theorem ltDs_some : ∀ (xs ys : List AV) (b : Bool), ltDs xs ys = some b → ∀ (j : Nat) (x y : AV), xs[j]? = some x → ys[j]? = some y → eqD x y = false → ∃ c, ltD x y = some c
  | [], _, _, _, j, x, y, a, _, _ => by simp at a
  | _ :: _, [], _, _, j, x, y, _, a, _ => by simp at a
  | x' :: xs, y' :: ys, b, q, j, x, y, a, a', z => by
    have q : (match ltDs xs ys with
      | none => none
      | some r => if eqD x' y' then some r else ltD x' y') = some b := q
    cases c : ltDs xs ys with
    | none =>
      rw [c] at q
      cases q
    | some b2 =>
      rw [c] at q
      simp only at q
      cases j with
      | zero =>
        simp at a a'
        subst a a'
        rw [z, if_neg (by simp)] at q
        exact ⟨b, q⟩
      | succ j => exact ltDs_some xs ys b2 c j x y (by simpa using a) (by simpa using a') z
section
variable {pins : List (Addr × Obj)} {σ : L2.St} {s : Shared}
theorem eq_at (K : X.K = N.K) (I : Inv X pins σ H s) {k k' : Nat} {x y : AV} {w z : V} {v u : Value} {A : Around} (e1 : okD k x = true) (e2 : okD k' y = true) (r1 : VR N ι H x w) (r2 : VR N ι H y z) (q1 : RelV w v) (q2 : RelV z u) (hu : A.units + k < cLine) : SeqAt.EqAt A s v u (eqD x y) := by
  obtain ⟨p1, p2, p3⟩ := okD_dp k x w e1 r1
  obtain ⟨p4, p5, p6⟩ := okD_dp k' y z e2 r2
  obtain ⟨as, r3⟩ := Dp.reads I _ w v (K ▸ p1) q1
  obtain ⟨bs, r4⟩ := Dp.reads I _ z u (K ▸ p4) q2
  rw [← eqv_eqD x y (okD_noRef _ _ e1) (okD_noRef _ _ e2)]
  exact SeqAt.eqAt_reads _ _ A s v u as bs r3 r4 p2 p5 (by omega)
theorem Vals.at_ {ws : List V} {its : List Value} (r : Vals ws its) {j : Nat} (hj : j < its.length) : ∃ w, ws[j]? = some w ∧ RelV w its[j] := by
  have hl : j < ws.length := by rw [r.length]; exact hj
  obtain ⟨u, e, q⟩ := r.get (List.getElem?_eq_getElem hl)
  rw [List.getElem?_eq_getElem hj] at e
  cases e
  exact ⟨_, List.getElem?_eq_getElem hl, q⟩
theorem VRs.at_ {xs : List AV} {ws : List V} (r : VRs N ι H xs ws) {j : Nat} {w : V} (e : ws[j]? = some w) : ∃ x, xs[j]? = some x ∧ VR N ι H x w := by
  obtain ⟨a, b⟩ := r.get j
  cases q : xs[j]? with
  | none =>
    rw [b q] at e
    cases e
  | some x =>
    obtain ⟨w', e', r'⟩ := a x q
    rw [e] at e'
    cases e'
    exact ⟨x, rfl, r'⟩
theorem lt_at (K : X.K = N.K) (I : Inv X pins σ H s) : ∀ (k : Nat) (x y : AV) (w z : V) (v u : Value) (b : Bool) (A : Around), okD k x = true → okD k y = true → VR N ι H x w → VR N ι H y z → RelV w v → RelV z u →
    ltD x y = some b → A.units + 2 * k + 1 < cLine → Ob.RcOp .Lt A s v u b
  | k, .int i, .int j, w, z, v, u, b, A, _, _, r1, r2, q1, q2, e, hu => by
    have r1 := VR.int r1
    have r2 := VR.int r2
    subst r1 r2
    obtain ⟨t, rfl⟩ := q1
    obtain ⟨t', rfl⟩ := q2
    have e : some (decide (i < j)) = some b := e
    cases e
    exact Ob.RcOp.lt_int i j t t'
  | k, .str i, .str j, w, z, v, u, b, A, _, _, r1, r2, q1, q2, e, hu => by
    have r1 := VR.str r1
    have r2 := VR.str r2
    subst r1 r2
    obtain ⟨t, rfl⟩ := q1
    obtain ⟨t', rfl⟩ := q2
    have e : some (strLt i j) = some b := e
    rw [strLt_eq] at e
    cases e
    exact fun prog w E Q h => lt_str h
  | 0, .tup xs, .tup ys, _, _, _, _, _, _, e1, _, _, _, _, _, _, _ => by cases e1
  | k + 1, .tup xs, .tup ys, w, z, v, u, b, A, e1, e2, r1, r2, q1, q2, e, hu => by
    obtain ⟨a, ws, rfl, s1, v1⟩ := VR.tup r1
    obtain ⟨c, zs, rfl, s2, v2⟩ := VR.tup r2
    cases q1
    cases q2
    have e : ltDs xs ys = some b := e
    have e1 : xs.all (okD k) = true := e1
    have e2 : ys.all (okD k) = true := e2
    obtain ⟨its, i1, p1, _⟩ := I.tuple (K ▸ s1.t)
    obtain ⟨jts, i2, p2, _⟩ := I.tuple (K ▸ s2.t)
    have ui : A.in1.units ≤ A.units + 1 := Nat.le_refl _
    have l1 : its.toArray.size = xs.length := by rw [List.size_toArray, ← i1.length, v1.length]
    have l2 : jts.toArray.size = ys.length := by rw [List.size_toArray, ← i2.length, v2.length]
    have at1 : ∀ j (h1 : j < its.toArray.size), ∃ x w, xs[j]? = some x ∧ okD k x = true ∧ VR N ι H x w ∧ RelV w its.toArray[j] := fun j h1 => by
      obtain ⟨w, ew, rw⟩ := Vals.at_ i1 (j := j) (by simpa using h1)
      obtain ⟨x, ex, rx⟩ := VRs.at_ v1 ew
      exact ⟨x, w, ex, List.all_eq_true.mp e1 x (List.mem_of_getElem? ex), rx, by simpa using rw⟩
    have at2 : ∀ j (h1 : j < jts.toArray.size), ∃ x w, ys[j]? = some x ∧ okD k x = true ∧ VR N ι H x w ∧ RelV w jts.toArray[j] := fun j h1 => by
      obtain ⟨w, ew, rw⟩ := Vals.at_ i2 (j := j) (by simpa using h1)
      obtain ⟨x, ex, rx⟩ := VRs.at_ v2 ew
      exact ⟨x, w, ex, List.all_eq_true.mp e2 x (List.mem_of_getElem? ex), rx, by simpa using rw⟩
    have R := Ob.RcOp.tuples_lt (A := A) (s := s) (e := fun j => eqD (xs.getD j .non) (ys.getD j .non)) (r := fun j => (ltD (xs.getD j .non) (ys.getD j .non)).getD false) p1 p2 (by omega)
      (fun j h1 h2 => by
        obtain ⟨x, w, ex, ox, rx, qx⟩ := at1 j h1
        obtain ⟨y, z, ey, oy, ry, qy⟩ := at2 j h2
        rw [List.getD_eq_getElem?_getD, List.getD_eq_getElem?_getD, ex, ey]
        exact eq_at K I ox oy rx ry qx qy (by omega))
      (fun j h1 h2 ne => by
        obtain ⟨x, w, ex, ox, rx, qx⟩ := at1 j h1
        obtain ⟨y, z, ey, oy, ry, qy⟩ := at2 j h2
        rw [List.getD_eq_getElem?_getD, List.getD_eq_getElem?_getD, ex, ey] at ne ⊢
        obtain ⟨d, ed⟩ := ltDs_some xs ys b e j x y ex ey ne
        show Ob.RcOp .Lt A.in1 s _ _ ((ltD x y).getD false)
        rw [ed]
        exact lt_at K I k x y w z _ _ d A.in1 ox oy rx ry qx qy ed (by omega))
    rw [l1, l2, lexAt_ltDs xs ys b _ _ 0 e (fun j x y ex ey => by
      rw [Nat.zero_add]
      simp only [List.getD_eq_getElem?_getD, ex, ey, Option.getD_some]
      refine ⟨trivial, fun ne => ?_⟩
      obtain ⟨d, ed⟩ := ltDs_some xs ys b e j x y ex ey ne
      rw [ed]
      rfl)] at R
    exact R
  | k, .non, y, _, _, _, _, _, _, _, _, _, _, _, _, e, _ => by cases y <;> cases e
  | k, .bl _, y, _, _, _, _, _, _, _, _, _, _, _, _, e, _ => by cases y <;> cases e
  | k, .ref _, y, _, _, _, _, _, _, _, _, _, _, _, _, e, _ => by cases y <;> cases e
  | k, .scr _, y, _, _, _, _, _, _, _, _, _, _, _, _, e, _ => by cases y <;> cases e
  | k, .int _, .non, _, _, _, _, _, _, _, _, _, _, _, _, e, _ => by cases e
  | k, .int _, .bl _, _, _, _, _, _, _, _, _, _, _, _, _, e, _ => by cases e
  | k, .int _, .str _, _, _, _, _, _, _, _, _, _, _, _, _, e, _ => by cases e
  | k, .int _, .tup _, _, _, _, _, _, _, _, _, _, _, _, _, e, _ => by cases e
  | k, .int _, .ref _, _, _, _, _, _, _, _, _, _, _, _, _, e, _ => by cases e
  | k, .int _, .scr _, _, _, _, _, _, _, _, _, _, _, _, _, e, _ => by cases e
  | k, .str _, .non, _, _, _, _, _, _, _, _, _, _, _, _, e, _ => by cases e
  | k, .str _, .bl _, _, _, _, _, _, _, _, _, _, _, _, _, e, _ => by cases e
  | k, .str _, .int _, _, _, _, _, _, _, _, _, _, _, _, _, e, _ => by cases e
  | k, .str _, .tup _, _, _, _, _, _, _, _, _, _, _, _, _, e, _ => by cases e
  | k, .str _, .ref _, _, _, _, _, _, _, _, _, _, _, _, _, e, _ => by cases e
  | k, .str _, .scr _, _, _, _, _, _, _, _, _, _, _, _, _, e, _ => by cases e
  | k, .tup _, .non, _, _, _, _, _, _, _, _, _, _, _, _, e, _ => by cases e
  | k, .tup _, .bl _, _, _, _, _, _, _, _, _, _, _, _, _, e, _ => by cases e
  | k, .tup _, .int _, _, _, _, _, _, _, _, _, _, _, _, _, e, _ => by cases e
  | k, .tup _, .str _, _, _, _, _, _, _, _, _, _, _, _, _, e, _ => by cases e
  | k, .tup _, .ref _, _, _, _, _, _, _, _, _, _, _, _, _, e, _ => by cases e
  | k, .tup _, .scr _, _, _, _, _, _, _, _, _, _, _, _, _, e, _ => by cases e
end

def copO : COp → CmpOp
  | .eq => .Eq
  | .ne => .NotEq
  | .lt => .Lt
  | .le => .LtE
  | .gt => .Gt
  | .ge => .GtE
  | .isin => .In
  | .notin => .NotIn
  | .isN => .Is
  | .notN => .IsNot
def rC (N : Cn) (E : XK) (op : COp) : R2 := fun x y H Q => ∃ ι h xa ya, Rel N ι h H ∧ VR N ι H xa x ∧ VR N ι H ya y ∧ PostE N E ι H (boolV (cmpA op xa ya h) h) Q
theorem finB {Q : VK} {o : Option Bool} (p : PostE N E ι H (boolV o h) Q) (R : Rel N ι h H) : ∃ b, o = some b ∧ Q (.bl b) H := by
  cases o with
  | none => exact p.elim
  | some b => exact ⟨b, rfl, fin0 p R rfl⟩
theorem dk_at (R : Rel N ι h H) {n : Nat} {a : Addr} {ks : List (Key × AV)} (e : ι[n]? = some a) (g : h.get n = some (.dct ks)) : ∃ ws, H a = some (.dK ws) ∧ DR N ι H ks ws := (R.at_ e g).2
theorem dk_nd (R : Rel N ι h H) {n : Nat} {a : Addr} {ks : List (Key × AV)} (e : ι[n]? = some a) (g : h.get n = some (.dct ks)) : (ks.map (·.1)).Nodup := (R.at_ e g).1
theorem lst_at (R : Rel N ι h H) {n : Nat} {a : Addr} {xs : List AV} (e : ι[n]? = some a) (g : h.get n = some (.lst xs)) : ∃ ws, H a = some (.lst ws) ∧ VRs N ι H xs ws := R.at_ e g
theorem listAt_sq (R : Rel N ι h H) {n : Nat} {a : Addr} {xs : List AV} (e : ι[n]? = some a) (g : listAt h n = some xs) : ∃ ws, SqL N.K H a ws ∧ VRs N ι H xs ws := by
  unfold listAt at g
  split at g
  · rename_i ys q
    cases g
    obtain ⟨ws, q, r⟩ := lst_at R e q
    exact ⟨ws, .of q, r⟩
  · cases g
/-- the one answer of == by values -/
def EqV (X : Cx) (x y : V) (H : Hp) (b : Bool) : Prop := ∀ (pins : List (Addr × Obj)) (s : Shared) (σ : L2.St) (v u : Value) (Q : VK), Inv X pins σ H s → RelV x v → RelV y u →
  (Q (.bl b) H → wpAny (model X.prog X.w) X.A (compareOp .Eq v u) (EP X pins σ Q) X.xe s) ∧ (Q (.bl (!b)) H → wpAny (model X.prog X.w) X.A (compareOp .NotEq v u) (EP X pins σ Q) X.xe s)
theorem EqV.scal {x y : V} (e : scal x y = true) : EqV X x y H (decide (x = y)) := fun pins s σ v u Q I rx ry =>
  ⟨fun q => op_eq pins s σ H x y v u Q I rx ry ⟨e, q⟩, fun q => op_ne pins s σ H x y v u Q I rx ry ⟨e, q⟩⟩
theorem EqV.data {x y : V} {d e : PyData} (hu : X.A.units + 64 < cLine) (p : Dp X.K H x d) (q : Dp X.K H y e) (f : SeqAt.shaped d = true) (g : SeqAt.shaped e = true) : EqV X x y H (PyData.eqv d e) := fun pins s σ v u Q I rx ry =>
  ⟨fun z => op_eqD hu pins s σ H x y v u Q I rx ry ⟨d, e, p, q, f, g, z⟩, fun z => op_neD hu pins s σ H x y v u Q I rx ry ⟨d, e, p, q, f, g, z⟩⟩
theorem keyOf_V {x : AV} {k : Key} {w : V} (e : keyOf x = some k) (r : VR N ι H x w) : w = kV k := by
  cases x with
  | int i => cases e; exact VR.int r
  | str s => cases e; exact VR.str r
  | non => cases e
  | bl b => cases e
  | tup xs => cases e
  | ref n => cases e
  | scr n => cases e
theorem keyEq_eq (k q : Key) : keyEq k q = decide (k = q) := by
  cases k with
  | inl i =>
    cases q with
    | inl j =>
      show intEq i j = _
      rw [intEq_eq]
      exact decide_eq_decide.mpr (by simp)
    | inr y => exact (decide_eq_false (fun z => nomatch z)).symm
  | inr x =>
    cases q with
    | inl j => exact (decide_eq_false (fun z => nomatch z)).symm
    | inr y =>
      show strEq x y = _
      rw [strEq_eq]
      exact decide_eq_decide.mpr (by simp)
theorem dGet_V (k : Key) : ∀ {ks : List (Key × AV)} {ws : List (Key × V)}, DR N ι H ks ws → (∀ v, dGet k ks = some v → ∃ w, valV ws k = some w ∧ VR N ι H v w) ∧ (dGet k ks = none → valV ws k = none)
  | [], ws, r => by
    have r : ws = [] := r
    subst r
    exact ⟨fun v e => (by cases e), fun _ => rfl⟩
  | (q, v) :: ks, ws, r => by
    obtain ⟨w, r', e, a, b⟩ := (show ∃ w s, ws = (q, w) :: s ∧ VR N ι H v w ∧ DR N ι H ks s from r)
    subst e
    obtain ⟨i1, i2⟩ := dGet_V k b
    have st : dGet k ((q, v) :: ks) = if keyEq q k then some v else dGet k ks := rfl
    rw [st, keyEq_eq]
    by_cases z : q = k
    · rw [if_pos (decide_eq_true z), valV_pos z]
      exact ⟨fun v' e => (by cases e; exact ⟨w, rfl, a⟩), fun e => (by cases e)⟩
    · rw [if_neg (by rw [decide_eq_false z]; simp), valV_neg z]
      exact ⟨i1, i2⟩
theorem DR.length : ∀ {vs : List (Key × AV)} {ws : List (Key × V)}, DR N ι H vs ws → ws.length = vs.length
  | [], _, h => by
    have e : _ = [] := h
    rw [e]
    rfl
  | v :: vs, _, h => by
    obtain ⟨w, r, e, _, b⟩ := (show ∃ w r, _ = (v.1, w) :: r ∧ VR N ι H v.2 w ∧ DR N ι H vs r from h)
    rw [e, List.length_cons, List.length_cons, DR.length b]
theorem hits_of (L : Ld N CX E X) {pins : List (Addr × Obj)} {σ : L2.St} {s : Shared} (I : Inv X pins σ H s) {ls : List (Key × AV)} {zs : List (Key × V)} {vb : List (Key × Value)} (rb : DR N ι H ls zs) (kb : KV zs vb) (cb : (ls.map (·.2)).all (okD deep) = true) :
    ∀ {ks : List (Key × AV)} {ws : List (Key × V)} {va : List (Key × Value)}, DR N ι H ks ws → KV ws va → (ks.map (·.2)).all (okD deep) = true → PySem.W.KeqHits X.A.in1 s vb va (eqDicts ks ls)
  | [], ws, va, r, k, _ => by
    have r : ws = [] := r
    subst r
    cases k
    exact .nil
  | (q, v) :: ks, ws, va, r, kk, c => by
    obtain ⟨w, r', e, a, b⟩ := (show ∃ w s, ws = (q, w) :: s ∧ VR N ι H v w ∧ DR N ι H ks s from r)
    subst e
    rw [List.map_cons, List.all_cons] at c
    obtain ⟨c1, c2⟩ := and_t c
    cases kk with
    | cons h1 h2 =>
      rename_i p2 va2
      obtain ⟨q2, u⟩ := p2
      obtain ⟨eq', ru⟩ := h1
      have eq' : q = q2 := eq'
      subst eq'
      have ih := hits_of L I rb kb cb b h2 c2
      have st : eqDicts ((q, v) :: ks) ls = ((match dGet q ls with
        | some w => eqD v w
        | none => false) && eqDicts ks ls) := rfl
      rw [st]
      obtain ⟨g1, g2⟩ := dGet_V q rb
      have kv := kb.val q
      cases g : dGet q ls with
      | none =>
        rw [g2 g] at kv
        exact .miss (RelO.none_of kv)
      | some w' =>
        obtain ⟨z, ez, rz⟩ := g1 w' g
        rw [ez] at kv
        obtain ⟨y, ey, ry⟩ := RelO.some_of kv
        have ok : okD deep w' = true := by
          have : ∀ (l : List (Key × AV)), dGet q l = some w' → (l.map (·.2)).all (okD deep) = true → okD deep w' = true := by
            intro l
            induction l with
            | nil => intro e; cases e
            | cons p l ih =>
              obtain ⟨p1, p2⟩ := p
              intro e c
              rw [List.map_cons, List.all_cons] at c
              obtain ⟨c1, c2⟩ := and_t c
              have e : (if keyEq p1 q then some p2 else dGet q l) = some w' := e
              split at e
              · cases e
                exact c1
              · exact ih e c2
          exact this ls g cb
        refine .hit ey (eq_at L.K I c1 ok a rz ru ry ?_) ih
        have : X.A.in1.units ≤ X.A.units + 1 := Nat.le_refl _
        have := L.un
        have : deep = 40 := rfl
        omega
theorem nbeq (m n : Nat) : (m == n) = Nat.beq m n := by
  cases h : Nat.beq m n with
  | true =>
    have := Nat.eq_of_beq_eq_true h
    subst this
    simp
  | false =>
    apply beq_eq_false_iff_ne.mpr
    intro e
    subst e
    rw [Nat.beq_refl] at h
    cases h
theorem eq_dicts (L : Ld N CX E X) {a b : Addr} {ks ls : List (Key × AV)} {ws zs : List (Key × V)} (ha : H a = some (.dK ws)) (hb : H b = some (.dK zs)) (ra : DR N ι H ks ws) (rb : DR N ι H ls zs)
    (ca : (ks.map (·.2)).all (okD deep) = true) (cb : (ls.map (·.2)).all (okD deep) = true) : EqV X (.ref a) (.ref b) H (Nat.beq ks.length ls.length && eqDicts ks ls) := by
  intro pins s σ v u Q I rx ry
  obtain rfl : v = Value.ref a := rx
  obtain rfl : u = Value.ref b := ry
  obtain ⟨_, ya, va, va', da⟩ := (show ObjOk X.prog X.w H s.heap a (.dK ws) from I.hok a _ ha)
  obtain ⟨_, yb, vb, vb', db⟩ := (show ObjOk X.prog X.w H s.heap b (.dK zs) from I.hok b _ hb)
  have hu : X.A.units < cLine := by have := L.un; omega
  have hits := hits_of L I rb vb' cb ra va' ca
  have e1 : va.length = ks.length := by rw [← KV.length va', DR.length ra]
  have e2 : vb.length = ls.length := by rw [← KV.length vb', DR.length rb]
  have e : (va.length == vb.length && eqDicts ks ls) = (Nat.beq ks.length ls.length && eqDicts ks ls) := by rw [e1, e2, nbeq]
  exact ⟨fun q => PySem.W.keq_eq (knd := mixKind X.prog X.w) ya yb da db hu (fun _ => hits) (fin_bl I q e.symm), fun q => PySem.W.keq_ne (knd := mixKind X.prog X.w) ya yb da db hu (fun _ => hits) (fin_bl I q (by rw [e]))⟩
theorem eqA_ok (L : Ld N CX E X) {xa ya : AV} {x y : V} {b : Bool} (R : Rel N ι h H) (vx : VR N ι H xa x) (vy : VR N ι H ya y) (e : eqA xa ya h = some b) : EqV X x y H b := by
  have hu : X.A.units + 64 < cLine := by have := L.un; omega
  unfold eqA at e
  split at e
  · rename_i n m
    obtain ⟨a, ea, rfl⟩ := VR.rf vx
    obtain ⟨c, ec, rfl⟩ := VR.rf vy
    split at e
    · rename_i xs ys g1 g2
      split at e
      · rename_i k
        obtain ⟨k1, k2⟩ := and_t k
        obtain ⟨ws, ha, ra⟩ := lst_at R ea g1
        obtain ⟨zs, hb, rb⟩ := lst_at R ec g2
        cases e
        obtain ⟨d1, f1⟩ := okDs_shaped k1 ra
        obtain ⟨d2, f2⟩ := okDs_shaped k2 rb
        have := EqV.data (X := X) hu (.lst (.of ha) (L.K ▸ d1)) (.lst (.of hb) (L.K ▸ d2)) f1 f2
        have z : PyData.eqv (.list (toDs xs)) (.list (toDs ys)) = eqDs xs ys := eqvs_eqDs xs ys (okDs_noRefs xs k1) (okDs_noRefs ys k2)
        rw [z] at this
        exact this
      · cases e
    · rename_i ks ls g1 g2
      split at e
      · rename_i k
        obtain ⟨k1, k3⟩ := and_t k
        obtain ⟨k1, k4⟩ := and_t k1
        obtain ⟨k1, k2⟩ := and_t k1
        obtain ⟨ws, ha, ra⟩ := dk_at R ea g1
        obtain ⟨zs, hb, rb⟩ := dk_at R ec g2
        cases e
        exact eq_dicts L ha hb ra rb k1 k2
      · cases e
    · cases e
  · rename_i i j
    have ex := VR.int vx
    have ey := VR.int vy
    subst ex ey
    cases e
    rw [intEq_eq, show decide (i = j) = decide (V.int i = V.int j) from decide_eq_decide.mpr (by simp)]
    exact EqV.scal rfl
  · rename_i i j
    have ex := VR.str vx
    have ey := VR.str vy
    subst ex ey
    cases e
    rw [strEq_eq, show decide (i = j) = decide (V.str i = V.str j) from decide_eq_decide.mpr (by simp)]
    exact EqV.scal rfl
  · split at e
    · rename_i k
      obtain ⟨k1, k2⟩ := and_t k
      cases e
      obtain ⟨d1, f1⟩ := okD_shaped k1 vx
      obtain ⟨d2, f2⟩ := okD_shaped k2 vy
      rw [← eqv_eqD xa ya (okD_noRef _ _ k1) (okD_noRef _ _ k2)]
      exact EqV.data hu (L.K ▸ d1) (L.K ▸ d2) f1 f2
    · cases e
def InV (X : Cx) (x y : V) (H : Hp) (b : Bool) : Prop := ∀ (pins : List (Addr × Obj)) (s : Shared) (σ : L2.St) (v u : Value) (Q : VK), Inv X pins σ H s → RelV x v → RelV y u →
  (Q (.bl b) H → wpAny (model X.prog X.w) X.A (compareOp .In v u) (EP X pins σ Q) X.xe s) ∧ (Q (.bl (!b)) H → wpAny (model X.prog X.w) X.A (compareOp .NotIn v u) (EP X pins σ Q) X.xe s)
theorem flatA_V {x : AV} {w : V} (e : flatA x = true) (r : VR N ι H x w) : flatV w = true := by
  cases x with
  | non => cases VR.non r; rfl
  | bl b => cases VR.bl r; rfl
  | int i => cases VR.int r; rfl
  | str s => cases VR.str r; rfl
  | tup xs => cases e
  | ref n => cases e
  | scr n => cases e
theorem flatA_eqV {x y : AV} {w z : V} (e : flatA x = true) (f : flatA y = true) (r : VR N ι H x w) (q : VR N ι H y z) : eqV z w = eqD y x := by
  cases x with
  | tup xs => cases e
  | ref n => cases e
  | scr n => cases e
  | non =>
    cases VR.non r
    cases y with
    | tup xs => cases f
    | ref n => cases f
    | scr n => cases f
    | non => cases VR.non q; rfl
    | bl b => cases VR.bl q; rfl
    | int i => cases VR.int q; rfl
    | str s => cases VR.str q; rfl
  | bl b' =>
    cases VR.bl r
    cases y with
    | tup xs => cases f
    | ref n => cases f
    | scr n => cases f
    | non => cases VR.non q; rfl
    | bl b => cases VR.bl q; rfl
    | int i =>
      cases VR.int q
      show (i == (if b' then 1 else 0)) = intEq i (b2z b')
      rw [intEq_eq, b2z_eq]
      rfl
    | str s => cases VR.str q; rfl
  | int i' =>
    cases VR.int r
    cases y with
    | tup xs => cases f
    | ref n => cases f
    | scr n => cases f
    | non => cases VR.non q; rfl
    | bl b =>
      cases VR.bl q
      show ((if b then 1 else 0) == i') = intEq (b2z b) i'
      rw [intEq_eq, b2z_eq]
      rfl
    | int i =>
      cases VR.int q
      show (i == i') = intEq i i'
      rw [intEq_eq]
      rfl
    | str s => cases VR.str q; rfl
  | str s' =>
    cases VR.str r
    cases y with
    | tup xs => cases f
    | ref n => cases f
    | scr n => cases f
    | non => cases VR.non q; rfl
    | bl b => cases VR.bl q; rfl
    | int i => cases VR.int q; rfl
    | str s =>
      cases VR.str q
      show (s == s') = strEq s s'
      rw [strEq_eq]
      rfl
theorem flatAs_V {x : AV} {w : V} (e : flatA x = true) (r : VR N ι H x w) : ∀ {ys : List AV} {zs : List V}, ys.all flatA = true → VRs N ι H ys zs → zs.all flatV = true ∧ inV w zs = ys.any fun z => eqD z x
  | [], zs, _, q => by
    have q : zs = [] := q
    subst q
    exact ⟨rfl, rfl⟩
  | y :: ys, zs, f, q => by
    obtain ⟨z, r', q', a, b⟩ := (show ∃ w r, zs = w :: r ∧ VR N ι H y w ∧ VRs N ι H ys r from q)
    subst q'
    rw [List.all_cons] at f
    obtain ⟨f1, f2⟩ := and_t f
    obtain ⟨i1, i2⟩ := flatAs_V e r f2 b
    refine ⟨by rw [List.all_cons, flatA_V f1 a, i1]; rfl, ?_⟩
    show (eqV z w || inV w r') = _
    rw [i2, flatA_eqV e f1 r a]
    rfl
theorem in_seqA (L : Ld N CX E X) {x : AV} {ys : List AV} {w : V} {zs : List V} {p : Addr} (R : Rel N ι h H) (vx : VR N ι H x w) (sq : SqL N.K H p zs ∨ SqT N.K H p zs) (vy : VRs N ι H ys zs)
    (g : (flatA x && ys.all flatA) = true) : InV X w (.ref p) H (ys.any fun z => eqD z x) := by
  intro pins s σ v u Q I rx ry
  have sq : SqL X.K H p zs ∨ SqT X.K H p zs := by rw [L.K]; exact sq
  obtain ⟨g1, g2⟩ := and_t g
  obtain ⟨i1, i2⟩ := flatAs_V g1 vx g2 vy
  exact ⟨fun q => op_in_seq pins s σ H w (.ref p) v u Q I rx ry ⟨p, zs, rfl, sq, flatA_V g1 vx, i1, by rw [if_neg (by simp), i2]; exact q⟩,
    fun q => op_notIn_seq pins s σ H w (.ref p) v u Q I rx ry ⟨p, zs, rfl, sq, flatA_V g1 vx, i1, by rw [if_pos rfl, i2]; exact q⟩⟩
theorem subStr_one (c : Nat) : ∀ ys : List Nat, subStr [c] ys = decide (c ∈ ys)
  | [] => by
    show natsEq [c] [] = _
    rw [natsEq_eq]
    exact decide_eq_decide.mpr (by simp)
  | y :: ys => by
    show (natsEq [c] ((y :: ys).take [c].length) || subStr [c] ys) = _
    rw [subStr_one c ys, natsEq_eq]
    show (decide ([c] = [y]) || decide (c ∈ ys)) = decide (c ∈ y :: ys)
    by_cases e : c = y
    · subst e
      rw [decide_eq_true rfl, decide_eq_true (List.mem_cons_self ..)]
      rfl
    · rw [decide_eq_false (by simp [e]), Bool.false_or]
      exact decide_eq_decide.mpr (by simp [e])
theorem occ_sub {i j : Str} (e : Nat.beq i.cps.toList.length 1 = true) : (!(Builtin.Str.occurrences j i 0 j.length 1).isEmpty) = subStr i.cps.toList j.cps.toList := by
  obtain ⟨cs⟩ := i
  have e : cs.toList.length = 1 := Nat.eq_of_beq_eq_true e
  obtain ⟨c, ec⟩ := List.length_eq_one_iff.mp e
  have ec2 : cs = #[c] := by
    rw [← Array.toArray_toList (xs := cs), ec]
  subst ec2
  rw [StrLaws.found_one]
  exact (subStr_one c _).symm
theorem inA_ok (L : Ld N CX E X) {xa ya : AV} {x y : V} {b : Bool} (R : Rel N ι h H) (vx : VR N ι H xa x) (vy : VR N ι H ya y) (e : inA xa ya h = some b) : InV X x y H b := by
  unfold inA at e
  split at e
  · rename_i ys
    obtain ⟨a, zs, rfl, sb, rb⟩ := VR.tup vy
    split at e
    · rename_i g
      cases e
      exact in_seqA L R vx (.inr sb.t) rb g
    · cases e
  · rename_i t
    have ey := VR.str vy
    subst ey
    split at e
    · rename_i i
      have ex := VR.str vx
      subst ex
      split at e
      · rename_i g
        cases e
        intro pins s σ v u Q I rx ry
        rw [← occ_sub g]
        exact ⟨fun q => op_in_str pins s σ H _ _ v u Q I rx ry ⟨i, t, rfl, rfl, q⟩, fun q => op_notIn_str pins s σ H _ _ v u Q I rx ry ⟨i, t, rfl, rfl, q⟩⟩
      · cases e
    · cases e
  · rename_i n
    obtain ⟨a, ea, rfl⟩ := VR.rf vy
    split at e
    · rename_i ys g0
      split at e
      · rename_i g
        cases e
        obtain ⟨ws, ha, ra⟩ := lst_at R ea g0
        exact in_seqA L R vx (.inl (.of ha)) ra g
      · cases e
    · rename_i ks g0
      split at e
      · rename_i k ek
        cases e
        obtain ⟨ws, ha, ra⟩ := dk_at R ea g0
        have kx := keyOf_V ek vx
        subst kx
        intro pins s σ v u Q I rx ry
        cases ry
        have hu : X.A.units + 1 < cLine := by have := L.un; omega
        obtain ⟨d1, d2⟩ := dGet_V k ra
        have z : (dGet k ks).isSome = (valV ws k).isSome := by
          cases q : dGet k ks with
          | none =>
            rw [d2 q]
            rfl
          | some v =>
            obtain ⟨w, e, _⟩ := d1 v q
            rw [e]
            rfl
        rw [z]
        exact ⟨fun q => d_in hu I (DGet.k ha) rx fun s' I' => ⟨.bl _, H, I', rfl, q⟩, fun q => d_notIn hu I (DGet.k ha) rx fun s' I' => ⟨.bl _, H, I', rfl, q⟩⟩
      · cases e
    · cases e
  · cases e
theorem op_cmpA (L : Ld N CX E X) (op : COp) : OpR X (compareOp (copO op)) (rC N E op) := by
  intro pins s σ H x y v u Q I rx ry ⟨ι, h, xa, ya, R, vx, vy, p⟩
  obtain ⟨b, e, q⟩ := finB p R
  cases op with
  | eq => exact (eqA_ok L R vx vy e pins s σ v u Q I rx ry).1 q
  | ne =>
    have e : (eqA xa ya h).map (!·) = some b := e
    obtain ⟨c, ec, eb⟩ := Option.map_eq_some_iff.mp e
    subst eb
    exact (eqA_ok L R vx vy ec pins s σ v u Q I rx ry).2 q
  | lt =>
    unfold cmpA at e
    simp only at e
    split at e
    · rename_i i j
      have ex := VR.int vx
      have ey := VR.int vy
      subst ex ey
      cases e
      exact op_lt pins s σ H _ _ v u Q I rx ry ⟨i, j, rfl, rfl, q⟩
    · rename_i i j
      have ex := VR.str vx
      have ey := VR.str vy
      subst ex ey
      cases e
      rw [strLt_eq] at q
      exact op_lt_str pins s σ H _ _ v u Q I rx ry ⟨i, j, rfl, rfl, q⟩
    · split at e
      · rename_i g
        obtain ⟨g1, g2⟩ := and_t g
        have := lt_at L.K I deep xa ya x y v u b X.A g1 g2 vx vy rx ry e (by have := L.un; have : deep = 40 := rfl; omega) X.prog X.w X.xe (EP X pins σ Q) ⟨.bl b, H, I, rfl, q⟩
        exact this
      · cases e
  | le =>
    unfold cmpA at e
    simp only at e
    split at e
    · rename_i i j
      have ex := VR.int vx
      have ey := VR.int vy
      subst ex ey
      cases e
      exact op_le pins s σ H _ _ v u Q I rx ry ⟨i, j, rfl, rfl, q⟩
    · cases e
  | gt =>
    unfold cmpA at e
    simp only at e
    split at e
    · rename_i i j
      have ex := VR.int vx
      have ey := VR.int vy
      subst ex ey
      cases e
      exact op_gt pins s σ H _ _ v u Q I rx ry ⟨i, j, rfl, rfl, q⟩
    · cases e
  | ge =>
    unfold cmpA at e
    simp only at e
    split at e
    · rename_i i j
      have ex := VR.int vx
      have ey := VR.int vy
      subst ex ey
      cases e
      exact op_ge pins s σ H _ _ v u Q I rx ry ⟨i, j, rfl, rfl, q⟩
    · cases e
  | isin => exact (inA_ok L R vx vy e pins s σ v u Q I rx ry).1 q
  | notin =>
    have e : (inA xa ya h).map (!·) = some b := e
    obtain ⟨c, ec, eb⟩ := Option.map_eq_some_iff.mp e
    subst eb
    exact (inA_ok L R vx vy ec pins s σ v u Q I rx ry).2 q
  | isN =>
    unfold cmpA at e
    simp only at e
    split at e
    · have ey := VR.non vy
      subst ey
      refine op_isN pins s σ H _ _ v u Q I rx ry ⟨rfl, ?_⟩
      cases e
      have z : isNon xa = decide (x = .non) := by
        cases xa with
        | non => cases VR.non vx; rfl
        | bl _ => cases VR.bl vx; rfl
        | int _ => cases VR.int vx; rfl
        | str _ => cases VR.str vx; rfl
        | tup _ => obtain ⟨a, ws, rfl, _⟩ := VR.tup vx; rfl
        | ref _ => obtain ⟨a, _, rfl⟩ := VR.rf vx; rfl
        | scr _ => obtain ⟨a, rfl, _⟩ := VR.sc vx; rfl
      rw [← z]
      exact q
    · cases e
  | notN =>
    unfold cmpA at e
    simp only at e
    split at e
    · have ey := VR.non vy
      subst ey
      refine op_notN pins s σ H _ _ v u Q I rx ry ⟨rfl, ?_⟩
      cases e
      have z : isNon xa = decide (x = .non) := by
        cases xa with
        | non => cases VR.non vx; rfl
        | bl _ => cases VR.bl vx; rfl
        | int _ => cases VR.int vx; rfl
        | str _ => cases VR.str vx; rfl
        | tup _ => obtain ⟨a, ws, rfl, _⟩ := VR.tup vx; rfl
        | ref _ => obtain ⟨a, _, rfl⟩ := VR.rf vx; rfl
        | scr _ => obtain ⟨a, rfl, _⟩ := VR.sc vx; rfl
      rw [← z]
      exact q
    · cases e
end Ev

set_option Elab.async false
set_option linter.all false
set_option maxRecDepth 100000
set_option maxHeartbeats 4000000
set_option autoImplicit false
namespace Ev
open PySem PySem.Spec PyProof.Rows L2 PySem.W PySem.Calls

mutual
theorem alike_toD : ∀ x y : AV, alikeA x y = true → alike (toD x) (toD y) = true
  | .non, y, h => by cases y <;> first | rfl | cases h
  | .bl _, y, h => by cases y <;> first | rfl | cases h
  | .int _, y, h => by cases y <;> first | rfl | cases h
  | .str _, y, h => by cases y <;> first | rfl | cases h
  | .tup xs, y, h => by
    cases y with
    | tup ys =>
      have h : alikeAs xs ys = true := h
      show alike (.tuple (toDs xs)) (.tuple (toDs ys)) = true
      rw [alike]
      exact alike_toDs xs ys h
    | _ => cases h
  | .ref _, y, h => by cases y <;> cases h
  | .scr _, y, h => by cases y <;> cases h
theorem alike_toDs : ∀ xs ys : List AV, alikeAs xs ys = true → alikeAll (toDs xs) (toDs ys) = true
  | [], ys, _ => by
    show alikeAll [] (toDs ys) = true
    simp [alikeAll]
  | x :: xs, [], _ => by
    show alikeAll (toD x :: toDs xs) [] = true
    simp [alikeAll]
  | x :: xs, y :: ys, h => by
    have h : (alikeA x y && alikeAs xs ys) = true := h
    obtain ⟨h1, h2⟩ := Bool.and_eq_true_iff.mp h
    show alikeAll (toD x :: toDs xs) (toD y :: toDs ys) = true
    rw [alikeAll, alike_toD x y h1, alike_toDs xs ys h2]
    rfl
end
mutual
theorem ltD_data : ∀ (x y : AV) (b : Bool), alikeA x y = true → noRef x = true → noRef y = true → ltD x y = some b → dataLt (toD x) (toD y) = b
  | .int i, y, b, ha, n1, n2, h => by
    cases y with
    | int j =>
      have h : some (decide (i < j)) = some b := h
      show dataLt (.int i) (.int j) = b
      rw [dataLt_int]
      exact Option.some.inj h
    | _ => cases ha
  | .str x, y, b, ha, n1, n2, h => by
    cases y with
    | str z =>
      have h : some (strLt x z) = some b := h
      show dataLt (.str x) (.str z) = b
      rw [dataLt_str]
      cases h
      exact (strLt_eq x z).symm
    | _ => cases ha
  | .tup xs, y, b, ha, n1, n2, h => by
    cases y with
    | tup ys =>
      show dataLt (.tuple (toDs xs)) (.tuple (toDs ys)) = b
      rw [dataLt_tuple]
      exact ltDs_data xs ys b ha n1 n2 h
    | _ => cases ha
  | .non, y, b, ha, n1, n2, h => by cases y <;> cases h
  | .bl _, y, b, ha, n1, n2, h => by cases y <;> cases h
  | .ref _, y, b, ha, n1, n2, h => by cases n1
  | .scr _, y, b, ha, n1, n2, h => by cases n1
theorem ltDs_data : ∀ (xs ys : List AV) (b : Bool), alikeAs xs ys = true → noRefs xs = true → noRefs ys = true → ltDs xs ys = some b → lexLt itemOrd (keyToksAll (toDs xs)) (keyToksAll (toDs ys)) = b
  | [], [], b, _, _, _, h => by
    cases h
    exact lex_irrefl _
  | [], y :: ys, b, _, _, _, h => by
    cases h
    show lexLt itemOrd (keyToksAll []) (keyToksAll (toD y :: toDs ys)) = true
    rw [toks_all_cons]
    simp only [keyToksAll]
    rw [lex_diff (O := itemOrd) (by simp)]
    rfl
  | x :: xs, [], b, _, _, _, h => by
    cases h
    show lexLt itemOrd (keyToksAll (toD x :: toDs xs)) (keyToksAll []) = false
    rw [toks_all_cons]
    simp only [keyToksAll]
    rw [lex_diff (O := itemOrd) (by simp)]
    rfl
  | x :: xs, y :: ys, b, ha, n1, n2, h => by
    have ha : (alikeA x y && alikeAs xs ys) = true := ha
    obtain ⟨a1, a2⟩ := Bool.and_eq_true_iff.mp ha
    have n1 : (noRef x && noRefs xs) = true := n1
    obtain ⟨n1, n1'⟩ := Bool.and_eq_true_iff.mp n1
    have n2 : (noRef y && noRefs ys) = true := n2
    obtain ⟨n2, n2'⟩ := Bool.and_eq_true_iff.mp n2
    have h : (match ltDs xs ys with
      | none => none
      | some r => if eqD x y then some r else ltD x y) = some b := h
    show lexLt itemOrd (keyToksAll (toD x :: toDs xs)) (keyToksAll (toD y :: toDs ys)) = b
    rw [dataLt_cons (alike_toD x y a1)]
    rw [eqv_eqD x y n1 n2]
    cases c : ltDs xs ys with
    | none =>
      rw [c] at h
      cases h
    | some r =>
      rw [c] at h
      by_cases z : eqD x y = true
      · rw [if_pos z]
        simp only [z, if_true] at h
        cases h
        exact ltDs_data xs ys _ a2 n1' n2' c
      · rw [if_neg z]
        have z : eqD x y = false := by simpa using z
        simp only [z, Bool.false_eq_true, if_false] at h
        exact ltD_data x y b a1 n1 n2 h
end
def leD (x y : AV) : Bool := !dataLt (toD y) (toD x)
theorem leD_eq : dataLe false toD = leD := by
  funext x y
  rfl
theorem leD_total : TotalLe leD := by
  rw [← leD_eq]
  exact sortLe_total (listOrd itemOrd) false fun b => keyToks (toD b)
/-- an item put behind those that are not greater -/
def insT (x : AV) : List AV → List AV
  | [] => [x]
  | y :: ys => if leD y x then y :: insT x ys else x :: y :: ys
theorem insT_mem {x z : AV} : ∀ {l : List AV}, z ∈ insT x l ↔ z = x ∨ z ∈ l
  | [] => by simp [insT]
  | y :: ys => by
    unfold insT
    split
    · rw [List.mem_cons, insT_mem, List.mem_cons]
      constructor
      · rintro (h | h | h)
        · exact .inr (.inl h)
        · exact .inl h
        · exact .inr (.inr h)
      · rintro (h | h | h)
        · exact .inr (.inl h)
        · exact .inl h
        · exact .inr (.inr h)
    · rw [List.mem_cons]
theorem insT_sorted (x : AV) : ∀ {l : List AV}, l.Pairwise (fun a b => leD a b = true) → (insT x l).Pairwise (fun a b => leD a b = true)
  | [], _ => by
    unfold insT
    exact List.pairwise_singleton _ _
  | y :: ys, h => by
    obtain ⟨h1, h2⟩ := List.pairwise_cons.mp h
    unfold insT
    split
    · rename_i c
      refine List.pairwise_cons.mpr ⟨fun z hz => ?_, insT_sorted x h2⟩
      rcases insT_mem.mp hz with e | hz
      · rw [e]
        exact c
      · exact h1 z hz
    · rename_i c
      have c2 : leD x y = true := by
        rcases leD_total.total y x with q | q
        · exact absurd q c
        · exact q
      refine List.pairwise_cons.mpr ⟨fun z hz => ?_, h⟩
      rcases List.mem_cons.mp hz with e | hz
      · rw [e]
        exact c2
      · exact leD_total.trans _ _ _ c2 (h1 z hz)
theorem insT_filter (x c : AV) : ∀ {l : List AV}, l.Pairwise (fun a b => leD a b = true) → (insT x l).filter (sameRank leD c) = l.filter (sameRank leD c) ++ (if sameRank leD c x then [x] else [])
  | [], _ => by
    unfold insT
    cases e : sameRank leD c x <;> simp [e]
  | y :: ys, h => by
    obtain ⟨h1, h2⟩ := List.pairwise_cons.mp h
    unfold insT
    split
    · rw [List.filter_cons, List.filter_cons, insT_filter x c h2]
      split <;> simp
    · rename_i q
      have none : sameRank leD c x = true → (y :: ys).filter (sameRank leD c) = [] := fun hx => by
        refine List.filter_eq_nil_iff.mpr fun z hz hs => q ?_
        have hx : (leD c x && leD x c) = true := hx
        have hs : (leD c z && leD z c) = true := hs
        obtain ⟨a1, a2⟩ := Bool.and_eq_true_iff.mp hx
        obtain ⟨b1, b2⟩ := Bool.and_eq_true_iff.mp hs
        have yz : leD y z = true := by
          rcases List.mem_cons.mp hz with e | hz
          · rw [e]
            exact leD_total.refl _
          · exact h1 z hz
        exact leD_total.trans _ _ _ (leD_total.trans _ _ _ yz b2) a1
      rw [List.filter_cons]
      by_cases e : sameRank leD c x = true
      · rw [if_pos e, if_pos e, none e]
        rfl
      · rw [if_neg e, if_neg e, List.append_nil]
def sortT (xs acc : List AV) : List AV := xs.foldl (fun a x => insT x a) acc
theorem sortT_is : ∀ (xs acc : List AV), acc.Pairwise (fun a b => leD a b = true) → (sortT xs acc).Pairwise (fun a b => leD a b = true) ∧ ∀ c, (sortT xs acc).filter (sameRank leD c) = acc.filter (sameRank leD c) ++ xs.filter (sameRank leD c)
  | [], acc, h => ⟨h, fun c => by simp [sortT]⟩
  | x :: xs, acc, h => by
    obtain ⟨a, b⟩ := sortT_is xs (insT x acc) (insT_sorted x h)
    refine ⟨a, fun c => ?_⟩
    show (sortT xs (insT x acc)).filter _ = _
    rw [b c, insT_filter x c h, List.append_assoc, List.filter_cons]
    by_cases e : sameRank leD c x = true
    · rw [if_pos e, if_pos e]
      rfl
    · rw [if_neg e, if_neg e]
      rfl
theorem sortT_merge (xs : List AV) : sortT xs [] = xs.mergeSort leD := by
  obtain ⟨a, b⟩ := sortT_is xs [] List.Pairwise.nil
  exact sort_unique leD_total a fun c => by rw [b c]; rfl
theorem insD_T {x : AV} : ∀ {l r : List AV}, (∀ y ∈ l, ∀ b, ltD x y = some b → dataLt (toD x) (toD y) = b) → insD x l = some r → r = insT x l
  | [], r, _, h => by
    cases h
    rfl
  | y :: ys, r, k, h => by
    have h : (match ltD x y with
      | none => none
      | some true => some (x :: y :: ys)
      | some false => (insD x ys).map (y :: ·)) = some r := h
    have st : insT x (y :: ys) = if leD y x then y :: insT x ys else x :: y :: ys := rfl
    rw [st]
    have le : leD y x = !dataLt (toD x) (toD y) := rfl
    rw [le]
    cases c : ltD x y with
    | none =>
      rw [c] at h
      cases h
    | some b =>
      rw [c] at h
      rw [k y (List.mem_cons_self ..) b c]
      cases b with
      | true =>
        cases h
        rfl
      | false =>
        obtain ⟨r', e1, e2⟩ := Option.map_eq_some_iff.mp h
        subst e2
        rw [insD_T (fun z hz => k z (List.mem_cons_of_mem _ hz)) e1]
        rfl
theorem sortD_none : ∀ xs : List AV, sortD xs none = none
  | [] => rfl
  | _ :: _ => rfl
theorem sortD_T {P : AV → Prop} (k : ∀ x, P x → ∀ y, P y → ∀ b, ltD x y = some b → dataLt (toD x) (toD y) = b) : ∀ (xs acc r : List AV), (∀ x ∈ xs, P x) → (∀ x ∈ acc, P x) → sortD xs (some acc) = some r → r = sortT xs acc
  | [], acc, r, _, _, h => by
    cases h
    rfl
  | x :: xs, acc, r, h1, h2, h => by
    have h : sortD xs (insD x acc) = some r := h
    cases c : insD x acc with
    | none =>
      rw [c, sortD_none] at h
      cases h
    | some a =>
      rw [c] at h
      have e := insD_T (fun y hy => k x (h1 x (List.mem_cons_self ..)) y (h2 y hy)) c
      have := sortD_T k xs a r (fun y hy => h1 y (List.mem_cons_of_mem _ hy)) (fun y hy => by
        rw [e] at hy
        rcases insT_mem.mp hy with q | q
        · rw [q]
          exact h1 x (List.mem_cons_self ..)
        · exact h2 y q) h
      rw [this, e]
      rfl
theorem sortOk_is {xs : List AV} (c : sortOk xs = true) : xs.length ≤ 8000000 ∧ ((∀ x ∈ xs, isFullTup x = true) ∨ ∀ x ∈ xs, isNoTup x = true) ∧ (∀ x ∈ xs, ∀ y ∈ xs, alikeA x y = true) ∧ xs.all (okD deep) = true := by
  unfold sortOk at c
  obtain ⟨c, c4⟩ := Bool.and_eq_true_iff.mp c
  obtain ⟨c, c3⟩ := Bool.and_eq_true_iff.mp c
  obtain ⟨c1, c2⟩ := Bool.and_eq_true_iff.mp c
  refine ⟨Nat.le_of_ble_eq_true c1, ?_, fun x hx y hy => ?_, c4⟩
  · rcases Bool.or_eq_true_iff.mp c2 with q | q
    · exact .inl fun x hx => List.all_eq_true.mp q x hx
    · exact .inr fun x hx => List.all_eq_true.mp q x hx
  · exact List.all_eq_true.mp (List.all_eq_true.mp c3 x hx) y hy
theorem sortOk_sort {xs ys : List AV} (c : sortOk xs = true) (e : sortD xs (some []) = some ys) : ys = xs.mergeSort (dataLe false toD) := by
  obtain ⟨_, _, c3, c4⟩ := sortOk_is c
  rw [leD_eq, ← sortT_merge]
  have nr : ∀ x ∈ xs, noRef x = true := fun x hx => okD_noRef deep x (List.all_eq_true.mp c4 x hx)
  exact sortD_T (P := fun x => x ∈ xs) (fun x hx y hy b h => ltD_data x y b (c3 x hx y hy) (nr x hx) (nr y hy) h) xs [] ys (fun _ h => h) (fun _ h => (by cases h)) e
theorem sortOk_alike {xs : List AV} (c : sortOk xs = true) : AllAlike (xs.map toD) := fun d hd d' hd' => by
  obtain ⟨x, hx, rfl⟩ := List.mem_map.mp hd
  obtain ⟨y, hy, rfl⟩ := List.mem_map.mp hd'
  exact alike_toD x y ((sortOk_is c).2.2.1 x hx y hy)
theorem sortOk_able {xs : List AV} (c : sortOk xs = true) : Sortable (xs.map toD) := by
  rcases (sortOk_is c).2.1 with q | q
  · refine .inl fun d hd => ?_
    obtain ⟨x, hx, rfl⟩ := List.mem_map.mp hd
    have := q x hx
    match x, this with
    | .tup (y :: ys), _ => exact ⟨toD y, toDs ys, rfl⟩
  · refine .inr fun d hd => ?_
    obtain ⟨x, hx, rfl⟩ := List.mem_map.mp hd
    have z := q x hx
    have nr := okD_noRef deep x (List.all_eq_true.mp (sortOk_is c).2.2.2 x hx)
    cases x with
    | non => cases z
    | tup _ => cases z
    | ref _ => cases nr
    | scr _ => cases nr
    | bl b => exact ⟨(fun e => nomatch e), (fun xs e => nomatch e)⟩
    | int b => exact ⟨(fun e => nomatch e), (fun xs e => nomatch e)⟩
    | str b => exact ⟨(fun e => nomatch e), (fun xs e => nomatch e)⟩

section
variable {prog : Program} {w : World} {A : Around} {E : Value → Shared → Prop} {s : Shared} {β : Type} {bs : List β} {enc : β → PyData} {R : Value → β → Prop}
theorem sorted_col {l : Addr} {P : List Value → Prop} {Q : Value → Shared → Prop}
    (hc : ∀ R' : List Value → Shared → Prop, (∀ h' tk vs, (∀ b o, s.heap.get? b = some o → h'.get? b = some o) → P vs → R' vs { s with heap := h', toks := tk }) → wpAny (model prog w) A.in1 (collect (.ref l)) R' E s)
    (e : ∀ vs, P vs → EachIs R vs bs) (er : ∀ vs, P vs → EachIs (fun v b => ∃ as, Reads s.heap v (enc b) as) vs bs) (hal : AllAlike (bs.map enc)) (hk : Sortable (bs.map enc)) (hL : bs.length ≤ sizeLine)
    (hu : ∀ b, b ∈ bs → A.units + 2 + (enc b).depth < cLine)
    (h : ∀ h' tk D n out, (∀ b o, s.heap.get? b = some o → h'.get? b = some o) → s.heap.get? D = none → h'.get? D = some (seqObj "list" (List.toArray out) n) → out.length = bs.length → EachIs R out (bs.mergeSort (dataLe false enc)) → Q (.ref D) { s with heap := h', toks := tk }) :
    wpAny (model prog w) A (call (.builtin "sorted") [.ref l]) Q E s := by
  refine call_function_entry kind_sorted plain_sorted entry_sorted (args_sorted1 _) ?_
  unfold Builtin.«sorted»
  refine wpAny_bind (m := checkCount "sorted" 1 1 _) (wpAny_pure ?_)
  refine wpAny_bind (hc _ fun h' tk vs hkp hp => ?_)
  have len := (e vs hp).length
  refine wpAny_bind (wpAny_newList ?_ (by rw [len]; exact hL))
  have lt : ∀ {b : Addr} {o : Obj}, h'.get? b = some o → b ≠ h'.objs.size := fun q => Nat.ne_of_lt (Heap.lt_size q)
  have ho : (h'.push { cls := .type "list", data := .seq vs.toArray }).get? h'.objs.size = some (seqObj "list" vs.toArray 0) := Heap.get?_push_size _ rfl
  have kp2 : ∀ b o, s.heap.get? b = some o → (sortingHeap (h'.push { cls := .type "list", data := .seq vs.toArray }) h'.objs.size vs).get? b = some o := fun b o q =>
    sortingHeap_old (lt (hkp b o q)) (Heap.get?_push_of_some _ (hkp b o q))
  have er' : EachIs (fun v b => ∃ as, Reads (sortingHeap (h'.push { cls := .type "list", data := .seq vs.toArray }) h'.objs.size vs) v (enc b) as) vs bs := (er vs hp).mono fun _ _ ⟨as, r⟩ => ⟨as, PyProof.Rows.Reads.keeps kp2 r⟩
  have S : SortsAt prog w A.in1.in1 { s with heap := sortingHeap (h'.push { cls := .type "list", data := .seq vs.toArray }) h'.objs.size vs, toks := tk } (dataKind (sortingHeap (h'.push { cls := .type "list", data := .seq vs.toArray }) h'.objs.size vs) (bs.map enc)) vs :=
    SortsAt.data (s := { s with heap := sortingHeap (h'.push { cls := .type "list", data := .seq vs.toArray }) h'.objs.size vs, toks := tk }) (each_map (R := fun v d => ∃ as, Reads (sortingHeap (h'.push { cls := .type "list", data := .seq vs.toArray }) h'.objs.size vs) v d as) enc er') hal hk (bound_map hu)
  have fin := sortVals_data (h' := sortingHeap (h'.push { cls := .type "list", data := .seq vs.toArray }) h'.objs.size vs) false (e vs hp) er' hal
  have len2 : (sortVals (dataKind (sortingHeap (h'.push { cls := .type "list", data := .seq vs.toArray }) h'.objs.size vs) (bs.map enc)) false vs vs).length = bs.length := by
    rw [sortVals_length false rfl]
    exact len
  obtain ⟨c, hc2⟩ := sortedHeap_at (vs := vs) (out := (sortVals (dataKind (sortingHeap (h'.push { cls := .type "list", data := .seq vs.toArray }) h'.objs.size vs) (bs.map enc)) false vs vs).toArray) ho
  refine wpAny_bind (wpAny_holding (wpAny_call_entry slot_list_sort ⟨_, ho, rfl⟩ entry_list_sort (list_sort_vals (s := { s with heap := h'.push { cls := .type "list", data := .seq vs.toArray }, toks := tk }) ho S (by rw [len]; exact hL) ⟨.none, rfl, ?_⟩) (args_list_sort _)))
  refine wpAny_pure ⟨_, rfl, h _ _ _ c _ (fun b o q => ?_) ?_ hc2 len2 fin⟩
  · refine (sortedHeap_old (lt (hkp b o q)) (Heap.lt_size (Heap.get?_push_of_some _ (hkp b o q)))).trans (Heap.get?_push_of_some _ (hkp b o q))
  · cases q : s.heap.get? h'.objs.size with
    | none => rfl
    | some o => exact absurd rfl (lt (hkp _ _ q))
end

theorem toDs_map : ∀ xs : List AV, toDs xs = xs.map toD
  | [] => rfl
  | x :: xs => by
    show toD x :: toDs xs = _
    rw [toDs_map xs]
    rfl
theorem depth_okD : ∀ (k : Nat) (v : AV), okD k v = true → (toD v).depth ≤ k
  | _, .non, _ => Nat.zero_le _
  | _, .bl _, _ => Nat.zero_le _
  | _, .int _, _ => Nat.zero_le _
  | _, .str _, _ => Nat.zero_le _
  | _, .ref _, _ => Nat.zero_le _
  | _, .scr _, _ => Nat.zero_le _
  | 0, .tup _, e => by cases e
  | k + 1, .tup xs, e => by
    have all : ∀ xs : List AV, xs.all (okD k) = true → PyData.depthAll (toDs xs) ≤ k := by
      intro xs
      induction xs with
      | nil => exact fun _ => Nat.zero_le _
      | cons x xs ih =>
        intro e
        rw [List.all_cons] at e
        obtain ⟨e1, e2⟩ := Bool.and_eq_true_iff.mp e
        have a := depth_okD k x e1
        have b := ih e2
        show max (toD x).depth (PyData.depthAll (toDs xs)) ≤ k
        omega
    exact Nat.succ_le_succ (all xs e)
variable {N : Cn} {CX : CXT} {E : XK} {X : Cx} {ι ι1 ι2 ι' : List Addr} {H H1 H2 H' : Hp} {h h1 h' : AH}
/-- a value that stands for a thing -/
def StR (N : Cn) (ι : List Addr) (H : Hp) (u : Value) (x : AV) : Prop := ∃ w, RelV w u ∧ VR N ι H x w
theorem each_st : ∀ {us : List Value} {xs : List AV}, EachIs (StR N ι H) us xs → ∃ ws, Vals ws us ∧ VRs N ι H xs ws
  | _, _, .nil => ⟨[], .nil, rfl⟩
  | _, _, .cons ⟨w, a, b⟩ t => by
    obtain ⟨ws, c, d⟩ := each_st t
    exact ⟨w :: ws, .cons a c, VRs.cons b d⟩
theorem st_each : ∀ {us : List Value} {ws : List V} {xs : List AV}, Vals ws us → VRs N ι H xs ws → EachIs (StR N ι H) us xs
  | _, _, [], a, b => by
    have b : _ = [] := b
    subst b
    cases a
    exact .nil
  | _, _, x :: xs, a, b => by
    obtain ⟨w, r, q, c, d⟩ := (show ∃ w r, _ = w :: r ∧ VR N ι H x w ∧ VRs N ι H xs r from b)
    subst q
    cases a with
    | cons a1 a2 => exact .cons ⟨w, a1, c⟩ (st_each a2 d)
theorem none_of {pins : List (Addr × Obj)} {σ : L2.St} {s : Shared} (I : L2.Inv X pins σ H s) {a : Addr} (e : s.heap.get? a = none) : H a = none := by
  cases q : H a with
  | none => rfl
  | some o =>
    obtain ⟨u, z⟩ := L2.objOk_get (I.hok a o q)
    rw [e] at z
    cases z
theorem sorted_fin (L : Ld N CX E X) {pins : List (Addr × Obj)} {σ : L2.St} {s : Shared} {l : Addr} {xs : List AV} {P : List Value → Prop} {Q : VK} (I : L2.Inv X pins σ H s) (R : Rel N ι h H)
    (hc : ∀ R' : List Value → Shared → Prop, (∀ h' tk vs, (∀ b o, s.heap.get? b = some o → h'.get? b = some o) → P vs → R' vs { s with heap := h', toks := tk }) → wpAny (model X.prog X.w) X.A.in1 (collect (.ref l)) R' X.xe s)
    (e : ∀ vs, P vs → ∃ ws, Vals ws vs ∧ VRs N ι H xs ws) (p : PostE N E ι H (sortedA xs h) Q) :
    wpAny (model X.prog X.w) X.A (call (.builtin "sorted") [.ref l]) (EP X pins σ Q) X.xe s := by
  unfold sortedA at p
  split at p
  · rename_i c
    split at p
    · rename_i ys ey
      obtain ⟨c1, c2, c3, c4⟩ := sortOk_is c
      refine sorted_col (enc := toD) (R := StR N ι H) (bs := xs) hc (fun vs hp => ?_) (fun vs hp => ?_) (sortOk_alike c) (sortOk_able c) (by rw [sizeLine_eq]; omega) (fun b hb => ?_) fun h' tk D n out kp e0 eD el ee => ?_
      · obtain ⟨ws, a, b⟩ := e vs hp
        exact st_each a b
      · obtain ⟨ws, a, b⟩ := e vs hp
        obtain ⟨d, _⟩ := okDs_shaped c4 b
        obtain ⟨as, ra⟩ := Dp.readsAll I (toDs xs) ws vs (L.K ▸ d) a
        rw [toDs_map] at ra
        exact readsAll_each toD ra
      · have d := List.all_eq_true.mp c4 b hb
        have d2 := depth_okD deep b d
        have := L.un
        have : deep = 40 := rfl
        omega
      · rw [← sortOk_sort c ey] at ee
        obtain ⟨ws, a, b⟩ := each_st ee
        have hn := none_of I e0
        refine ⟨.ref D, upd H D (.lst ws), I.laidN (t' := tk) kp e0 hn (show ObjOk X.prog X.w _ _ _ (.lst ws) from ⟨?_, out, n, a, eD⟩), rfl, finL p R b hn⟩
        rw [a.length, el, sizeLine_eq]
        omega
    · exact p.elim
  · exact p.elim
theorem cr_sortedA (L : Ld N CX E X) : CallR X (.builtin "sorted") (fun us H Q => ∃ ι h xs ws a, us = [.ref a] ∧ Rel N ι h H ∧ (SqL N.K H a ws ∨ SqT N.K H a ws) ∧ VRs N ι H xs ws ∧ PostE N E ι H (sortedA xs h) Q) := by
  intro pins s σ H xs us Q I rs ⟨ι, h, ys, ws, a, ex, R, hs, r, p⟩
  subst ex
  obtain ⟨u, rfl, ru⟩ := vals1 rs
  cases ru
  rcases hs with hs | hs
  · obtain ⟨its, rv, ⟨o, n, ho, hc, _, hd⟩, hz⟩ := I.list (L.K ▸ hs)
    refine sorted_fin L I R (P := fun vs => vs = its) (fun R' k => ?_) (fun vs e => ⟨ws, by rw [e]; exact rv, r⟩) p
    refine wpAny_collect_seq a (.inl rfl) ho hc hd (fun h' kp => ?_) (by rw [List.size_toArray, ← rv.length]; exact hz)
    exact k h' s.toks _ kp (by simp)
  · obtain ⟨its, rv, ⟨o, ho, hc, n, hd⟩, hz⟩ := I.tuple (L.K ▸ hs)
    refine sorted_fin L I R (P := fun vs => vs = its) (fun R' k => ?_) (fun vs e => ⟨ws, by rw [e]; exact rv, r⟩) p
    refine wpAny_collect_seq a (.inr rfl) ho hc hd (fun h' kp => ?_) (by rw [List.size_toArray, ← rv.length]; exact hz)
    exact k h' s.toks _ kp (by simp)
theorem keyAV_V : ∀ k : Key, VR N ι H (keyAV k) (kV k)
  | .inl _ => rfl
  | .inr _ => rfl
theorem cr_sortedK (L : Ld N CX E X) : CallR X (.builtin "sorted") (fun us H Q => ∃ ι h ks ws a, us = [.ref a] ∧ Rel N ι h H ∧ H a = some (.dK ws) ∧ DR N ι H ks ws ∧ PostE N E ι H (sortedA (ks.map fun p => keyAV p.1) h) Q) := by
  intro pins s σ H xs us Q I rs ⟨ι, h, ks, kvs, p0, ex, R, hk, r, p⟩
  subst ex
  obtain ⟨u, rfl, ru⟩ := vals1 rs
  cases ru
  obtain ⟨z, lo, vs, rk, hd⟩ := (show ObjOk X.prog X.w H s.heap p0 (.dK kvs) from I.hok p0 _ hk)
  obtain ⟨ep, hat⟩ := hd.dictAt
  have hl : kvs.length = vs.length := Paired.length rk
  refine sorted_fin L I R (P := fun us => Vals (kvs.map fun kv => kV kv.1) us) (fun R' k => ?_) (fun us e => ⟨_, e, ?_⟩) p
  · refine PySem.W.kdu_collect (A := X.A.in1) (PySem.W.kdl_dict (knd := mixKind X.prog X.w) (kvs := vs) (ep := ep) lo) (I.ok.hd L.calm) hat (by rw [← hl]; exact z) fun h' tk acc kp it => ?_
    refine k h' tk _ kp ?_
    have el : acc.toList.length = acc.size := by simp
    refine vals_of_at (by rw [List.length_map, el, it.1, hl]) fun j x w h1 h2 => ?_
    obtain ⟨k, y, hky, hi⟩ := it.2 j w (by rw [← Array.getElem?_toList]; exact h2)
    have e1 : (kvs.map (·.1))[j]? = some k := by
      rw [KV.keys rk, List.getElem?_map, hky] <;> rfl
    have e2 : (kvs.map fun kv => kV kv.1)[j]? = some (kV k) := by
      have e3 : (kvs.map fun kv => kV kv.1) = (kvs.map (·.1)).map kV := by rw [List.map_map] <;> rfl
      rw [e3, List.getElem?_map, e1] <;> rfl
    rw [e2] at h1
    cases h1
    exact keyIs_rel hi
  · clear p e z rk hd hat hl hk
    induction ks generalizing kvs with
    | nil =>
      have r : kvs = [] := r
      subst r
      exact rfl
    | cons v ks ih =>
      obtain ⟨w, r', q, _, b⟩ := (show ∃ w s, kvs = (v.1, w) :: s ∧ VR N ι H v.2 w ∧ DR N ι H ks s from r)
      subst q
      exact VRs.cons (keyAV_V v.1) (ih r' b)
end Ev

set_option Elab.async false
set_option linter.all false
set_option maxRecDepth 100000
set_option maxHeartbeats 4000000
set_option autoImplicit false
namespace Ev
open PySem PySem.Spec PyProof.Rows L2
variable {N : Cn} {CX : CXT} {E : XK} {X : Cx} {ι ι1 ι2 ι' : List Addr} {H H1 H2 H' : Hp} {h h1 h' : AH}

theorem toNix_eq (n : Nat) (i : Int) : toNix n i = ixN n i := by
  unfold toNix ixN
  by_cases a : 0 ≤ i
  · rw [if_pos (decide_eq_true a), if_pos a]
    by_cases b : i < n
    · rw [if_pos (decide_eq_true b), if_pos b]
    · rw [if_neg (by rw [decide_eq_false b]; simp), if_neg b]
  · rw [if_neg (by rw [decide_eq_false a]; simp), if_neg a]
    by_cases b : -(n : Int) ≤ i
    · rw [if_pos (decide_eq_true b), if_pos b]
    · rw [if_neg (by rw [decide_eq_false b]; simp), if_neg b]
theorem atA_V {xs : List AV} {ws : List V} (r : VRs N ι H xs ws) {i : Int} {v : AV} (e : atA xs i = some v) : ∃ w, atI ws i = some w ∧ VR N ι H v w := by
  unfold atA at e
  unfold atI
  rw [toNix_eq] at e
  rw [r.length]
  cases q : ixN xs.length i with
  | none =>
    rw [q] at e
    cases e
  | some j =>
    rw [q] at e
    exact (r.get j).1 v e
theorem ix_dict : IxR X (fun x y H Q => ∃ p kvs k v, x = .ref p ∧ y = kV k ∧ H p = some (.dK kvs) ∧ valV kvs k = some v ∧ X.A.units + 1 < cLine ∧ Q v H) := by
  intro value slice pins s σ H x y v u Q I rx ry h hs
  obtain ⟨p, kvs, k, z, rfl, rfl, hp, hk, hu, q⟩ := h
  cases rx
  have g : DGet H p (kV k) (some z) := hk ▸ DGet.k hp
  have hT := dict_typeIs I g
  unfold subscriptTail
  refine wpAny_bind ?_
  rw [getitemInPython_of_ne hT.not_modules]
  refine wpAny_bind (wpAny_specialOf hT PySem.F.slot_dict_getitem.lookup ?_)
  have fin : wpAny (model X.prog X.w) X.A (subscripted slice false (.ref p) u) (fun r s₃ => wpAny (model X.prog X.w) X.A (letTemporaryGo value (.ref p) r >>= fun _ => pure r) (EP X pins σ Q) X.xe s₃) X.xe s := by
    rw [hs]
    exact wpAny_operating (d_getItem hu I g ry fun w' s3 I3 rw' => wpAny_bind (wpAny_letTemporaryGo (wpAny_pure ⟨z, H, I3, rw', q⟩)))
  first
    | exact wpAny_pure (wpAny_bind fin)
    | exact wpAny_bind (wpAny_pure (wpAny_bind fin))
    | exact wpAny_bind fin
def rI (N : Cn) (E : XK) : R2 := fun x y H Q => ∃ ι h xa ya, Rel N ι h H ∧ VR N ι H xa x ∧ VR N ι H ya y ∧ PostE N E ι H (idxA xa ya h) Q
theorem finO {Q : VK} {o : Option AV} (p : PostE N E ι H (optR o h) Q) (R : Rel N ι h H) : ∃ v, o = some v ∧ ∀ w, VR N ι H v w → Q w H := by
  cases o with
  | none => exact p.elim
  | some v => exact ⟨v, rfl, fun w r => fin0 p R r⟩
theorem ix_A (L : Ld N CX E X) : IxR X (rI N E) := by
  intro value slice pins s σ H x y v u Q I rx ry ⟨ι, h, xa, ya, R, vx, vy, p⟩ hs
  unfold idxA at p
  split at p
  · rename_i xs
    obtain ⟨a, ws, rfl, sa, ra⟩ := VR.tup vx
    split at p
    · rename_i k
      cases VR.int vy
      obtain ⟨z, e, q⟩ := finO p R
      obtain ⟨w, ew, rw⟩ := atA_V ra e
      exact ix_tup value slice pins s σ H _ _ v u Q I rx ry ⟨a, ws, k, w, rfl, rfl, L.K ▸ sa.t, ew, q w rw⟩ hs
    · exact p.elim
  · rename_i n
    obtain ⟨a, ea, rfl⟩ := VR.rf vx
    split at p
    · rename_i xs g
      obtain ⟨ws, ha, ra⟩ := lst_at R ea g
      split at p
      · rename_i k
        cases VR.int vy
        obtain ⟨z, e, q⟩ := finO p R
        obtain ⟨w, ew, rw⟩ := atA_V ra e
        exact ix_list value slice pins s σ H _ _ v u Q I rx ry ⟨a, ws, k, w, rfl, rfl, .of ha, ew, q w rw⟩ hs
      · exact p.elim
    · rename_i ks g
      obtain ⟨ws, ha, ra⟩ := dk_at R ea g
      split at p
      · rename_i k ek
        have kx := keyOf_V ek vy
        subst kx
        obtain ⟨z, e, q⟩ := finO p R
        obtain ⟨w, ew, rw⟩ := (dGet_V k ra).1 z e
        exact ix_dict value slice pins s σ H _ _ v u Q I rx ry ⟨a, ws, k, w, rfl, rfl, ha, ew, by have := L.un; omega, q w rw⟩ hs
      · exact p.elim
    · exact p.elim
  · exact p.elim

theorem sIx_eq (n d : Nat) (o : Option Int) : sIx n d o = HT.sIx n d o := by
  cases o with
  | none => rfl
  | some i =>
    show (if decide (i < 0) then (i + n).toNat else min i.toNat n) = (if i < 0 then (i + (n : Int)).toNat else min i.toNat n)
    by_cases a : i < 0
    · rw [if_pos (decide_eq_true a), if_pos a]
    · rw [if_neg (by rw [decide_eq_false a]; simp), if_neg a]
theorem cut_V {xs : List AV} {ws : List V} (r : VRs N ι H xs ws) (lo hi : Option Int) : VRs N ι H (cut xs lo hi) (cutV ws lo hi) := by
  unfold cut cutV
  rw [sIx_eq, sIx_eq, r.length]
  exact VRs.take _ (VRs.drop _ r)
theorem cut_whole {α : Type} (xs : List α) (lo hi : Option Int) (e : HT.sIx xs.length 0 lo = 0 ∧ HT.sIx xs.length xs.length hi = xs.length) : cut xs lo hi = xs := by
  unfold cut
  rw [sIx_eq, sIx_eq, e.1, e.2]
  simp
theorem scr_sq {a : Addr} {ws : List V} (h : ScrAt N.K H a ws) : SqL N.K H a ws := by
  rcases h with ⟨o, h⟩ | h
  · exact .inl (.inr ⟨o, h⟩)
  · exact .inr h
theorem scr_V : ∀ ns : List Int, VRs N ι H (ns.map .int) (ns.map V.int)
  | [] => rfl
  | i :: ns => ⟨.int i, _, rfl, rfl, scr_V ns⟩
def rSl (N : Cn) (E : XK) : V → Option Int → Option Int → Hp → VK → Prop := fun x lo hi H Q => ∃ ι h xa, Rel N ι h H ∧ VR N ι H xa x ∧ PostE N E ι H (slcA xa lo hi h) Q
theorem sl_A (L : Ld N CX E X) : SlR X (rSl N E) := by
  intro pins s σ H x v vl vu lo hi sl Q I rx is pl pu ⟨ι, h, xa, R, vx, p⟩
  unfold slcA at p
  split at p
  · rename_i xs
    obtain ⟨a, ws, rfl, sa, ra⟩ := VR.tup vx
    refine Low.sl_tupF pins s σ H _ v vl vu lo hi sl Q I rx is pl pu ⟨a, ws, rfl, L.K ▸ sa.t, fun e => ?_, fun _ => finT p R (cut_V ra lo hi)⟩
    have z := cut_whole xs lo hi (by rw [← ra.length]; exact e)
    rw [z] at p
    exact fin0 p R ⟨a, ws, rfl, sa, ra⟩
  · rename_i n
    obtain ⟨a, ea, rfl⟩ := VR.rf vx
    split at p
    · rename_i xs g
      obtain ⟨ws, ha, ra⟩ := listAt_sq R ea g
      exact sl_list pins s σ H _ v vl vu lo hi sl Q I rx is pl pu ⟨a, ws, rfl, L.K ▸ ha, fun q hq => finL p R (cut_V ra lo hi) hq⟩
    · exact p.elim
  · rename_i ns
    obtain ⟨a, rfl, ha⟩ := VR.sc vx
    exact sl_list pins s σ H _ v vl vu lo hi sl Q I rx is pl pu ⟨a, _, rfl, L.K ▸ scr_sq ha, fun q hq => finL p R (cut_V (scr_V ns) lo hi) hq⟩
  · exact p.elim

theorem truth_V {v : AV} {w : V} {b : Bool} (e : truth v h = some b) (r : VR N ι H v w) : w = .bl b := by
  unfold truth at e
  split at e
  · cases e
    exact VR.bl r
  · cases e

theorem intsOf_V : ∀ {xs : List AV} {is : List Int} {ws : List V}, intsOf xs = some is → VRs N ι H xs ws → ws = is.map V.int
  | [], is, ws, e, r => by
    have r : ws = [] := r
    cases e
    exact r
  | .int i :: xs, is, ws, e, r => by
    obtain ⟨w, r', q, a, b⟩ := (show ∃ w r, ws = w :: r ∧ VR N ι H (.int i) w ∧ VRs N ι H xs r from r)
    have e : (intsOf xs).map (i :: ·) = some is := e
    obtain ⟨js, e1, e2⟩ := Option.map_eq_some_iff.mp e
    subst e2
    rw [q, VR.int a, intsOf_V e1 b]
    rfl
  | .non :: _, _, _, e, _ => by cases e
  | .bl _ :: _, _, _, e, _ => by cases e
  | .str _ :: _, _, _, e, _ => by cases e
  | .tup _ :: _, _, _, e, _ => by cases e
  | .ref _ :: _, _, _, e, _ => by cases e
  | .scr _ :: _, _, _, e, _ => by cases e
theorem boolsOf_V : ∀ {xs : List AV} {is : List Bool} {ws : List V}, boolsOf xs = some is → VRs N ι H xs ws → ws = is.map V.bl
  | [], is, ws, e, r => by
    have r : ws = [] := r
    cases e
    exact r
  | .bl i :: xs, is, ws, e, r => by
    obtain ⟨w, r', q, a, b⟩ := (show ∃ w r, ws = w :: r ∧ VR N ι H (.bl i) w ∧ VRs N ι H xs r from r)
    have e : (boolsOf xs).map (i :: ·) = some is := e
    obtain ⟨js, e1, e2⟩ := Option.map_eq_some_iff.mp e
    subst e2
    rw [q, VR.bl a, boolsOf_V e1 b]
    rfl
  | .non :: _, _, _, e, _ => by cases e
  | .int _ :: _, _, _, e, _ => by cases e
  | .str _ :: _, _, _, e, _ => by cases e
  | .tup _ :: _, _, _, e, _ => by cases e
  | .ref _ :: _, _, _, e, _ => by cases e
  | .scr _ :: _, _, _, e, _ => by cases e
theorem maxI_is : ∀ (r : List Int) (m : Int), maxI m r ∈ m :: r ∧ ∀ y ∈ m :: r, y ≤ maxI m r
  | [], m => ⟨by simp [maxI], by simp [maxI]⟩
  | i :: r, m => by
    show (if decide (m < i) then maxI i r else maxI m r) ∈ m :: i :: r ∧ ∀ y ∈ m :: i :: r, y ≤ (if decide (m < i) then maxI i r else maxI m r)
    by_cases c : m < i
    · rw [if_pos (decide_eq_true c)]
      obtain ⟨a, b⟩ := maxI_is r i
      refine ⟨List.mem_cons_of_mem _ a, fun y hy => ?_⟩
      rcases List.mem_cons.mp hy with e | hy
      · have := b i (by simp)
        omega
      · exact b y hy
    · rw [if_neg (by rw [decide_eq_false c]; simp)]
      obtain ⟨a, b⟩ := maxI_is r m
      refine ⟨?_, fun y hy => ?_⟩
      · rcases List.mem_cons.mp a with e | e
        · rw [e]
          simp
        · exact List.mem_cons_of_mem _ (List.mem_cons_of_mem _ e)
      · rcases List.mem_cons.mp hy with e | hy
        · rw [e]
          exact b m (by simp)
        · rcases List.mem_cons.mp hy with e | hy
          · have := b m (by simp)
            omega
          · exact b y (List.mem_cons_of_mem _ hy)
theorem minI_is : ∀ (r : List Int) (m : Int), minI m r ∈ m :: r ∧ ∀ y ∈ m :: r, minI m r ≤ y
  | [], m => ⟨by simp [minI], by simp [minI]⟩
  | i :: r, m => by
    show (if decide (i < m) then minI i r else minI m r) ∈ m :: i :: r ∧ ∀ y ∈ m :: i :: r, (if decide (i < m) then minI i r else minI m r) ≤ y
    by_cases c : i < m
    · rw [if_pos (decide_eq_true c)]
      obtain ⟨a, b⟩ := minI_is r i
      refine ⟨List.mem_cons_of_mem _ a, fun y hy => ?_⟩
      rcases List.mem_cons.mp hy with e | hy
      · have := b i (by simp)
        omega
      · exact b y hy
    · rw [if_neg (by rw [decide_eq_false c]; simp)]
      obtain ⟨a, b⟩ := minI_is r m
      refine ⟨?_, fun y hy => ?_⟩
      · rcases List.mem_cons.mp a with e | e
        · rw [e]
          simp
        · exact List.mem_cons_of_mem _ (List.mem_cons_of_mem _ e)
      · rcases List.mem_cons.mp hy with e | hy
        · rw [e]
          exact b m (by simp)
        · rcases List.mem_cons.mp hy with e | hy
          · have := b m (by simp)
            omega
          · exact b y (List.mem_cons_of_mem _ hy)
theorem sumI_is : ∀ (r : List Int) (m : Int), sumI m r = m + r.sum
  | [], m => by simp [sumI]
  | i :: r, m => by
    show sumI (m + i) r = _
    rw [sumI_is r (m + i), List.sum_cons]
    omega
theorem VRs.one {x : AV} {ws : List V} (r : VRs N ι H [x] ws) : ∃ w, ws = [w] ∧ VR N ι H x w := by
  obtain ⟨w, r', e, a, b⟩ := (show ∃ w r, ws = w :: r ∧ VR N ι H x w ∧ VRs N ι H [] r from r)
  have b : r' = [] := b
  subst b
  exact ⟨w, e, a⟩
theorem VRs.two {x y : AV} {ws : List V} (r : VRs N ι H [x, y] ws) : ∃ w z, ws = [w, z] ∧ VR N ι H x w ∧ VR N ι H y z := by
  obtain ⟨w, r', e, a, b⟩ := (show ∃ w r, ws = w :: r ∧ VR N ι H x w ∧ VRs N ι H [y] r from r)
  obtain ⟨z, e', b'⟩ := VRs.one b
  subst e'
  exact ⟨w, z, e, a, b'⟩
def bltV : BI → Value
  | .len => .builtin "len"
  | .max1 => .builtin "max"
  | .min1 => .builtin "min"
  | .sum1 => .builtin "sum"
  | .all1 => .builtin "all"
  | .any1 => .builtin "any"
  | .sorted1 => .builtin "sorted"
  | .abs1 => .builtin "abs"
  | .int1 => .type "int"
  | .list1 => .type "list"
  | .tuple1 => .type "tuple"
  | .dict1 => .type "dict"
  | .dictZ => .none
  | .tupleZ => .none
def rBl (N : Cn) (E : XK) (b : BI) : List V → Hp → VK → Prop := fun xs H Q => ∃ ι h vs, Rel N ι h H ∧ VRs N ι H vs xs ∧ PostE N E ι H (bltA b vs h) Q
theorem listOf_V (R : Rel N ι h H) {v : AV} {w : V} {xs : List AV} (e : listOf v h = some xs) (r : VR N ι H v w) : ∃ a ws, w = .ref a ∧ SqL N.K H a ws ∧ VRs N ι H xs ws := by
  unfold listOf at e
  split at e
  · rename_i n
    obtain ⟨a, ea, rfl⟩ := VR.rf r
    obtain ⟨ws, q, r⟩ := listAt_sq R ea e
    exact ⟨a, ws, rfl, q, r⟩
  · cases e
theorem itemsOf_V (R : Rel N ι h H) {v : AV} {w : V} {xs : List AV} (e : itemsOf v h = some xs) (r : VR N ι H v w) : ∃ a ws, w = .ref a ∧ (SqL N.K H a ws ∨ (SqP N.K H a ws ∧ v = .tup xs)) ∧ VRs N ι H xs ws := by
  unfold itemsOf at e
  split at e
  · cases e
    obtain ⟨a, ws, rfl, sa, ra⟩ := VR.tup r
    exact ⟨a, ws, rfl, .inr ⟨sa, rfl⟩, ra⟩
  · rename_i n
    obtain ⟨a, ea, rfl⟩ := VR.rf r
    obtain ⟨ws, q, r⟩ := listAt_sq R ea e
    exact ⟨a, ws, rfl, .inl q, r⟩
  · cases e
theorem max_tup {prog : Program} {w : World} {A : Around} {E : Value → Shared → Prop} {s : Shared} {l : Addr} {xs : Array (Int × Tok)} {Q : Value → Shared → Prop} (hh : A.handled = none) (hl : s.heap.IsTuple l (intItems xs)) (hne : 0 < xs.size)
    (h : ∀ v h' tk, (intItems xs)[argBest (fun i j => decide (numAt xs i > numAt xs j)) (xs.size - 1)]? = some v → (∀ b o, s.heap.get? b = some o → h'.get? b = some o) → Q v { s with heap := h', toks := tk }) :
    wpAny (model prog w) A (call (.builtin "max") [.ref l]) Q E s := by
  have hlt : l < s.heap.objs.size := by obtain ⟨_, e, _⟩ := hl; exact Heap.lt_size e
  refine call_max_walk (wpAny_pyIter_tuple hl ?_)
  refine ⟨_, _, _, _, _, _, _, rfl, Walks.tuple (A := A.in1) hh _ l (Nat.ne_of_lt hlt) (intItems xs), ⟨⟨_, Heap.get?_push_size _ rfl, rfl, rfl⟩, hl.push _⟩, (fun b hb => ?_), by simpa [intItems] using hne, CmpOf.ints_gt (numAt xs) (fun _ _ => intItems_at), fun v h' tk hP hk => ?_⟩
  · show b < (s.heap.push _).objs.size
    rw [Heap.size_push]
    rcases List.mem_cons.mp hb with rfl | hb
    · exact Nat.lt_succ_self _
    · rcases List.mem_cons.mp hb with rfl | hb
      · exact Nat.lt_succ_of_lt hlt
      · cases hb
  · refine h v h' tk (by simpa [intItems] using hP) fun b o e => hk b o (fun hm => ?_) (Heap.get?_push_of_some _ e)
    rcases List.mem_cons.mp hm with e1 | hm
    · exact absurd (e1 ▸ Heap.lt_size e) (Nat.lt_irrefl _)
    · cases hm
theorem max_rawT {prog : Program} {w : World} {A : Around} {E : Value → Shared → Prop} {s : Shared} {l : Addr} {its : List Value} {ns : List Int} {Q : Value → Shared → Prop} (hh : A.handled = none) (hl : s.heap.IsTuple l its.toArray) (hi : IntsAre its ns) (hne : 0 < ns.length)
    (h : ∀ h' tk M t', (∀ b o, s.heap.get? b = some o → h'.get? b = some o) → M ∈ ns → (∀ a, a ∈ ns → a ≤ M) → Q (.int M t') { s with heap := h', toks := tk }) : wpAny (model prog w) A (call (.builtin "max") [.ref l]) Q E s := by
  obtain ⟨xs, e⟩ := hi.allInts.items
  have hn : numsOf (intItems xs).toList = ns := by rw [← e]; exact hi.numsOf
  rw [nums_intItems] at hn
  subst hn
  rw [e] at hl
  have hsz : 0 < xs.size := by simpa using hne
  refine max_tup hh hl hsz fun v h' tk hv hk => ?_
  obtain ⟨t, rfl⟩ := intItems_at hv
  obtain ⟨h1, h2⟩ := argBest_gt (numAt xs) (xs.size - 1)
  refine h h' tk _ t hk ?_ fun a ha => ?_
  · rw [numAt_eq]; exact PySem.getD_mem (by rw [List.length_map, Array.length_toList]; omega)
  · obtain ⟨j, hj, rfl⟩ := mem_getD ha
    rw [List.length_map, Array.length_toList] at hj
    rw [← numAt_eq]; exact h2 j (by omega)
theorem cr_maxT (L : Ld N CX E X) {a : Addr} {is : List Int} {i : Int} {r : List Int} (e : is = i :: r) : CallR X (.builtin "max") (fun xs H Q => xs = [.ref a] ∧ SqT N.K H a (is.map V.int) ∧ Q (.int (maxI i r)) H) := by
  intro pins s σ H xs us Q I rs ⟨ex, hs, q⟩
  subst ex e
  obtain ⟨its, rv, p, hz⟩ := I.tuple (L.K ▸ hs)
  obtain ⟨u, rfl, ru⟩ := vals1 rs
  cases ru
  refine max_rawT (I.ok.hd L.calm) p (Vals.ints rv) (by simp) fun h' tk M t' hk hm hy => ⟨.int M, H, I.kept (t' := tk) hk, ⟨t', rfl⟩, ?_⟩
  obtain ⟨a1, a2⟩ := maxI_is r i
  have : M = maxI i r := Int.le_antisymm (a2 M hm) (hy _ a1)
  rw [this]
  exact q
theorem DR.keys : ∀ {ks : List (Key × AV)} {ws : List (Key × V)}, DR N ι H ks ws → ws.map (·.1) = ks.map (·.1)
  | [], _, h => by
    have e : _ = [] := h
    rw [e]
    rfl
  | v :: vs, _, h => by
    obtain ⟨w, r, e, _, b⟩ := (show ∃ w r, _ = (v.1, w) :: r ∧ VR N ι H v.2 w ∧ DR N ι H vs r from h)
    rw [e, List.map_cons, List.map_cons, DR.keys b]
theorem putK_pos {q : Key} {u w : V} {r : List (Key × V)} (n : q ∉ r.map (·.1)) : putK ((q, u) :: r) q w = (q, w) :: r := by
  unfold putK
  rw [if_pos (by simp)]
  rw [List.map_cons, if_pos rfl]
  congr 1
  rw [show r = r.map id by simp]
  rw [List.map_map]
  apply List.map_congr_left
  intro p m
  show (if p.1 = q then (p.1, w) else p) = p
  rw [if_neg]
  intro e
  exact n (List.mem_map.mpr ⟨p, m, e⟩)
theorem putK_neg {q k : Key} {u w : V} {r : List (Key × V)} (n : ¬ q = k) : putK ((q, u) :: r) k w = (q, u) :: putK r k w := by
  unfold putK
  rw [List.any_cons, decide_eq_false n, Bool.false_or]
  split
  · rw [List.map_cons, if_neg n]
  · rfl
theorem put_V {k : Key} {v : AV} {w : V} (rv : VR N ι H v w) : ∀ {ks : List (Key × AV)} {ws : List (Key × V)}, DR N ι H ks ws → (ks.map (·.1)).Nodup → DR N ι H (dPut k v ks) (putK ws k w)
  | [], ws, r, _ => by
    have r : ws = [] := r
    subst r
    exact ⟨w, [], rfl, rv, rfl⟩
  | (q, u) :: ks, ws, r, nd => by
    obtain ⟨z, r', e, a, b⟩ := (show ∃ w s, ws = (q, w) :: s ∧ VR N ι H u w ∧ DR N ι H ks s from r)
    subst e
    rw [List.map_cons, List.nodup_cons] at nd
    show DR N ι H (if keyEq q k then (q, v) :: ks else (q, u) :: dPut k v ks) _
    rw [keyEq_eq]
    by_cases e : q = k
    · subst e
      rw [if_pos (decide_eq_true rfl), putK_pos (by rw [b.keys]; exact nd.1)]
      exact ⟨w, r', rfl, rv, b⟩
    · rw [if_neg (by rw [decide_eq_false e]; simp), putK_neg e]
      exact ⟨z, _, rfl, a, put_V rv b nd.2⟩
theorem dPut_mem {k : Key} {v : AV} {x : Key} : ∀ {ks : List (Key × AV)}, x ∈ (dPut k v ks).map (·.1) → x = k ∨ x ∈ ks.map (·.1)
  | [], m => by
    have m : x ∈ [k] := m
    exact .inl (List.mem_singleton.mp m)
  | (q, u) :: ks, m => by
    have m : x ∈ (if keyEq q k then (q, v) :: ks else (q, u) :: dPut k v ks).map (·.1) := m
    split at m
    · exact .inr m
    · rcases List.mem_cons.mp m with e | m
      · exact .inr (e ▸ List.mem_cons_self ..)
      · rcases dPut_mem m with e | m
        · exact .inl e
        · exact .inr (List.mem_cons_of_mem _ m)
theorem dPut_nd {k : Key} {v : AV} : ∀ {ks : List (Key × AV)}, (ks.map (·.1)).Nodup → ((dPut k v ks).map (·.1)).Nodup
  | [], _ => by
    show [k].Nodup
    simp
  | (q, u) :: ks, nd => by
    show ((if keyEq q k then (q, v) :: ks else (q, u) :: dPut k v ks).map (·.1)).Nodup
    rw [keyEq_eq]
    by_cases e : q = k
    · rw [if_pos (decide_eq_true e)]
      exact nd
    · rw [if_neg (by rw [decide_eq_false e]; simp), List.map_cons, List.nodup_cons]
      rw [List.map_cons, List.nodup_cons] at nd
      refine ⟨fun m => ?_, dPut_nd nd.2⟩
      rcases dPut_mem m with z | z
      · exact e z
      · exact nd.1 z
theorem del_V {k : Key} : ∀ {ks : List (Key × AV)} {ws : List (Key × V)}, DR N ι H ks ws → (ks.map (·.1)).Nodup → DR N ι H (dDel k ks) (dropK ws k)
  | [], ws, r, _ => by
    have r : ws = [] := r
    subst r
    exact rfl
  | (q, u) :: ks, ws, r, nd => by
    obtain ⟨z, r', e, a, b⟩ := (show ∃ w s, ws = (q, w) :: s ∧ VR N ι H u w ∧ DR N ι H ks s from r)
    subst e
    rw [List.map_cons, List.nodup_cons] at nd
    show DR N ι H (if keyEq q k then ks else (q, u) :: dDel k ks) _
    unfold dropK
    rw [keyEq_eq, List.filter_cons]
    by_cases e : q = k
    · subst e
      rw [if_pos (decide_eq_true rfl), if_neg (by simp)]
      rw [List.filter_eq_self.mpr]
      · exact b
      · intro p m
        refine decide_eq_true fun e => nd.1 ?_
        rw [← b.keys]
        exact List.mem_map.mpr ⟨p, m, e⟩
    · rw [if_neg (by rw [decide_eq_false e]; simp), if_pos (decide_eq_true e)]
      exact ⟨z, _, rfl, a, del_V b nd.2⟩
theorem dDel_mem {k x : Key} : ∀ {ks : List (Key × AV)}, x ∈ (dDel k ks).map (·.1) → x ∈ ks.map (·.1)
  | [], m => m
  | (q, u) :: ks, m => by
    have m : x ∈ (if keyEq q k then ks else (q, u) :: dDel k ks).map (·.1) := m
    split at m
    · exact List.mem_cons_of_mem _ m
    · rcases List.mem_cons.mp m with e | m
      · exact e ▸ List.mem_cons_self ..
      · exact List.mem_cons_of_mem _ (dDel_mem m)
theorem dDel_nd {k : Key} : ∀ {ks : List (Key × AV)}, (ks.map (·.1)).Nodup → ((dDel k ks).map (·.1)).Nodup
  | [], _ => List.nodup_nil
  | (q, u) :: ks, nd => by
    rw [List.map_cons, List.nodup_cons] at nd
    show ((if keyEq q k then ks else (q, u) :: dDel k ks).map (·.1)).Nodup
    split
    · exact nd.2
    · rw [List.map_cons, List.nodup_cons]
      exact ⟨fun m => nd.1 (dDel_mem m), dDel_nd nd.2⟩
theorem merge_V : ∀ (xs : List AV) (ws : List V) (acc ks : List (Key × AV)) (wacc : List (Key × V)), VRs N ι H xs ws → dMerge acc xs = some ks → DR N ι H acc wacc → (acc.map (·.1)).Nodup →
    ∃ (ps : List Addr) (kvs : List (Key × V)), ws = ps.map V.ref ∧ Paired (fun p kv => SqP N.K H p [kV kv.1, kv.2]) ps kvs ∧ DR N ι H ks (mergeK wacc kvs) ∧ (ks.map (·.1)).Nodup
  | [], ws, acc, ks, wacc, r, e, d, nd => by
    have r : ws = [] := r
    have e : some acc = some ks := e
    cases e
    exact ⟨[], [], r, .nil, d, nd⟩
  | .tup [k, v] :: xs, ws, acc, ks, wacc, r, e, d, nd => by
    obtain ⟨w, r', q, a, b⟩ := (show ∃ w r, ws = w :: r ∧ VR N ι H (.tup [k, v]) w ∧ VRs N ι H xs r from r)
    subst q
    obtain ⟨p, zs, rfl, sp, rz⟩ := VR.tup a
    obtain ⟨kw, vw, rfl, rk, rv⟩ := VRs.two rz
    have e : (match keyOf k with
      | some q => dMerge (dPut q v acc) xs
      | none => none) = some ks := e
    split at e
    · rename_i q eq
      have kx := keyOf_V eq rk
      subst kx
      obtain ⟨ps, kvs, h1, h2, h3, h4⟩ := merge_V xs r' (dPut q v acc) ks (putK wacc q vw) b e (put_V rv d nd) (dPut_nd nd)
      exact ⟨p :: ps, (q, vw) :: kvs, by rw [List.map_cons, h1], .cons sp h2, h3, h4⟩
    · cases e
  | .non :: _, _, _, _, _, _, e, _, _ => by cases e
  | .bl _ :: _, _, _, _, _, _, e, _, _ => by cases e
  | .int _ :: _, _, _, _, _, _, e, _, _ => by cases e
  | .str _ :: _, _, _, _, _, _, e, _, _ => by cases e
  | .ref _ :: _, _, _, _, _, _, e, _, _ => by cases e
  | .scr _ :: _, _, _, _, _, _, e, _, _ => by cases e
  | .tup [] :: _, _, _, _, _, _, e, _, _ => by cases e
  | .tup [_] :: _, _, _, _, _, _, e, _, _ => by cases e
  | .tup (_ :: _ :: _ :: _) :: _, _, _, _, _, _, e, _, _ => by cases e
theorem plainT (L : Ld N CX E X) {pins : List (Addr × Obj)} {σ : L2.St} {s : Shared} (I : Inv X pins σ H s) {a : Addr} {ws : List V} (q : SqP N.K H a ws) : ∃ its : List Value, Vals ws its ∧ PlainSeq "tuple" s.heap a its.toArray ∧ ws.length ≤ sizeLine := by
  rcases q with ⟨o, e, d⟩ | ⟨o, its, n, e, c, d, dt, z, r⟩
  · obtain ⟨g, z, its, r, o', g', c, n, dt⟩ := (show ObjOk X.prog X.w H s.heap a (.frz o (.tup ws)) from I.hok a _ e)
    rw [g] at g'
    cases g'
    exact ⟨its, r, ⟨o, n, g, c, d, dt⟩, z⟩
  · have g : s.heap.get? a = some o := I.kIn a o (L.K ▸ e)
    exact ⟨its.toList, r, ⟨o, n, g, c, d, by simpa using dt⟩, by rw [r.length]; simpa using z⟩
theorem pairs_ofP (L : Ld N CX E X) {pins : List (Addr × Obj)} {σ : L2.St} {s : Shared} (I : Inv X pins σ H s) : ∀ {ps : List Addr} {kvs : List (Key × V)}, Paired (fun p kv => SqP N.K H p [kV kv.1, kv.2]) ps kvs →
    ∃ (prs : List (Key × Value)) (pvs : List (Value × Value)), KV kvs prs ∧ prs.length = ps.length ∧ pvs.length = ps.length ∧ ∀ (j : Nat) (k v : Value), pvs[j]? = some (k, v) → ∃ b q, ps[j]? = some b ∧ s.heap.IsTuple b #[k, v] ∧ prs[j]? = some (q, v) ∧ keyIs q k = true
  | _, _, .nil => ⟨[], [], .nil, rfl, rfl, fun j k v e => by simp at e⟩
  | _, _, .cons (a := p) (b := kv) h t => by
    obtain ⟨prs, pvs, r, hl, hl2, hp⟩ := pairs_ofP L I t
    obtain ⟨its, rv, ht, _⟩ := I.tuple (L.K ▸ h.t)
    obtain ⟨u, y, ei, ru, ry⟩ := vals2 rv
    subst ei
    refine ⟨(kv.1, y) :: prs, (u, y) :: pvs, .cons ⟨rfl, ry⟩ r, by rw [List.length_cons, List.length_cons, hl], by rw [List.length_cons, List.length_cons, hl2], fun j k v e => ?_⟩
    cases j with
    | zero =>
      have e' : (u, y) = (k, v) := Option.some.inj e
      cases e'
      exact ⟨p, kv.1, rfl, ht, rfl, kV_is (P := X.prog) (w := X.w) ru⟩
    | succ j =>
      obtain ⟨b, q, e1, e2, e3, e4⟩ := hp j k v (by simpa using e)
      exact ⟨b, q, by simpa using e1, e2, by simpa using e3, e4⟩
theorem dMerge_V (L : Ld N CX E X) {h : AH} {xs : List AV} {ks : List (Key × AV)} (R : Rel N ι h H) (e : dMerge [] xs = some ks) {a : Addr} {ws : List V} (s : SqL N.K H a ws ∨ SqP N.K H a ws) (r : VRs N ι H xs ws) (hl : xs.length ≤ 8000000) :
    CallR X (.type "dict") (fun ys H' Q => H' = H ∧ ys = [.ref a] ∧ PostE N E ι H (.ok (.ref h.n) (h.push (.dct ks))) Q) := by
  intro pins st σ H0 ys us Q I rs ⟨eH, ey, p⟩
  subst eH ey
  obtain ⟨ps, kvs, h1, h2, h3, h4⟩ := merge_V xs ws [] ks [] r e rfl List.nodup_nil
  subst h1
  rcases s with s | s
  · exact call_dictP L.calm pins st σ H0 _ us Q I rs ⟨a, ps, kvs, rfl, L.K ▸ s, Paired.mapP h2 fun _ _ z => L.K ▸ z.t, fun q hq => finD p R h4 h3 hq⟩
  · obtain ⟨its, rv, pl, z⟩ := plainT L I s
    obtain ⟨u, eu, ru⟩ := vals1 rs
    subst eu
    cases ru
    have ei := refs_at rv
    subst ei
    rw [List.length_map] at z
    obtain ⟨prs, pvs, rel, hl1, hl2, hp⟩ := pairs_ofP L I h2
    have items : PairItems st.heap (ps.map Value.ref).toArray (fun j => ps.getD j 0) pvs := ⟨by simp [hl2], fun j k v ej => by
      obtain ⟨b, q, e1, e2, e3, e4⟩ := hp j k v ej
      refine ⟨by simp [e1], ?_⟩
      show PairAt st.heap (ps.getD j 0) k v
      rw [List.getD_eq_getElem?_getD, e1]
      exact .inl e2⟩
    refine PySem.call_dict_pairs (knd := mixKind X.prog X.w) (kvs := prs) (PairArg.tuple a _ (fun j => ps.getD j 0) pvs) (I.ok.hd L.calm) ⟨pl, items⟩ ⟨by rw [hl1, hl2], fun i k v hr => ?_⟩ (by rw [hl2]; exact z) fun h' tk hd' kp => ?_
    · obtain ⟨b, q, e1, e2, e3, e4⟩ := hp i k v hr
      exact ⟨q, e3, e4⟩
    · have hm : (st.heap.objs.size == sysModules) = false := beq_eq_false_iff_ne.mpr (Nat.ne_of_gt I.big)
      have hlen : (mergeK [] kvs).length ≤ sizeLine := by
        refine Nat.le_trans (length_mergeK kvs []) ?_
        rw [List.length_nil, Nat.zero_add, rel.length, hl1]
        exact z
      exact ⟨.ref st.heap.objs.size, upd H0 st.heap.objs.size (.dK (mergeK [] kvs)), I.laid (t' := tk) (fun b o e => kp b o (by simp) e) (Nat.le_refl _) (show ObjOk X.prog X.w _ _ _ (.dK (mergeK [] kvs)) from ⟨hlen, hm, merged [] prs, KV.merge rel .nil, hd'⟩), rfl, finD p R h4 h3 (I.hok.fresh (Nat.le_refl _))⟩
theorem cr_A (L : Ld N CX E X) (b : BI) (n1 : b ≠ .dictZ) (n2 : b ≠ .tupleZ) : CallR X (bltV b) (rBl N E b) := by
  intro pins s σ H xs us Q I rs ⟨ι, h, vs, R, r, p⟩
  unfold bltA at p
  split at p
  · -- len
    rename_i v
    obtain ⟨w, rfl, rv⟩ := VRs.one r
    split at p
    · rename_i x
      cases VR.str rv
      split at p
      · rename_i c
        refine call_len pins s σ H _ us Q I rs ⟨.str x, x.length, rfl, ⟨?_, rfl⟩, ?_⟩
        · rw [len_eq]
          exact line_le (short_le c)
        · rw [len_eq]
          exact fin0 p R rfl
      · exact p.elim
    · rename_i n
      obtain ⟨a, ea, rfl⟩ := VR.rf rv
      split at p
      · rename_i xs g
        obtain ⟨ws, ha, ra⟩ := lst_at R ea g
        refine call_len pins s σ H _ us Q I rs ⟨.ref a, ws.length, rfl, .inl ⟨ws, .of ha, rfl⟩, ?_⟩
        rw [ra.length]
        exact fin0 p R rfl
      · rename_i ks g
        obtain ⟨ws, ha, ra⟩ := dk_at R ea g
        obtain ⟨u, rfl, ru⟩ := vals1 rs
        cases ru
        refine d_len I (.inl ha) fun t s' I' => ⟨.int ws.length, H, I', ⟨t, rfl⟩, ?_⟩
        rw [ra.length]
        exact fin0 p R rfl
      · exact p.elim
    · rename_i xs
      obtain ⟨a, ws, rfl, sa, ra⟩ := VR.tup rv
      refine call_len pins s σ H _ us Q I rs ⟨.ref a, ws.length, rfl, .inr ⟨ws, L.K ▸ sa.t, rfl⟩, ?_⟩
      rw [ra.length]
      exact fin0 p R rfl
    · rename_i ns
      obtain ⟨a, rfl, sa⟩ := VR.sc rv
      refine call_len pins s σ H _ us Q I rs ⟨.ref a, (ns.map V.int).length, rfl, .inl ⟨_, L.K ▸ scr_sq sa, rfl⟩, ?_⟩
      rw [List.length_map]
      exact fin0 p R rfl
    · exact p.elim
  · -- max
    rename_i v
    obtain ⟨w, rfl, rv⟩ := VRs.one r
    split at p
    · rename_i i js e
      obtain ⟨ys, e1, e2⟩ := Option.bind_eq_some_iff.mp e
      obtain ⟨a, ws, rfl, sa, ra⟩ := itemsOf_V R e1 rv
      have ew := intsOf_V e2 ra
      subst ew
      rcases sa with sa | ⟨sa, _⟩
      · refine cr_max L.calm pins s σ H _ us Q I rs ⟨a, i :: js, rfl, L.K ▸ sa, by simp, fun m hm hy => ?_⟩
        obtain ⟨a1, a2⟩ := maxI_is js i
        have : m = maxI i js := Int.le_antisymm (a2 m hm) (hy _ a1)
        rw [this]
        exact fin0 p R rfl
      · exact cr_maxT L rfl pins s σ H _ us Q I rs ⟨rfl, sa.t, fin0 p R rfl⟩
    · exact p.elim
  · -- min
    rename_i v
    obtain ⟨w, rfl, rv⟩ := VRs.one r
    split at p
    · rename_i i js e
      obtain ⟨ys, e1, e2⟩ := Option.bind_eq_some_iff.mp e
      obtain ⟨a, ws, rfl, sa, ra⟩ := listOf_V R e1 rv
      have ew := intsOf_V e2 ra
      subst ew
      refine cr_min L.calm pins s σ H _ us Q I rs ⟨a, i :: js, rfl, L.K ▸ sa, by simp, fun m hm hy => ?_⟩
      obtain ⟨a1, a2⟩ := minI_is js i
      have : m = minI i js := Int.le_antisymm (hy _ a1) (a2 m hm)
      rw [this]
      exact fin0 p R rfl
    · exact p.elim
  · -- sum
    rename_i v
    obtain ⟨w, rfl, rv⟩ := VRs.one r
    split at p
    · rename_i js e
      obtain ⟨ys, e1, e2⟩ := Option.bind_eq_some_iff.mp e
      obtain ⟨a, ws, rfl, sa, ra⟩ := listOf_V R e1 rv
      have ew := intsOf_V e2 ra
      subst ew
      refine cr_sum L.calm pins s σ H _ us Q I rs ⟨a, js, rfl, L.K ▸ sa, ?_⟩
      have := sumI_is js 0
      rw [show js.sum = sumI 0 js by omega]
      exact fin0 p R rfl
    · exact p.elim
  · -- all
    rename_i v
    obtain ⟨w, rfl, rv⟩ := VRs.one r
    split at p
    · rename_i js e
      obtain ⟨ys, e1, e2⟩ := Option.bind_eq_some_iff.mp e
      obtain ⟨a, ws, rfl, sa, ra⟩ := listOf_V R e1 rv
      have ew := boolsOf_V e2 ra
      subst ew
      exact cr_all L.calm pins s σ H _ us Q I rs ⟨a, js, rfl, L.K ▸ sa, fin0 p R rfl⟩
    · exact p.elim
  · -- any
    rename_i v
    obtain ⟨w, rfl, rv⟩ := VRs.one r
    split at p
    · rename_i js e
      obtain ⟨ys, e1, e2⟩ := Option.bind_eq_some_iff.mp e
      obtain ⟨a, ws, rfl, sa, ra⟩ := listOf_V R e1 rv
      have ew := boolsOf_V e2 ra
      subst ew
      exact cr_any L.calm pins s σ H _ us Q I rs ⟨a, js, rfl, L.K ▸ sa, fin0 p R rfl⟩
    · exact p.elim
  · -- sorted
    rename_i v
    obtain ⟨w, rfl, rv⟩ := VRs.one r
    split at p
    · rename_i n
      obtain ⟨a, ea, rfl⟩ := VR.rf rv
      split at p
      · rename_i ks g
        obtain ⟨ws, ha, ra⟩ := dk_at R ea g
        exact cr_sortedK L pins s σ H _ us Q I rs ⟨ι, h, ks, ws, a, rfl, R, ha, ra, p⟩
      · rename_i xs g
        obtain ⟨ws, ha, ra⟩ := lst_at R ea g
        exact cr_sortedA L pins s σ H _ us Q I rs ⟨ι, h, xs, ws, a, rfl, R, .inl (.of ha), ra, p⟩
      · exact p.elim
    · rename_i xs
      obtain ⟨a, ws, rfl, sa, ra⟩ := VR.tup rv
      exact cr_sortedA L pins s σ H _ us Q I rs ⟨ι, h, xs, ws, a, rfl, R, .inr sa.t, ra, p⟩
    · exact p.elim
  · -- abs
    rename_i i
    obtain ⟨w, rfl, rv⟩ := VRs.one r
    cases VR.int rv
    refine call_abs pins s σ H _ us Q I rs ⟨i, rfl, ?_⟩
    have z : (if decide (i < 0) then -i else i) = if i < 0 then -i else i := by
      by_cases c : i < 0
      · rw [if_pos (decide_eq_true c), if_pos c]
      · rw [if_neg (by rw [decide_eq_false c]; simp), if_neg c]
    rw [← z]
    exact fin0 p R rfl
  · -- int of an int
    rename_i i
    obtain ⟨w, rfl, rv⟩ := VRs.one r
    cases VR.int rv
    exact call_int1 pins s σ H _ us Q I rs (.inl ⟨i, rfl, fin0 p R rfl⟩)
  · rename_i b
    obtain ⟨w, rfl, rv⟩ := VRs.one r
    cases VR.bl rv
    refine call_int1 pins s σ H _ us Q I rs (.inr ⟨b, rfl, ?_⟩)
    rw [← b2z_eq]
    exact fin0 p R rfl
  · -- list
    rename_i v
    obtain ⟨w, rfl, rv⟩ := VRs.one r
    split at p
    · rename_i ys e
      obtain ⟨a, ws, rfl, sa, ra⟩ := itemsOf_V R e rv
      exact call_list_of pins s σ H _ us Q I rs ⟨a, ws, rfl, by rw [L.K]; exact sa.imp id (·.1.t), fun q hq => finL p R ra hq⟩
    · exact p.elim
  · -- tuple
    rename_i v
    obtain ⟨w, rfl, rv⟩ := VRs.one r
    split at p
    · rename_i ys e
      obtain ⟨a, ws, rfl, sa, ra⟩ := itemsOf_V R e rv
      refine Low.call_tuple_ofF pins s σ H _ us Q I rs ⟨a, ws, rfl, ?_⟩
      rcases sa with sa | ⟨sa, _⟩
      · exact .inl ⟨L.K ▸ sa, finT p R ra⟩
      · exact .inr ⟨L.K ▸ sa.t, fin0 p R ⟨a, ws, rfl, sa, ra⟩⟩
    · exact p.elim
  · -- dict
    rename_i v
    obtain ⟨w, rfl, rv⟩ := VRs.one r
    split at p
    · rename_i n
      obtain ⟨a, ea, rfl⟩ := VR.rf rv
      split at p
      · rename_i ks g
        obtain ⟨ws, ha, ra⟩ := dk_at R ea g
        exact call_dictD pins s σ H _ us Q I rs ⟨a, ws, rfl, .inl ha, fun q hq => finD p R (dk_nd R ea g) ra hq⟩
      · rename_i xs g
        split at p
        · rename_i c
          split at p
          · rename_i ks ek
            obtain ⟨ws, ha, ra⟩ := lst_at R ea g
            exact dMerge_V L R ek (.inl (.of ha)) ra (short_le c) pins s σ H _ us Q I rs ⟨rfl, rfl, p⟩
          · exact p.elim
        · exact p.elim
      · exact p.elim
    · rename_i xs
      obtain ⟨a, ws, rfl, sa, ra⟩ := VR.tup rv
      split at p
      · rename_i c
        split at p
        · rename_i ks ek
          exact dMerge_V L R ek (.inr sa) ra (short_le c) pins s σ H _ us Q I rs ⟨rfl, rfl, p⟩
        · exact p.elim
      · exact p.elim
    · exact p.elim
  · exact (n1 rfl).elim
  · exact (n2 rfl).elim
  · exact p.elim

def tyV' : Ty → String
  | .str => "str"
  | .tup => "tuple"
  | .int => "int"
  | .bool => "bool"
theorem kit_is (K : PySem.W.Frag) (a : String) (t : Ty) (b : Bool) (e : kitB a (tyV' t) = some b) : PySem.W.kitOne K (.type a) (.type (tyV' t)) = some b := kit_ty e
def rIs (N : Cn) (E : XK) (t : Ty) : List V → Hp → VK → Prop := fun xs H Q => ∃ ι h v w, xs = [w, .ty (tyV' t)] ∧ Rel N ι h H ∧ VR N ι H v w ∧ PostE N E ι H (boolV (isiA t v h) h) Q
theorem cr_isi (L : Ld N CX E X) (t : Ty) : CallR X (.builtin "isinstance") (rIs N E t) := by
  intro pins s σ H xs us Q I rs ⟨ι, h, v, w, ex, R, r, p⟩
  subst ex
  obtain ⟨b, e, q⟩ := finB p R
  have go : ∀ (a : String) (c : Bool), TyX X.K H w (.type a) → kitB a (tyV' t) = some c → b = c → wpAny (model X.prog X.w) X.A (call (.builtin "isinstance") us) (EP X pins σ Q) X.xe s := fun a c ty k bc =>
    call_isi pins s σ H _ us Q I rs ⟨w, .ty (tyV' t), .type a, .type (tyV' t), c, rfl, .ty _, ty, kit_ty k, bc ▸ q⟩
  have sqT : ∀ (a : Addr) (ws : List V), SqT X.K H a ws → TyX X.K H (.ref a) (.type "tuple") := fun a ws s => by
    rcases s with (s | ⟨o, s⟩) | ⟨o, its, n, s, c, _⟩
    · exact .base (.tup s)
    · exact .fTuple s
    · exact .kTuple s c
  unfold isiA at e
  split at e
  · cases VR.non r
    cases e
    exact go "NoneType" false (.base .non) (by cases t <;> decide +kernel) rfl
  · cases VR.bl r
    cases e
    cases t
    · exact go "bool" false (.base (.bl _)) (by decide +kernel) rfl
    · exact go "bool" false (.base (.bl _)) (by decide +kernel) rfl
    · exact go "bool" true (.base (.bl _)) (by decide +kernel) rfl
    · exact go "bool" true (.base (.bl _)) (by decide +kernel) rfl
  · cases VR.int r
    cases e
    cases t
    · exact go "int" false (.base (.int _)) (by decide +kernel) rfl
    · exact go "int" false (.base (.int _)) (by decide +kernel) rfl
    · exact go "int" true (.base (.int _)) (by decide +kernel) rfl
    · exact go "int" false (.base (.int _)) (by decide +kernel) rfl
  · cases VR.str r
    cases e
    cases t
    · exact go "str" true (.base (.str _)) (by decide +kernel) rfl
    · exact go "str" false (.base (.str _)) (by decide +kernel) rfl
    · exact go "str" false (.base (.str _)) (by decide +kernel) rfl
    · exact go "str" false (.base (.str _)) (by decide +kernel) rfl
  · obtain ⟨a, ws, rfl, sa, ra⟩ := VR.tup r
    have sa : SqT X.K H a ws := L.K ▸ sa.t
    cases e
    cases t
    · exact go "tuple" false (sqT a ws sa) (by decide +kernel) rfl
    · exact go "tuple" true (sqT a ws sa) (by decide +kernel) rfl
    · exact go "tuple" false (sqT a ws sa) (by decide +kernel) rfl
    · exact go "tuple" false (sqT a ws sa) (by decide +kernel) rfl
  · obtain ⟨a, ea, rfl⟩ := VR.rf r
    split at e
    · rename_i xs g
      obtain ⟨ws, ha, ra⟩ := lst_at R ea g
      cases e
      exact go "list" false (.base (.lst ha)) (by cases t <;> decide +kernel) rfl
    · rename_i ks g
      obtain ⟨ws, ha, ra⟩ := dk_at R ea g
      cases e
      exact go "dict" false (.base (.dK ha)) (by cases t <;> decide +kernel) rfl
    · cases e
  · cases e

def bmT : BM → String
  | .append => "list"
  | .extend => "list"
  | .pop0 => "list"
  | _ => "dict"
def bmId : BM → String
  | .append => "list.append"
  | .extend => "list.extend"
  | .pop0 => "list.pop"
  | .dpop1 => "dict.pop"
  | .dpop2 => "dict.pop"
  | .get1 => "dict.get"
  | .get2 => "dict.get"
def rBm (N : Cn) (E : XK) (m : BM) : V → List V → Hp → VK → Prop := fun x xs H Q => ∃ ι h v vs, Rel N ι h H ∧ VR N ι H v x ∧ VRs N ι H vs xs ∧ PostE N E ι H (bmA m v vs h) Q
/-- the tracked list of the relation gets other items -/
theorem setL (R : Rel N ι h H) {n : Nat} {a : Addr} {xs : List AV} {us ws : List V} (ea : ι[n]? = some a) (e : H a = some (.lst us)) (r : VRs N ι H xs ws) :
    Rel N ι (h.set n (.lst xs)) (upd H a (.lst ws)) ∧ Ext N ι H ι (upd H a (.lst ws)) := by
  have x : Ext N ι H ι (upd H a (.lst ws)) := Ext.chg (List.mem_of_getElem? ea) e (fun _ z => by cases z) (fun _ _ z => by cases z)
  exact ⟨R.set ea e (fun _ z => by cases z) (fun _ _ z => by cases z) ⟨ws, upd_same, r.ext x⟩, x⟩
theorem setD (R : Rel N ι h H) {n : Nat} {a : Addr} {xs : List (Key × AV)} {us ws : List (Key × V)} (ea : ι[n]? = some a) (e : H a = some (.dK us)) (nd : (xs.map (·.1)).Nodup) (r : DR N ι H xs ws) :
    Rel N ι (h.set n (.dct xs)) (upd H a (.dK ws)) ∧ Ext N ι H ι (upd H a (.dK ws)) := by
  have x : Ext N ι H ι (upd H a (.dK ws)) := Ext.chg (List.mem_of_getElem? ea) e (fun _ z => by cases z) (fun _ _ z => by cases z)
  exact ⟨R.set ea e (fun _ z => by cases z) (fun _ _ z => by cases z) ⟨nd, ws, upd_same, r.ext x⟩, x⟩
theorem VRs.dropLast {xs : List AV} {ws : List V} (r : VRs N ι H xs ws) : VRs N ι H xs.dropLast ws.dropLast := by
  rw [List.dropLast_eq_take, List.dropLast_eq_take, r.length]
  exact VRs.take _ r
theorem bm_A (L : Ld N CX E X) (m : BM) : MtR X (bmId m) (rBm N E m) := by
  intro pins s σ H x xs v us Q I rx rs ⟨ι, h, o, vs, R, ro, r, p⟩
  unfold bmA at p
  split at p
  · rename_i n
    obtain ⟨a, ea, rfl⟩ := VR.rf ro
    split at p
    · -- append
      rename_i y ys g
      split at p
      · rename_i c
        obtain ⟨w, rfl, rw⟩ := VRs.one r
        obtain ⟨ws, ha, ra⟩ := lst_at R ea g
        obtain ⟨R', x'⟩ := setL R ea ha (VRs.append ra (VRs.cons rw VRs.nil))
        refine mt_append pins s σ H _ _ v us Q I rx rs ⟨a, ws, w, rfl, rfl, ha, ?_, p ι _ _ x' R' rfl⟩
        rw [ra.length]
        have := short_le c
        rw [sizeLine_eq]
        omega
      · exact p.elim
    · -- extend
      rename_i k ys g
      obtain ⟨w, rfl, rw⟩ := VRs.one r
      obtain ⟨b, eb, rfl⟩ := VR.rf rw
      split at p
      · exact p.elim
      · rename_i nk
        split at p
        · rename_i zs g2
          split at p
          · rename_i c
            obtain ⟨c1, c2⟩ := and_t c
            obtain ⟨ws, ha, ra⟩ := lst_at R ea g
            obtain ⟨us', hb, rb⟩ := lst_at R eb g2
            obtain ⟨R', x'⟩ := setL R ea ha (VRs.append ra rb)
            refine mt_extend pins s σ H _ _ v us Q I rx rs ⟨a, b, ws, us', rfl, rfl, ha, hb, ?_, p ι _ _ x' R' rfl⟩
            rw [ra.length, rb.length]
            exact line_le2 (short_le c1) (short_le c2)
          · exact p.elim
        · exact p.elim
    · -- pop
      rename_i ys g
      have r : xs = [] := r
      subst r
      split at p
      · rename_i y ey
        obtain ⟨ws, ha, ra⟩ := lst_at R ea g
        rw [List.getLast?_eq_getElem?] at ey
        obtain ⟨w, ew, rw⟩ := (ra.get _).1 y ey
        obtain ⟨R', x'⟩ := setL R ea ha ra.dropLast
        refine mt_pop pins s σ H _ _ v us Q I rx rs ⟨a, ws, w, rfl, rfl, ha, ?_, p ι _ _ x' R' (rw.ext x')⟩
        rw [ra.length]
        exact ew
      · exact p.elim
    · -- pop(k)
      rename_i ky ks g
      obtain ⟨w, rfl, rw⟩ := VRs.one r
      split at p
      · rename_i q eq
        have kx := keyOf_V eq rw
        subst kx
        split at p
        · rename_i y ey
          obtain ⟨ws, ha, ra⟩ := dk_at R ea g
          have nd := dk_nd R ea g
          obtain ⟨z, ez, rz⟩ := (dGet_V q ra).1 y ey
          obtain ⟨R', x'⟩ := setD R ea ha (dDel_nd (k := q) nd) (del_V ra nd)
          obtain ⟨u, rfl, ru⟩ := vals1 rs
          cases rx
          exact d_pop I ha ru ez (.inl rfl) fun w' s' I' rw' => ⟨z, _, I', rw', p ι _ _ x' R' (rz.ext x')⟩
        · exact p.elim
      · exact p.elim
    · -- pop(k, d)
      rename_i ky dv ks g
      obtain ⟨w, wd, rfl, rw, rd⟩ := VRs.two r
      split at p
      · rename_i q eq
        have kx := keyOf_V eq rw
        subst kx
        obtain ⟨ws, ha, ra⟩ := dk_at R ea g
        have nd := dk_nd R ea g
        obtain ⟨u, u2, rfl, ru, ru2⟩ := vals2 rs
        cases rx
        split at p
        · rename_i y ey
          obtain ⟨z, ez, rz⟩ := (dGet_V q ra).1 y ey
          obtain ⟨R', x'⟩ := setD R ea ha (dDel_nd (k := q) nd) (del_V ra nd)
          exact d_pop I ha ru ez (.inr ⟨_, rfl⟩) fun w' s' I' rw' => ⟨z, _, I', rw', p ι _ _ x' R' (rz.ext x')⟩
        · rename_i ey
          have ez := (dGet_V q ra).2 ey
          exact d_popD I ha ru ez fun s' I' => ⟨wd, H, I', ru2, fin0 p R rd⟩
      · exact p.elim
    · -- get(k)
      rename_i ky ks g
      obtain ⟨w, rfl, rw⟩ := VRs.one r
      split at p
      · rename_i q eq
        have kx := keyOf_V eq rw
        subst kx
        obtain ⟨ws, ha, ra⟩ := dk_at R ea g
        obtain ⟨u, rfl, ru⟩ := vals1 rs
        cases rx
        have hu : X.A.units + 1 < cLine := by have := L.un; omega
        refine d_get1 hu I (DGet.k ha) ru fun w' s' I' rw' => ⟨_, H, I', rw', ?_⟩
        cases ey : dGet q ks with
        | none =>
          rw [ey] at p
          rw [(dGet_V q ra).2 ey]
          exact fin0 p R rfl
        | some y =>
          rw [ey] at p
          obtain ⟨z, ez, rz⟩ := (dGet_V q ra).1 y ey
          rw [ez]
          exact fin0 p R rz
      · exact p.elim
    · -- get(k, d)
      rename_i ky dv ks g
      obtain ⟨w, wd, rfl, rw, rd⟩ := VRs.two r
      split at p
      · rename_i q eq
        have kx := keyOf_V eq rw
        subst kx
        obtain ⟨ws, ha, ra⟩ := dk_at R ea g
        obtain ⟨u, u2, rfl, ru, ru2⟩ := vals2 rs
        cases rx
        have hu : X.A.units + 1 < cLine := by have := L.un; omega
        refine d_get2 hu I (DGet.k ha) ru ru2 fun w' s' I' rw' => ⟨_, H, I', rw', ?_⟩
        cases ey : dGet q ks with
        | none =>
          rw [ey] at p
          rw [(dGet_V q ra).2 ey]
          exact fin0 p R rd
        | some y =>
          rw [ey] at p
          obtain ⟨z, ez, rz⟩ := (dGet_V q ra).1 y ey
          rw [ez]
          exact fin0 p R rz
      · exact p.elim
    · exact p.elim
  · exact p.elim
end Ev

set_option Elab.async false
set_option linter.all false
set_option maxRecDepth 100000
set_option maxHeartbeats 4000000
set_option autoImplicit false
namespace Ev
open PySem PySem.Spec PyProof.Rows L2
variable {N : Cn} {X : Cx} {ι ι1 ι2 ι' : List Addr} {H H1 H2 H' : Hp} {h h1 h' : AH} {a b c e o : Expr} {es rest : List Expr} {fa fb fc fe fo : FE} {ga gb : FA} {ta tb : FT} {pos apos : Pos}
abbrev EN : XK := C8.E0
abbrev CN0 : CXT := C8.CX0
abbrev Lx (N : Cn) (X : Cx) : Prop := Ld N CN0 EN X
abbrev rE (N : Cn) (f : FE) : TE := tE N EN f
abbrev rA (N : Cn) (f : FA) : TA := tA N EN f
abbrev rT (N : Cn) (f : FT) : TT := tT N EN f

theorem e_var {i : Nat} {x : Str} (h : PE X (.Name x pos) (tVar i)) : PE X (.Name x pos) (rE N (cSlot i)) := h.imp fun σ H Q ⟨ι, h, sl, R, S, p⟩ => by
  unfold cSlot at p
  split at p
  · rename_i v e
    obtain ⟨w, ew, rw⟩ := S.at_ i v e
    exact ⟨w, ew, fin0 p R rw⟩
  · exact p.elim
theorem e_c {t : TE} {v : AV} {w : V} (h : PE X e t) (ht : ∀ σ H Q, Q w H → t σ H Q) (r : ∀ ι H, VR N ι H v w) : PE X e (rE N (cCst v)) := h.imp fun σ H Q ⟨ι, h, sl, R, S, p⟩ => ht σ H Q (fin0 p R (r ι H))
theorem e_int {i : Int} {j} : PE X (.Constant (.int i) j pos) (rE N (cCst (.int i))) := e_c pe_int (fun _ _ _ q => q) fun _ _ => rfl
theorem e_bl {i : Bool} {j} : PE X (.Constant (.bool i) j pos) (rE N (cCst (.bl i))) := e_c pe_bl (fun _ _ _ q => q) fun _ _ => rfl
theorem e_non {j} : PE X (.Constant .none j pos) (rE N (cCst .non)) := e_c pe_non (fun _ _ _ q => q) fun _ _ => rfl
theorem e_str {x : Str} {j} : PE X (.Constant (.str x) j pos) (rE N (cCst (.str x))) := e_c pe_str (fun _ _ _ q => q) fun _ _ => rfl
theorem e_nint {i : Int} {j} {p2 : Pos} : PE X (.UnaryOp .USub (.Constant (.int i) j p2) pos) (rE N (cCst (.int (-i)))) := e_c (pe_un un_neg pe_int) (fun _ _ _ q => ⟨i, rfl, q⟩) fun _ _ => rfl
theorem e_glo {x : Str} {v : AV} {w : V} {u : Value} (hg : Gl X x) (hm : X.mg x = some u) (r : RelV w u) (hd : (x == ("__debug__" : Str)) = false) (hv : ∀ ι H, VR N ι H v w) : PE X (.Name x pos) (rE N (cCst v)) := e_c (pe_glob hg hm r hd) (fun _ _ _ q => q) hv

theorem a_nil : PA X [] (rA N aNil) := pa_nil.imp fun σ H Q ⟨ι, h, sl, R, S, p⟩ => p ι H [] Ext.refl R rfl
theorem a_cons (he : PE X e (rE N fe)) (hr : PA X es (rA N ga)) (hs : starEach (e :: es) X.env = (false, eval e X.env) :: starEach es X.env := by rfl) : PA X (e :: es) (rA N (aCons fe ga)) :=
  (pa_cons he hr hs).imp fun σ H Q ⟨ι, h, sl, R, S, p⟩ => ⟨ι, h, sl, R, S, p.bind.imp fun w H1 ⟨ι1, h1, v, x1, R1, r1, p1⟩ => ⟨ι1, h1, sl, R1, S.ext x1, p1.bind.imp fun ws H2 ⟨ι2, h2, vs, x2, R2, r2, p2⟩ =>
    p2 ι2 H2 (w :: ws) Ext.refl R2 ⟨w, ws, rfl, r1.ext x2, r2⟩⟩⟩
theorem e_tup {x1} (h : PA X es (rA N ga)) : PE X (.Tuple es x1 pos) (rE N (cTup ga)) := (Low.pe_tupF h).imp fun σ H Q ⟨ι, h, sl, R, S, p⟩ => ⟨ι, h, sl, R, S, p.bind.imp fun ws H1 ⟨ι1, h1, vs, x1, R1, r1, p1⟩ => by
  split at p1
  · rename_i c
    refine ⟨?_, finT p1 R1 r1⟩
    rw [r1.length]
    exact line_le (short_le c)
  · exact p1.elim⟩
theorem e_lst (h : PA X es (rA N ga)) : PE X (.List es pos) (rE N (cLst ga)) := (pe_lst h).imp fun σ H Q ⟨ι, h, sl, R, S, p⟩ => ⟨ι, h, sl, R, S, p.bind.imp fun ws H1 ⟨ι1, h1, vs, x1, R1, r1, p1⟩ => by
  split at p1
  · rename_i c
    refine ⟨?_, fun q hq => finL p1 R1 r1 hq⟩
    rw [r1.length]
    exact line_le (short_le c)
  · exact p1.elim⟩

theorem two {t : V → V → Hp → VK → Prop} {g : AV → AV → AH → Res AV} (hg : ∀ x y H Q, (∃ ι h xa ya, Rel N ι h H ∧ VR N ι H xa x ∧ VR N ι H ya y ∧ PostE N EN ι H (g xa ya h) Q) → t x y H Q) (σ : L2.St) (H : Hp) (Q : VK)
    (p : rE N (fun sl h => (fa sl h).bind fun x h1 => (fb sl h1).bind fun y h2 => g x y h2) σ H Q) : rE N fa σ H fun x H1 => rE N fb σ H1 fun y H2 => t x y H2 Q := by
  obtain ⟨ι, h, sl, R, S, p⟩ := p
  exact ⟨ι, h, sl, R, S, p.bind.imp fun w H1 ⟨ι1, h1, v, x1, R1, r1, p1⟩ => ⟨ι1, h1, sl, R1, S.ext x1, p1.bind.imp fun w2 H2 ⟨ι2, h2, v2, x2, R2, r2, p2⟩ => hg _ _ _ _ ⟨ι2, h2, v, v2, R2, r1.ext x2, r2, p2⟩⟩⟩
theorem e_bin (L : Lx N X) (op : BOp) (ha : PE X a (rE N fa)) (hb : PE X b (rE N fb)) : PE X (.BinOp a (bopO op) b pos) (rE N (cBin op fa fb)) := (pe_op (op_bin L op) ha hb).imp fun σ H Q p => two (fun _ _ _ _ q => q) σ H Q p
theorem e_cmp (L : Lx N X) (op : COp) (ha : PE X a (rE N fa)) (hb : PE X b (rE N fb)) (hm : behindInMarks (copO op) b = false) : PE X (.Compare a [copO op] [b] pos) (rE N (cCmp op fa fb)) := (pe_cmpR (op_cmpA L op) ha hb hm).imp fun σ H Q p => two (fun _ _ _ _ q => q) σ H Q p
theorem optV_boolV {o : Option Bool} {Q : Bool → Hp → Prop} (p : PostT N EN ι H (optV o h) Q) (R : Rel N ι h H) : PostE N EN ι H (boolV o h) fun x H' => ∃ k, x = .bl k ∧ Q k H' := by
  cases o with
  | none => exact p.elim
  | some b => exact fun ι' H' w x R' r => ⟨b, VR.bl r, p ι' H' b x R' rfl⟩
theorem t_cmp (L : Lx N X) (op : COp) (ha : PE X a (rE N fa)) (hb : PE X b (rE N fb)) (hm : behindInMarks (copO op) b = false) : PT X (.Compare a [copO op] [b] pos) (rT N (tCmpA op fa fb)) :=
  (pt_cmpR (op_cmpA L op) ha hb hm).imp fun σ H Q ⟨ι, h, sl, R, S, p⟩ => ⟨ι, h, sl, R, S, p.bind.imp fun w H1 ⟨ι1, h1, v, x1, R1, r1, p1⟩ => ⟨ι1, h1, sl, R1, S.ext x1, p1.bind.imp fun w2 H2 ⟨ι2, h2, v2, x2, R2, r2, p2⟩ =>
    ⟨ι2, h2, v, v2, R2, r1.ext x2, r2, optV_boolV p2 R2⟩⟩⟩
theorem t_val (he : PE X e (rE N fe)) (hp : ∀ whole, isTrue e X.env whole = (do let v ← whole; standAt e.pos; holding [v] (truthy v)) := by intro _; rfl) : PT X e (rT N (tValA fe)) :=
  (pt_val he hp).imp fun σ H Q ⟨ι, h, sl, R, S, p⟩ => ⟨ι, h, sl, R, S, p.bind.imp fun w H1 ⟨ι1, h1, v, x1, R1, r1, p1⟩ => by
    obtain ⟨b, e, q⟩ := PostG.optV p1
    exact ⟨b, truth_V e r1, q ι1 H1 b Ext.refl R1 rfl⟩⟩
theorem chn_imp (o1 o2 : COp) (σ : L2.St) (H : Hp) (Q : VK) (q : rE N (cChn o1 o2 fa fb fc) σ H Q) : tChain (rC N EN o1) (rC N EN o2) (rE N fa) (rE N fb) (rE N fc) σ H Q := by
  obtain ⟨ι, h, sl, R, S, p⟩ := q
  exact ⟨ι, h, sl, R, S, p.bind.imp fun w H1 ⟨ι1, h1, v, x1, R1, r1, p1⟩ => ⟨ι1, h1, sl, R1, S.ext x1, p1.bind.imp fun w2 H2 ⟨ι2, h2, v2, x2, R2, r2, p2⟩ => by
    refine ⟨ι2, h2, v, v2, R2, r1.ext x2, r2, ?_⟩
    split at p2
    · rename_i e
      rw [e]
      refine fun ι' H' w' x' R' r' => ⟨true, VR.bl r', ?_⟩
      rw [if_pos rfl]
      refine ⟨ι', h2, sl, R', (S.ext x1).ext (x2.trans x'), ?_⟩
      exact (p2.weak x').bind.imp fun w3 H3 ⟨ι3, h3, v3, x3, R3, r3, p3⟩ => ⟨ι3, h3, v2, v3, R3, r2.ext (x'.trans x3), r3, p3⟩
    · rename_i e
      rw [e]
      refine fun ι' H' w' x' R' r' => ⟨false, VR.bl r', ?_⟩
      rw [if_neg (by simp)]
      exact p2 ι' H' _ x' R' rfl
    · exact p2.elim⟩⟩
theorem e_chn (L : Lx N X) (o1 o2 : COp) (ha : PE X a (rE N fa)) (hb : PE X b (rE N fb)) (hc : PE X c (rE N fc)) (hm : lastMarks [copO o1, copO o2] [b, c] = false := by with_unfolding_all rfl) : PE X (.Compare a [copO o1, copO o2] [b, c] pos) (rE N (cChn o1 o2 fa fb fc)) :=
  (pe_chain (op_cmpA L o1) (op_cmpA L o2) ha hb hc hm).imp (chn_imp o1 o2)
theorem t_chn (L : Lx N X) (o1 o2 : COp) (ha : PE X a (rE N fa)) (hb : PE X b (rE N fb)) (hc : PE X c (rE N fc)) (hm : lastMarks [copO o1, copO o2] [b, c] = false := by with_unfolding_all rfl) : PT X (.Compare a [copO o1, copO o2] [b, c] pos) (rT N (tValA (cChn o1 o2 fa fb fc))) :=
  (pt_chain (op_cmpA L o1) (op_cmpA L o2) ha hb hc hm).imp fun σ H Q ⟨ι, h, sl, R, S, p⟩ => chn_imp o1 o2 σ H _ ⟨ι, h, sl, R, S, p.bind.imp fun w H1 ⟨ι1, h1, v, x1, R1, r1, p1⟩ => by
    obtain ⟨b, e, q⟩ := PostG.optV p1
    exact ⟨b, truth_V e r1, q ι1 H1 b Ext.refl R1 rfl⟩⟩
theorem e_one {op} (h : PE X a (rE N fa)) : PE X (.BoolOp op [a] pos) (rE N fa) := pe_one h
theorem e_and (ha : PE X a (rE N fa)) (hb : PE X (.BoolOp .And (b :: rest) pos) (rE N fb)) : PE X (.BoolOp .And (a :: b :: rest) pos) (rE N (cAnd fa fb)) :=
  (pe_and ha hb).imp fun σ H Q ⟨ι, h, sl, R, S, p⟩ => ⟨ι, h, sl, R, S, p.bind.imp fun w H1 ⟨ι1, h1, v, x1, R1, r1, p1⟩ => by
    split at p1
    · exact ⟨true, VR.bl r1, by rw [if_pos rfl]; exact ⟨ι1, h1, sl, R1, S.ext x1, p1⟩⟩
    · exact ⟨false, VR.bl r1, by rw [if_neg (by simp)]; exact fin0 p1 R1 rfl⟩
    · exact p1.elim⟩
theorem e_or (ha : PE X a (rE N fa)) (hb : PE X (.BoolOp .Or (b :: rest) pos) (rE N fb)) : PE X (.BoolOp .Or (a :: b :: rest) pos) (rE N (cOr fa fb)) :=
  (pe_or ha hb).imp fun σ H Q ⟨ι, h, sl, R, S, p⟩ => ⟨ι, h, sl, R, S, p.bind.imp fun w H1 ⟨ι1, h1, v, x1, R1, r1, p1⟩ => by
    split at p1
    · exact ⟨true, VR.bl r1, by rw [if_pos rfl]; exact fin0 p1 R1 rfl⟩
    · exact ⟨false, VR.bl r1, by rw [if_neg (by simp)]; exact ⟨ι1, h1, sl, R1, S.ext x1, p1⟩⟩
    · exact p1.elim⟩
theorem e_not (ha : PE X a (rE N fa)) : PE X (.UnaryOp .Not a pos) (rE N (cNot fa)) :=
  (pe_not ha).imp fun σ H Q ⟨ι, h, sl, R, S, p⟩ => ⟨ι, h, sl, R, S, p.bind.imp fun w H1 ⟨ι1, h1, v, x1, R1, r1, p1⟩ => by
    split at p1
    · rename_i b
      exact ⟨b, VR.bl r1, fin0 p1 R1 rfl⟩
    · exact p1.elim⟩
theorem e_ife (hc : PT X c (rT N ta)) (ha : PE X a (rE N fa)) (hb : PE X b (rE N fb)) : PE X (.IfExp c a b pos) (rE N (cIfe ta fa fb)) :=
  (pe_ifExp hc ha hb).imp fun σ H Q ⟨ι, h, sl, R, S, p⟩ => ⟨ι, h, sl, R, S, p.bind.imp fun w H1 ⟨ι1, h1, v, x1, R1, r1, p1⟩ => by
    cases r1
    split at p1
    · rw [if_pos rfl]
      exact ⟨ι1, h1, sl, R1, S.ext x1, p1⟩
    · rw [if_neg (by simp)]
      exact ⟨ι1, h1, sl, R1, S.ext x1, p1⟩⟩
theorem t_not (ha : PT X a (rT N ta)) : PT X (.UnaryOp .Not a pos) (rT N (tNotA ta)) :=
  (pt_not ha).imp fun σ H Q ⟨ι, h, sl, R, S, p⟩ => ⟨ι, h, sl, R, S, p.bind.imp fun w H1 ⟨ι1, h1, v, x1, R1, r1, p1⟩ => by
    cases r1
    exact p1 ι1 H1 _ Ext.refl R1 rfl⟩
theorem _root_.L2.PW.imp {X : Cx} {e : Expr} {t t' : TT} (p : PW X e t) (f : ∀ σ H Q, t' σ H Q → t σ H Q) : PW X e t' := ⟨fun whole pins s σ H Q I q => p.run whole pins s σ H Q I (f σ H Q q)⟩
theorem w_one_and (ha : PT X a (rT N ta)) : PW X (.BoolOp .And [a] pos) (rT N ta) := pw_and1 ha
theorem w_one_or (ha : PT X a (rT N ta)) : PW X (.BoolOp .Or [a] pos) (rT N ta) := pw_or1 ha
theorem w_and (ha : PT X a (rT N ta)) (hb : PW X (.BoolOp .And (b :: rest) pos) (rT N tb)) : PW X (.BoolOp .And (a :: b :: rest) pos) (rT N (tAndA ta tb)) :=
  (pw_and ha hb).imp fun σ H Q ⟨ι, h, sl, R, S, p⟩ => ⟨ι, h, sl, R, S, p.bind.imp fun w H1 ⟨ι1, h1, v, x1, R1, r1, p1⟩ => by
    cases r1
    split at p1
    · rw [if_pos rfl]
      exact ⟨ι1, h1, sl, R1, S.ext x1, p1⟩
    · rw [if_neg (by simp)]
      exact p1 ι1 H1 _ Ext.refl R1 rfl⟩
theorem w_or (ha : PT X a (rT N ta)) (hb : PW X (.BoolOp .Or (b :: rest) pos) (rT N tb)) : PW X (.BoolOp .Or (a :: b :: rest) pos) (rT N (tOrA ta tb)) :=
  (pw_or ha hb).imp fun σ H Q ⟨ι, h, sl, R, S, p⟩ => ⟨ι, h, sl, R, S, p.bind.imp fun w H1 ⟨ι1, h1, v, x1, R1, r1, p1⟩ => by
    cases r1
    split at p1
    · rw [if_pos rfl]
      exact p1 ι1 H1 _ Ext.refl R1 rfl
    · rw [if_neg (by simp)]
      exact ⟨ι1, h1, sl, R1, S.ext x1, p1⟩⟩

theorem e_idx (L : Lx N X) (ha : PE X a (rE N fa)) (hb : PE X b (rE N fb)) (hs : PlainIx b := by intro _ _; rfl) : PE X (.Subscript a b pos) (rE N (cIdx fa fb)) := (pe_ix (ix_A L) ha hb hs).imp fun σ H Q p => two (fun _ _ _ _ q => q) σ H Q p
abbrev PostO (N : Cn) := PostG N (fun _ _ (a b : Option Int) => a = b) EN
def rO (N : Cn) (g : FO) : TO := fun σ H Q => ∃ ι h sl, Rel N ι h H ∧ SR N ι H sl σ ∧ PostO N ι H (g sl h) Q
theorem _root_.L2.PO.imp {X : Cx} {e : Option Expr} {t t' : TO} (p : PO X e t) (f : ∀ σ H Q, t' σ H Q → t σ H Q) : PO X e t' := ⟨fun pins s σ H Q I q => p.run pins s σ H Q I (f σ H Q q)⟩
theorem o_none : PO X none (rO N oNone) := po_none.imp fun σ H Q ⟨ι, h, sl, R, S, p⟩ => p ι H none Ext.refl R rfl
theorem o_some (he : PE X e (rE N fe)) : PO X (some e) (rO N (oSome fe)) := (po_some he).imp fun σ H Q ⟨ι, h, sl, R, S, p⟩ => ⟨ι, h, sl, R, S, p.bind.imp fun w H1 ⟨ι1, h1, v, x1, R1, r1, p1⟩ => by
  split at p1
  · rename_i i
    exact ⟨i, VR.int r1, p1 ι1 H1 _ Ext.refl R1 rfl⟩
  · exact p1.elim⟩
theorem e_slc (L : Lx N X) {lo hi : Option Expr} {fl fh : FO} {p2 : Pos} (he : PE X e (rE N fe)) (hl : PO X lo (rO N fl)) (hu : PO X hi (rO N fh)) : PE X (.Subscript e (.Slice lo hi none p2) pos) (rE N (cSlc fe fl fh)) :=
  (pe_slice (sl_A L) he hl hu).imp fun σ H Q ⟨ι, h, sl, R, S, p⟩ => ⟨ι, h, sl, R, S, p.bind.imp fun w H1 ⟨ι1, h1, v, x1, R1, r1, p1⟩ => ⟨ι1, h1, sl, R1, S.ext x1, p1.bind.imp fun l H2 ⟨ι2, h2, l', x2, R2, r2, p2⟩ =>
    ⟨ι2, h2, sl, R2, (S.ext x1).ext x2, p2.bind.imp fun u H3 ⟨ι3, h3, u', x3, R3, r3, p3⟩ => by
      cases r2
      cases r3
      exact ⟨ι3, h3, v, R3, (r1.ext x2).ext x3, p3⟩⟩⟩⟩
theorem e_rev (L : Lx N X) {k : Nat} {p1 p2 p3 : Pos} (he : PE X e (rE N fe)) : PE X (.Subscript e (.Slice none none (some (.UnaryOp .USub (.Constant (.int 1) k p1) p2)) p3) pos) (rE N (cRev fe)) :=
  (pe_revL he).imp fun σ H Q ⟨ι, h, sl, R, S, p⟩ => ⟨ι, h, sl, R, S, p.bind.imp fun w H1 ⟨ι1, h1, v, x1, R1, r1, p1⟩ => by
    unfold revA at p1
    split at p1
    · rename_i n
      obtain ⟨a, ea, rfl⟩ := VR.rf r1
      split at p1
      · rename_i xs g
        obtain ⟨ws, ha, ra⟩ := listAt_sq R1 ea g
        exact ⟨a, ws, rfl, L.K ▸ ha, fun q hq => finL p1 R1 ra.reverse hq⟩
      · exact p1.elim
    · exact p1.elim⟩
end Ev

set_option Elab.async false
set_option linter.all false
set_option maxRecDepth 100000
set_option maxHeartbeats 4000000
set_option autoImplicit false
namespace Ev
open PySem PySem.Spec PyProof.Rows L2
variable {N : Cn} {X : Cx} {ι ι1 ι2 ι' : List Addr} {H H1 H2 H' : Hp} {h h1 h' : AH} {a b c e o : Expr} {es rest : List Expr} {fa fb fc fe fo : FE} {ga gb : FA} {ta tb : FT} {pos apos : Pos}

/-- what a def of the text keeps: what the function f comes to -/
def spN (N : Cn) (f : List AV → AH → Res AV) : Sp := fun vs H Q _ => ∃ ι h as, Rel N ι h H ∧ VRs N ι H as vs ∧ PostE N EN ι H (f as h) Q
abbrev CalN (N : Cn) (X : Cx) (k : Nat) (x : Str) (f : List AV → AH → Res AV) : Prop := C8.Cal X.prog X.w X.K X.mg X.base k x (spN N f) []
theorem bindA {α β : Type} {E : XK} {rel : List Addr → Hp → α → β → Prop} {ga : FA} {k : List AV → AH → Res α} {σ : L2.St} {sl : SL} {Q : β → Hp → Prop} (R : Rel N ι h H) (S : SR N ι H sl σ) (p : PostG N rel EN ι H ((ga sl h).bind k) Q) {G : List V → Hp → Prop}
    (f : ∀ ι1 h1 H1 vs ws, Ext N ι H ι1 H1 → Rel N ι1 h1 H1 → VRs N ι1 H1 vs ws → PostG N rel EN ι1 H1 (k vs h1) Q → G ws H1) : rA N ga σ H G :=
  ⟨ι, h, sl, R, S, p.bind.imp fun ws H1 ⟨ι1, h1, vs, x1, R1, r1, p1⟩ => f ι1 h1 H1 vs ws x1 R1 r1 p1⟩
theorem e_call {T : Tab} {n : Nat} {x : Str} {p : Pos} {j k : Nat} (c : CalN N X k x (T.call n)) (hr : Room j X.A) (hk : k ≤ j) (hg : Gl X x) (ha : PA X (e :: es) (rA N ga))
    (hdb : (x == ("__debug__" : Str)) = false := by decide) (he : starEach (e :: es) X.env = (false, eval e X.env) :: starEach es X.env := by rfl) (hpl : (backTo pos (starEach es X.env)).any (·.1) = false := by rfl) :
    PE X (.Call (.Name x p) (e :: es) [] pos) (rE N (cCall T false n ga)) :=
  (C8.pe_c c hr hk hg ha hdb he hpl).imp fun σ H Q ⟨ι, h, sl, R, S, q⟩ => bindA (E := EN) R S q fun ι1 h1 H1 vs ws x1 R1 r1 p1 => by
    rw [List.append_nil]
    exact ⟨ι1, h1, vs, R1, r1, p1⟩
/-- a table of calls with data alone says what the def does -/
def PureOk (T : Tab) (n : Nat) (f : List AV → AH → Res AV) : Prop := ∀ vs, T.pcall n vs = .bad ∨ T.pcall n vs = pureVal (f vs .nil)
theorem pure_ok {T : Tab} {n : Nat} {f : List AV → AH → Res AV} (hp : PureOk T n f) (hc : T.call n = f) {vs : List AV} {ws : List V} {Q : VK} (R : Rel N ι h H) (r : VRs N ι H vs ws) (p : PostE N EN ι H (callPure T n vs h) Q) (E : XK) : spN N f ws H Q E := by
  unfold callPure at p
  split at p
  · rename_i nr
    refine ⟨[], .nil, vs, Rel.nil, VRs.noRef nr r, ?_⟩
    rcases hp vs with e | e
    · rw [e] at p
      exact p.elim
    · rw [e] at p
      cases q : f vs .nil with
      | bad =>
        rw [q] at p
        exact p.elim
      | ok v h' =>
        rw [q] at p
        have p : PostE N EN ι H (pureEnd h (if noRef v then .val v else .bad)) Q := p
        split at p
        · rename_i nv
          exact fun ι' H' w x R' r' => p ι H' w x.over (R.over x) (VR.noRef nv r')
        · exact p.elim
      | exc k us h' =>
        rw [q] at p
        have p : PostE N EN ι H (pureEnd h (if noRefs us then .exc k us else .bad)) Q := p
        split at p
        · exact fun ι' H' k' d x R' r' => p ι H' k' d x.over (R.over x) r'
        · exact p.elim
  · rw [hc] at p
    exact ⟨ι, h, vs, R, r, p⟩
theorem e_callP {T : Tab} {n : Nat} {f : List AV → AH → Res AV} {x : Str} {p : Pos} {j k : Nat} (hp : PureOk T n f) (hc : T.call n = f) (c : CalN N X k x f) (hr : Room j X.A) (hk : k ≤ j) (hg : Gl X x) (ha : PA X (e :: es) (rA N ga))
    (hdb : (x == ("__debug__" : Str)) = false := by decide) (he : starEach (e :: es) X.env = (false, eval e X.env) :: starEach es X.env := by rfl) (hpl : (backTo pos (starEach es X.env)).any (·.1) = false := by rfl) :
    PE X (.Call (.Name x p) (e :: es) [] pos) (rE N (cCall T true n ga)) :=
  (C8.pe_c c hr hk hg ha hdb he hpl).imp fun σ H Q ⟨ι, h, sl, R, S, q⟩ => bindA (E := EN) R S q fun ι1 h1 H1 vs ws x1 R1 r1 p1 => by
    rw [List.append_nil]
    exact pure_ok hp hc R1 r1 p1 _
/-- C(..) -/
theorem e_mk {T : Tab} {c : Nat} {x : Str} {p : Pos} {j k : Nat} (ok : ClsOk N c) (m : C8.Mak X.prog X.w X.K X.mg X.base k x (He.ga N.K (N.cls c)) (spN N (T.call (T.init c))) []) (hr : Room j X.A) (hk : k + 1 ≤ j) (hg : Gl X x) (ha : PA X (e :: es) (rA N ga))
    (hdb : (x == ("__debug__" : Str)) = false := by decide) (he : starEach (e :: es) X.env = (false, eval e X.env) :: starEach es X.env := by rfl) (hpl : (backTo pos (starEach es X.env)).any (·.1) = false := by rfl) :
    PE X (.Call (.Name x p) (e :: es) [] pos) (rE N (cMk T c ga)) :=
  (C8.pe_mk m hr hk hg ha hdb he hpl).imp fun σ H Q ⟨ι, h, sl, R, S, q⟩ => bindA (E := EN) R S q fun ι1 h1 H1 vs ws x1 R1 r1 p1 x' dx f1 f2 ne => by
    rw [List.append_nil]
    have R2 := R1.new0 (o := .own x') f2
    have g1 : upd H1 dx (.own x') x' = none := by
      rw [upd_ne (fun e => ne e.symm)]
      exact f1
    have R3 := R2.push (u := .ins (He.ga N.K (N.cls c)) dx []) (o := .ins c []) g1 ⟨ok, dx, [], upd_same, rfl⟩
    have x3 : Ext N ι1 H1 (ι1 ++ [x']) (upd (upd H1 dx (.own x')) x' (.ins (He.ga N.K (N.cls c)) dx [])) := (Ext.new0 f2).trans (Ext.new g1)
    refine ⟨ι1 ++ [x'], h1.push (.ins c []), .ref h1.n :: vs, R3, VRs.cons ⟨x', get_new R1, rfl⟩ (r1.ext x3), ?_⟩
    refine (p1.weak x3).bind.imp fun w H2 ⟨ι2, h2, v, x2, R4, r4, p4⟩ => ?_
    split at p4
    · exact ⟨VR.non r4, fin0 p4 R4 ⟨x', x2.get (get_new R1), rfl⟩⟩
    · exact p4.elim

theorem insAt_V {v : AV} {w : V} {n c : Nat} {fs : List (Nat × AV)} (R : Rel N ι h H) (e : insAt h v = some (n, c, fs)) (r : VR N ι H v w) : ∃ a dx ws, v = .ref n ∧ ι[n]? = some a ∧ w = .ref a ∧ ClsOk N c ∧ H a = some (.ins (He.ga N.K (N.cls c)) dx ws) ∧ FR N ι H fs ws := by
  unfold insAt at e
  split at e
  · rename_i m
    obtain ⟨a, ea, rfl⟩ := VR.rf r
    split at e
    · rename_i c' fs' g
      cases e
      obtain ⟨ok, dx, ws, q, r⟩ := R.at_ ea g
      exact ⟨a, dx, ws, rfl, ea, rfl, ok, q, r⟩
    · cases e
  · cases e
/-- the names of the fields are apart -/
def FldOk (N : Cn) (f : Nat) : Prop := f < N.nf ∧ ∀ g, N.fld g = N.fld f → g = f
theorem fGet_V {f : Nat} (fo : FldOk N f) : ∀ {fs : List (Nat × AV)} {ws : List (Str × V)}, FR N ι H fs ws → ∀ v, fGet f fs = some v → ∃ w, ws.lookup (N.fld f) = some w ∧ VR N ι H v w
  | [], _, _, v, e => by cases e
  | (g, u) :: fs, ws, r, v, e => by
    obtain ⟨w, r', q, a, b⟩ := (show ∃ w s, ws = (N.fld g, w) :: s ∧ VR N ι H u w ∧ FR N ι H fs s from r)
    subst q
    have e : (if Nat.beq g f then some u else fGet f fs) = some v := e
    rw [List.lookup_cons]
    by_cases z : g = f
    · subst z
      rw [Nat.beq_refl, if_pos rfl] at e
      cases e
      rw [beq_self_eq_true]
      exact ⟨w, rfl, a⟩
    · rw [if_neg (fun q => z (Nat.eq_of_beq_eq_true q))] at e
      rw [beq_eq_false_iff_ne.mpr (fun q => z (fo.2 g q.symm))]
      exact fGet_V fo b v e
theorem lookup_none {m : Str} (hm : ∀ g, N.fld g ≠ m) : ∀ {fs : List (Nat × AV)} {ws : List (Str × V)}, FR N ι H fs ws → ws.lookup m = none
  | [], ws, r => by
    have r : ws = [] := r
    subst r
    rfl
  | (g, u) :: fs, ws, r => by
    obtain ⟨w, r', q, a, b⟩ := (show ∃ w s, ws = (N.fld g, w) :: s ∧ VR N ι H u w ∧ FR N ι H fs s from r)
    subst q
    rw [List.lookup_cons, beq_eq_false_iff_ne.mpr (fun q => hm g q.symm)]
    exact lookup_none hm b
theorem e_fld (L : Lx N X) {f : Nat} {nm : Str} (fo : FldOk N f) (en : N.fld f = nm) (he : PE X e (rE N fe)) (hb : attributeBase e nm X.env (eval e X.env) = eval e X.env := by rfl) : PE X (.Attribute e nm pos) (rE N (cFld f fe)) := by
  subst en
  exact (pe_fld he hb).imp fun σ H Q ⟨ι, h, sl, R, S, p⟩ => ⟨ι, h, sl, R, S, p.bind.imp fun w H1 ⟨ι1, h1, v, x1, R1, r1, p1⟩ => by
    split at p1
    · rename_i n c fs g
      obtain ⟨a, dx, ws, rfl, ea, rfl, ok, q, r⟩ := insAt_V R1 g r1
      obtain ⟨v, ev, p2⟩ := PostG.optV p1
      obtain ⟨w, ew, rw'⟩ := fGet_V fo r v ev
      exact ⟨a, _, dx, ws, w, rfl, q, L.K ▸ ok.1, L.K ▸ ok.2 f fo.1, ew, p2 ι1 H1 w Ext.refl R1 rw'⟩
    · exact p1.elim⟩
theorem e_um (L : Lx N X) {T : Tab} {m c0 f0 : Nat} {nm : Str} {j k : Nat} {pl : Sem Bool} (hT : ∀ c f, T.meth c m = some f → c = c0 ∧ f = f0) (hm : ∀ g, N.fld g ≠ nm) (c : C8.Met X.prog X.w X.K X.mg X.base k (He.ga X.K (N.cls c0)) nm (spN N (T.call f0)) []) (hr : Room j X.A) (hk : k ≤ j)
    (ho : PE X o (rE N fo)) (ha : PA X (e :: es) (rA N ga)) (hst : starEach (e :: es) X.env = (false, eval e X.env) :: starEach es X.env := by rfl) (hpl : (backTo pos (starEach es X.env)).any (·.1) = false := by rfl)
    (ht : eval (.Call (.Attribute o nm apos) (e :: es) [] pos) X.env = (do
      let ov ← eval o X.env
      standAt apos.atName
      let (f, first) ← holding [ov] (getMethod ov nm pl)
      callWith pos f first (backTo pos (starEach (e :: es) X.env)) (backToKw pos (keywordEach [] X.env))) := by rfl) :
    PE X (.Call (.Attribute o nm apos) (e :: es) [] pos) (rE N (cUm T m fo ga)) :=
  (C8.pe_mt (pl := pl) c hr hk ho ha hst hpl ht).imp fun σ H Q ⟨ι, h, sl, R, S, p⟩ => ⟨ι, h, sl, R, S, p.bind.imp fun w H1 ⟨ι1, h1, v, x1, R1, r1, p1⟩ => by
    split at p1
    · rename_i n c fs g
      split at p1
      · rename_i f ef
        obtain ⟨rfl, rfl⟩ := hT _ _ ef
        obtain ⟨a, dx, ws, rfl, ea, rfl, ok, q, r⟩ := insAt_V R1 g r1
        refine ⟨a, dx, ws, rfl, L.K ▸ q, lookup_none hm r, bindA (E := EN) R1 (S.ext x1) p1 fun ι2 h2 H2 vs zs x2 R2 r2 p2 => ?_⟩
        rw [List.append_nil]
        exact ⟨ι2, h2, _, R2, VRs.cons (r1.ext x2) r2, p2⟩
      · exact p1.elim
    · exact p1.elim⟩
theorem e_um0 (L : Lx N X) {T : Tab} {m c0 f0 : Nat} {nm : Str} {j k : Nat} {pl : Sem Bool} (hT : ∀ c f, T.meth c m = some f → c = c0 ∧ f = f0) (hm : ∀ g, N.fld g ≠ nm) (c : C8.Met X.prog X.w X.K X.mg X.base k (He.ga X.K (N.cls c0)) nm (spN N (T.call f0)) []) (hr : Room j X.A) (hk : k ≤ j)
    (ho : PE X o (rE N fo))
    (ht : eval (.Call (.Attribute o nm apos) [] [] pos) X.env = (do
      let ov ← eval o X.env
      standAt apos.atName
      let (f, first) ← holding [ov] (getMethod ov nm pl)
      callWith pos f first (backTo pos (starEach [] X.env)) (backToKw pos (keywordEach [] X.env))) := by rfl) :
    PE X (.Call (.Attribute o nm apos) [] [] pos) (rE N (cUm T m fo aNil)) :=
  (C8.pe_mt0 (pl := pl) c hr hk ho ht).imp fun σ H Q ⟨ι, h, sl, R, S, p⟩ => ⟨ι, h, sl, R, S, p.bind.imp fun w H1 ⟨ι1, h1, v, x1, R1, r1, p1⟩ => by
    split at p1
    · rename_i n c fs g
      split at p1
      · rename_i f ef
        obtain ⟨rfl, rfl⟩ := hT _ _ ef
        obtain ⟨a, dx, ws, rfl, ea, rfl, ok, q, r⟩ := insAt_V R1 g r1
        refine ⟨a, dx, ws, rfl, L.K ▸ q, lookup_none hm r, ?_⟩
        show spN N (T.call f) ([V.ref a] ++ []) H1 Q C8.E0
        exact ⟨ι1, h1, _, R1, VRs.cons r1 VRs.nil, p1⟩
      · exact p1.elim
    · exact p1.elim⟩

theorem e_blt (L : Lx N X) (k : BI) {x : Str} {id : String} {p : Pos} (n1 : k ≠ .dictZ) (n2 : k ≠ .tupleZ) (ek : bltV k = .builtin id) (hg : Gl X x) (hm : X.mg x = none) (hv : bootBuiltins x = some (.builtin id)) (ha : PA X (e :: es) (rA N ga)) (hn : x ≠ "__name__" := by decide) (hdb : (x == ("__debug__" : Str)) = false := by decide)
    (he : starEach (e :: es) X.env = (false, eval e X.env) :: starEach es X.env := by rfl) (hpl : (backTo pos (starEach es X.env)).any (·.1) = false := by rfl) : PE X (.Call (.Name x p) (e :: es) [] pos) (rE N (cBlt k ga)) :=
  (pe_callB (ek ▸ cr_A (E := EN) L k n1 n2) hg hm hv ha hn hdb he hpl).imp fun σ H Q ⟨ι, h, sl, R, S, q⟩ => bindA (E := EN) R S q fun ι1 h1 H1 vs ws x1 R1 r1 p1 => ⟨ι1, h1, vs, R1, r1, p1⟩
theorem e_bltT (L : Lx N X) (k : BI) {x : Str} {id : String} {p : Pos} (n1 : k ≠ .dictZ) (n2 : k ≠ .tupleZ) (ek : bltV k = .type id) (hg : Gl X x) (hm : X.mg x = none) (hv : bootBuiltins x = some (.type id)) (ha : PA X (e :: es) (rA N ga)) (hn : x ≠ "__name__" := by decide) (hdb : (x == ("__debug__" : Str)) = false := by decide)
    (he : starEach (e :: es) X.env = (false, eval e X.env) :: starEach es X.env := by rfl) (hpl : (backTo pos (starEach es X.env)).any (·.1) = false := by rfl) : PE X (.Call (.Name x p) (e :: es) [] pos) (rE N (cBlt k ga)) :=
  (pe_callTy (ek ▸ cr_A (E := EN) L k n1 n2) hg hm hv ha hn hdb he hpl).imp fun σ H Q ⟨ι, h, sl, R, S, q⟩ => bindA (E := EN) R S q fun ι1 h1 H1 vs ws x1 R1 r1 p1 => ⟨ι1, h1, vs, R1, r1, p1⟩
theorem e_isi (L : Lx N X) (t : Ty) {y : Str} {p p2 : Pos} (hg : Gl X "isinstance") (hm : X.mg "isinstance" = none) (hgy : Gl X y) (hmy : X.mg y = none) (hvy : bootBuiltins y = some (.type (tyV' t))) (he : PE X e (rE N fe)) (hn : y ≠ "__name__" := by decide) (hd : (y == ("__debug__" : Str)) = false := by decide)
    (hst : starEach [e, .Name y p2] X.env = (false, eval e X.env) :: starEach [.Name y p2] X.env := by rfl) (hpl : (backTo pos (starEach [.Name y p2] X.env)).any (·.1) = false := by rfl) :
    PE X (.Call (.Name "isinstance" p) [e, .Name y p2] [] pos) (rE N (cIsi t fe)) :=
  (pe_callB (cr_isi (E := EN) L t) hg hm rfl (pa_cons he (pa_cons (pe_bltn (v := .ty (tyV' t)) hgy hmy hvy rfl hn hd) pa_nil) hst) (by decide) (by decide) hst hpl).imp fun σ H Q ⟨ι, h, sl, R, S, q⟩ => ⟨ι, h, sl, R, S, q.bind.imp fun w H1 ⟨ι1, h1, v, x1, R1, r1, p1⟩ =>
    ⟨ι1, h1, v, w, rfl, R1, r1, p1⟩⟩
theorem bm_ty (L : Lx N X) {m : BM} {v : AV} {w : V} (R : Rel N ι h H) (e : bmKind m v h = true) (r : VR N ι H v w) : tyV X.K (bmT m) w H := by
  unfold bmKind at e
  split at e
  · rename_i n
    obtain ⟨a, ea, rfl⟩ := VR.rf r
    split at e
    · rename_i xs g
      obtain ⟨ws, ha, ra⟩ := lst_at R ea g
      refine .inl ⟨?_, ws, .of ha⟩
      cases m <;> first | rfl | cases e
    · rename_i ks g
      obtain ⟨ws, ha, ra⟩ := dk_at R ea g
      refine .inr (.inr (.inl ⟨?_, .inl ⟨ws, ha⟩⟩))
      cases m <;> first | rfl | cases e
    · cases e
  · cases e
theorem e_bm (L : Lx N X) (m : BM) {nm : Str} (pa : PlainAttrs (bmT m)) (slot : Slot (bmT m) nm (bmId m)) (hty : typeOf (.builtin (bmId m)) = pure (.type "method_descriptor")) (ho : PE X o (rE N fo)) (ha : PA X (e :: es) (rA N ga))
    (hbase : attributeBase o nm X.env (eval o X.env) = eval o X.env := by rfl)
    (hfew : ((backTo pos (starEach (e :: es) X.env)).all (fun x => !x.1) && (backToKw pos (keywordEach [] X.env)).all (fun x => x.1.isSome)
      && decide ((e :: es).length + ([] : List Keyword).length + (if ([] : List Keyword).isEmpty then 0 else 1) < 30)) = true := by rfl)
    (hline : (apos.endLine == pos.line) = true := by rfl) (hs : starEach (e :: es) X.env = (false, eval e X.env) :: starEach es X.env := by rfl) (hplain : (backTo pos (starEach es X.env)).any (·.1) = false := by rfl) :
    PE X (.Call (.Attribute o nm apos) (e :: es) [] pos) (rE N (cBm m fo ga)) :=
  (pe_bm pa slot hty (bm_A (E := EN) L m) ho ha hbase hfew hline hs hplain).imp fun σ H Q ⟨ι, h, sl, R, S, p⟩ => ⟨ι, h, sl, R, S, p.bind.imp fun w H1 ⟨ι1, h1, v, x1, R1, r1, p1⟩ => by
    split at p1
    · rename_i g
      exact ⟨bm_ty L R1 g r1, bindA (E := EN) R1 (S.ext x1) p1 fun ι2 h2 H2 vs zs x2 R2 r2 p2 => ⟨ι2, h2, v, vs, R2, r1.ext x2, r2, p2⟩⟩
    · exact p1.elim⟩
theorem e_bm0 (L : Lx N X) (m : BM) {nm : Str} (pa : PlainAttrs (bmT m)) (slot : Slot (bmT m) nm (bmId m)) (hty : typeOf (.builtin (bmId m)) = pure (.type "method_descriptor")) (ho : PE X o (rE N fo))
    (h : ∀ r to, MtR X (bmId m) r → PE X o to → PE X (.Call (.Attribute o nm apos) [] [] pos) (tBM0 X.K (bmT m) r to)) :
    PE X (.Call (.Attribute o nm apos) [] [] pos) (rE N (cBm m fo aNil)) :=
  (h _ _ (bm_A (E := EN) L m) ho).imp fun σ H Q ⟨ι, h, sl, R, S, p⟩ => ⟨ι, h, sl, R, S, p.bind.imp fun w H1 ⟨ι1, h1, v, x1, R1, r1, p1⟩ => by
    split at p1
    · rename_i g
      exact ⟨bm_ty L R1 g r1, ι1, h1, v, [], R1, r1, rfl, p1⟩
    · exact p1.elim⟩
end Ev

set_option Elab.async false
set_option linter.all false
set_option maxRecDepth 100000
set_option maxHeartbeats 4000000
set_option autoImplicit false
namespace Ev
open PySem PySem.Spec PyProof.Rows L2
variable {N : Cn} {X : Cx} {ι ι1 ι2 ι' : List Addr} {H H1 H2 H' : Hp} {h h1 h' : AH} {a b c e o : Expr} {es rest : List Expr} {fa fb fc fe fo : FE} {ga gb : FA} {ta tb : FT} {pos apos : Pos}

def tix : RT → List Nat
  | .nm i => [i]
  | .tp ts => tix ts
  | .tnil => []
  | .tcons t r => tix t ++ tix r
structure Chg (ix : List Nat) (σ σ' : L2.St) : Prop where
  len : σ'.length = σ.length
  at_ : ∀ i, i ∉ ix → σ'[i]? = σ[i]?
theorem Chg.refl {ix : List Nat} {σ : L2.St} : Chg ix σ σ := ⟨rfl, fun _ _ => rfl⟩
theorem Chg.trans {ix jx : List Nat} {σ σ1 σ2 : L2.St} (a : Chg ix σ σ1) (b : Chg jx σ1 σ2) : Chg (ix ++ jx) σ σ2 :=
  ⟨b.len.trans a.len, fun i n => (b.at_ i fun m => n (List.mem_append_right _ m)).trans (a.at_ i fun m => n (List.mem_append_left _ m))⟩
def gR (N : Cn) (t : RT) : TG := fun v σ H Q => ∃ ι h av sl sl', Rel N ι h H ∧ SR N ι H sl σ ∧ VR N ι H av v ∧ tgtA t av sl = some sl' ∧ ∀ σ', SR N ι H sl' σ' → Chg (tix t) σ σ' → Q σ' H
def gRs (N : Cn) (t : RT) : TGs := fun vs σ H Q => ∃ ι h avs sl sl', Rel N ι h H ∧ SR N ι H sl σ ∧ VRs N ι H avs vs ∧ tgtA t (.tup avs) sl = some sl' ∧ ∀ σ', SR N ι H sl' σ' → Chg (tix t) σ σ' → Q σ' H
theorem _root_.L2.PG.imp {X : Cx} {e : Expr} {t t' : TG} (p : PG X e t) (f : ∀ v σ H Q, t' v σ H Q → t v σ H Q) : PG X e t' := ⟨fun pins s σ H v u Q I r q => p.run pins s σ H v u Q I r (f v σ H Q q)⟩
theorem _root_.L2.PGs.imp {X : Cx} {e : List Expr} {t t' : TGs} (p : PGs X e t) (f : ∀ v σ H Q, t' v σ H Q → t v σ H Q) : PGs X e t' := ⟨fun pins s σ H v u Q I r q => p.run pins s σ H v u Q I r (f v σ H Q q)⟩
theorem g_name {i : Nat} (hg : PG X e (gName i)) : PG X e (gR N (.nm i)) := hg.imp fun v σ H Q ⟨ι, h, av, sl, sl', R, S, r, eq, q⟩ => by
  have eq : some (sl.set i (some av)) = some sl' := eq
  cases eq
  refine q _ (S.set i r) ⟨List.length_set, fun j n => ?_⟩
  have n : j ∉ [i] := n
  rw [List.getElem?_set_ne (fun z => n (by rw [z]; simp))]
theorem g_nil : PGs X [] (gRs N .tnil) := pgs_nil.imp fun vs σ H Q ⟨ι, h, avs, sl, sl', R, S, r, eq, q⟩ => by
  cases avs with
  | nil =>
    have eq : some sl = some sl' := eq
    cases eq
    have r : vs = [] := r
    exact ⟨r, q σ S .refl⟩
  | cons x xs => cases eq
theorem g_cons {t r : RT} (h1 : PG X e (gR N t)) (h2 : PGs X es (gRs N r)) (hs : (assignEach (e :: es) X.env).map (·.2) = assign e X.env :: (assignEach es X.env).map (·.2) := by rfl) : PGs X (e :: es) (gRs N (.tcons t r)) :=
  (pgs_cons h1 h2 hs).imp fun vs σ H Q ⟨ι, h, avs, sl, sl', R, S, rv, eq, q⟩ => by
    cases avs with
    | nil => cases eq
    | cons x xs =>
      obtain ⟨w, ws, ev, rx, rxs⟩ := (show ∃ w r, vs = w :: r ∧ VR N ι H x w ∧ VRs N ι H xs r from rv)
      have eq : (match tgtA t x sl with
        | some sl' => tgtA r (.tup xs) sl'
        | none => none) = some sl' := eq
      cases e1 : tgtA t x sl with
      | none =>
        rw [e1] at eq
        cases eq
      | some sl1 =>
        rw [e1] at eq
        exact ⟨w, ws, ev, ι, h, x, sl, sl1, R, S, rx, e1, fun σ1 S1 C1 => ⟨ι, h, xs, sl1, sl', R, S1, rxs, eq, fun σ2 S2 C2 => q σ2 S2 (C1.trans C2)⟩⟩
def tlen : RT → Option Nat
  | .nm _ => none
  | .tp _ => none
  | .tnil => some 0
  | .tcons _ r => (tlen r).map (· + 1)
theorem tlen_ok : ∀ (r : RT) (n : Nat) (avs : List AV) (sl sl' : SL), tlen r = some n → tgtA r (.tup avs) sl = some sl' → avs.length = n
  | .nm _, _, _, _, _, e, _ => by cases e
  | .tp _, _, _, _, _, e, _ => by cases e
  | .tnil, n, avs, sl, sl', e, q => by
    cases e
    cases avs with
    | nil => rfl
    | cons _ _ => cases q
  | .tcons t r, n, avs, sl, sl', e, q => by
    have e : (tlen r).map (· + 1) = some n := e
    obtain ⟨k, e1, e2⟩ := Option.map_eq_some_iff.mp e
    subst e2
    cases avs with
    | nil => cases q
    | cons x xs =>
      have q : (match tgtA t x sl with
        | some sl' => tgtA r (.tup xs) sl'
        | none => none) = some sl' := q
      cases e3 : tgtA t x sl with
      | none =>
        rw [e3] at q
        cases q
      | some sl1 =>
        rw [e3] at q
        rw [List.length_cons, tlen_ok r k xs sl1 sl' e1 q]
theorem g_tup (L : Lx N X) {r : RT} {k n : Nat} (hp : PGs X es (gRs N r)) (hl : tlen r = some n := by rfl) (hn : (assignEach es X.env).length = n := by rfl) (hst : (assignEach es X.env).findIdx? (·.1) = none := by rfl) : PG X (.Tuple es k pos) (gR N (.tp r)) :=
  (pg_tup L.calm hp hn hst).imp fun v σ H Q ⟨ι, h, av, sl, sl', R, S, rv, eq, q⟩ => by
    cases av with
    | tup avs =>
      obtain ⟨a, ws, rfl, sa, ra⟩ := VR.tup rv
      have eq : tgtA r (.tup avs) sl = some sl' := eq
      refine ⟨a, ws, rfl, L.K ▸ sa.t, ?_, ι, h, avs, sl, sl', R, S, ra, eq, q⟩
      rw [ra.length]
      exact tlen_ok r n avs sl sl' hl eq
    | non => cases eq
    | bl _ => cases eq
    | int _ => cases eq
    | str _ => cases eq
    | ref _ => cases eq
    | scr _ => cases eq

def SrcR (N : Cn) (ι : List Addr) (H : Hp) (src : Src) (J : It) : Prop := ∀ ι' h' H', Ext N ι H ι' H' → Rel N ι' h' H' → ∀ i, (src.item h' i = some none → J.stop i H') ∧ ∀ v, src.item h' i = some (some v) → J.go i H' ∧ ∀ x H'', J.yld i H' x H'' → Ext N ι' H' ι' H'' ∧ Rel N ι' h' H'' ∧ VR N ι' H'' v x
def rIt (N : Cn) (f : FI) : TI := fun σ H R => ∃ ι h sl, Rel N ι h H ∧ SR N ι H sl σ ∧ PostG N (SrcR N) EN ι H (f sl h) R
theorem _root_.L2.PI.imp {X : Cx} {g e : Expr} {t t' : TI} (p : PI X g e t) (f : ∀ σ H Q, t' σ H Q → t σ H Q) : PI X g e t' := ⟨fun pins s σ H Q I q => p.run pins s σ H Q I (f σ H Q q)⟩
theorem src_live {n : Nat} {a : Addr} (ea : ι[n]? = some a) : SrcR N ι H (.live n) (Itl N.K a) := fun ι' h' H' x R i => by
  have ea' := x.get ea
  constructor
  · intro e
    have e : (match listAt h' n with
      | some xs => some xs[i]?
      | none => none) = some none := e
    split at e
    · rename_i xs g
      obtain ⟨ws, ha, ra⟩ := listAt_sq R ea' g
      cases q : xs[i]? with
      | none => exact ⟨ws, ha, List.getElem?_eq_none_iff.mp ((ra.get i).2 q)⟩
      | some v =>
        rw [q] at e
        cases e
    · cases e
  · intro v e
    have e : (match listAt h' n with
      | some xs => some xs[i]?
      | none => none) = some (some v) := e
    split at e
    · rename_i xs g
      obtain ⟨ws, ha, ra⟩ := listAt_sq R ea' g
      have e : xs[i]? = some v := Option.some.inj e
      obtain ⟨w, ew, rw'⟩ := (ra.get i).1 v e
      refine ⟨⟨ws, w, ha, ew⟩, fun x'' H'' ⟨eH, f⟩ => ?_⟩
      subst eH
      have := f ws ha
      rw [ew] at this
      cases this
      exact ⟨Ext.refl, R, rw'⟩
    · cases e
theorem src_tup {a : Addr} {xs : List AV} {ws : List V} (sa : SqP N.K H a ws) (ra : VRs N ι H xs ws) : SrcR N ι H (.fix xs) (Itt N.K a) := fun ι' h' H' x R i => by
  have sa' := (x.wk.tup _ _ sa).t
  have ra' := ra.ext x
  constructor
  · intro e
    have e : xs[i]? = none := Option.some.inj e
    exact ⟨ws, sa', List.getElem?_eq_none_iff.mp ((ra'.get i).2 e)⟩
  · intro v e
    have e : xs[i]? = some v := Option.some.inj e
    obtain ⟨w, ew, rw'⟩ := (ra'.get i).1 v e
    refine ⟨⟨ws, w, sa', ew⟩, fun x'' H'' ⟨eH, f⟩ => ?_⟩
    subst eH
    have := f ws sa'
    rw [ew] at this
    cases this
    exact ⟨Ext.refl, R, rw'⟩
theorem src_str {x : Str} : SrcR N ι H (.fix (x.cps.toList.map fun c => .str ⟨#[c]⟩)) (Its x) := fun ι' h' H' y R i => by
  constructor
  · intro e
    have e : (x.cps.toList.map fun c => AV.str ⟨#[c]⟩)[i]? = none := Option.some.inj e
    have l := List.getElem?_eq_none_iff.mp e
    rw [List.length_map, Array.length_toList] at l
    exact l
  · intro v e
    have e : (x.cps.toList.map fun c => AV.str ⟨#[c]⟩)[i]? = some v := Option.some.inj e
    rw [List.getElem?_map] at e
    obtain ⟨c, e1, e2⟩ := Option.map_eq_some_iff.mp e
    subst e2
    have e3 : x.cps[i]? = some c := by rw [← Array.getElem?_toList]; exact e1
    refine ⟨(Array.getElem?_eq_some_iff.mp e3).1, fun w H'' ⟨eH, c', ec, ew⟩ => ?_⟩
    subst eH
    rw [e3] at ec
    cases ec
    exact ⟨Ext.refl, R, ew⟩
theorem src_rng {lo : Int} {n : Nat} : SrcR N ι H (.rng lo n) (Itr lo n) := fun ι' h' H' y R i => by
  constructor
  · intro e
    have e : (some (if Nat.blt i n then some (AV.int (lo + i)) else none) : Option (Option AV)) = some none := e
    have e := Option.some.inj e
    split at e
    · cases e
    · rename_i l
      exact Nat.not_lt.mp fun q => l (Nat.ble_eq.mpr q)
  · intro v e
    have e : (some (if Nat.blt i n then some (AV.int (lo + i)) else none) : Option (Option AV)) = some (some v) := e
    have e := Option.some.inj e
    split at e
    · rename_i l
      cases e
      refine ⟨Nat.ble_eq.mp l, fun x H'' ⟨eH, ex⟩ => ?_⟩
      subst eH
      exact ⟨Ext.refl, R, ex⟩
    · cases e
end Ev

set_option Elab.async false
set_option linter.all false
set_option maxRecDepth 100000
set_option maxHeartbeats 4000000
set_option autoImplicit false
namespace Ev
open PySem PySem.Spec PyProof.Rows L2
variable {N : Cn} {X : Cx} {ι ι1 ι2 ι' : List Addr} {H H1 H2 H' : Hp} {h h1 h' : AH} {a b c e o tg iter elt : Expr} {es rest ifs : List Expr} {fa fb fc fe fo fk fv : FE} {ga gb : FA} {ta tb ft : FT} {fi : FI} {pos apos : Pos}

theorem rng_of {i j : Int} {R : It → Hp → Prop} (p : PostG N (SrcR N) EN ι H (rngOf i j h) R) (Rl : Rel N ι h H) : (-1000000000 ≤ i ∧ i ≤ 1000000000) ∧ (-1000000000 ≤ j ∧ j ≤ 1000000000) ∧ R (Itr i (j - i).toNat) H := by
  unfold rngOf at p
  split at p
  · rename_i c
    obtain ⟨c1, c2⟩ := and_t c
    unfold inRange at c1 c2
    obtain ⟨a1, a2⟩ := and_t c1
    obtain ⟨b1, b2⟩ := and_t c2
    exact ⟨⟨of_decide_eq_true a1, of_decide_eq_true a2⟩, ⟨of_decide_eq_true b1, of_decide_eq_true b2⟩, p ι H _ Ext.refl Rl src_rng⟩
  · exact p.elim
theorem i_rng1 {p : Pos} (hg : Gl X "range") (hm : X.mg "range" = none) (ha : PE X a (rE N fa)) (hs : starEach [a] X.env = [(false, eval a X.env)] := by rfl) : PI X tg (.Call (.Name "range" p) [a] [] pos) (rIt N (iRng1A fa)) :=
  (pi_range1 hg hm (pa_cons ha pa_nil hs) hs).imp fun σ H R ⟨ι, h, sl, Rl, S, p⟩ => ⟨ι, h, sl, Rl, S, p.bind.imp fun w H1 ⟨ι1, h1, v, x1, R1, r1, p1⟩ => by
    split at p1
    · rename_i j
      obtain ⟨_, ⟨q1, q2⟩, q⟩ := rng_of p1 R1
      rw [show j - 0 = j by omega] at q
      exact ⟨j, by rw [VR.int r1], by omega, by omega, q⟩
    · exact p1.elim⟩
theorem i_rng2 {p : Pos} (hg : Gl X "range") (hm : X.mg "range" = none) (ha : PE X a (rE N fa)) (hb : PE X b (rE N fb)) (hs : starEach [a, b] X.env = [(false, eval a X.env), (false, eval b X.env)] := by rfl) (hs2 : starEach [b] X.env = [(false, eval b X.env)] := by rfl) : PI X tg (.Call (.Name "range" p) [a, b] [] pos) (rIt N (iRng2A fa fb)) :=
  (pi_range2 hg hm (pa_cons ha (pa_cons hb pa_nil hs2) (by rw [hs2]; exact hs)) hs hs2).imp fun σ H R ⟨ι, h, sl, Rl, S, p⟩ => ⟨ι, h, sl, Rl, S, p.bind.imp fun w H1 ⟨ι1, h1, v, x1, R1, r1, p1⟩ => ⟨ι1, h1, sl, R1, S.ext x1, p1.bind.imp fun w2 H2 ⟨ι2, h2, v2, x2, R2, r2, p2⟩ => by
    cases v with
    | int i =>
      cases v2 with
      | int j =>
        obtain ⟨⟨q3, q4⟩, ⟨q1, q2⟩, q⟩ := rng_of p2 R2
        exact ⟨i, j, by rw [VR.int (r1.ext x2), VR.int r2], ⟨by omega, by omega, by omega, by omega⟩, q⟩
      | _ => exact p2.elim
    | _ => exact p2.elim⟩⟩
/-- a value walked: a list, a tuple, a text -/
theorem i_any (L : Lx N X) (he : PE X e (rE N fe)) : PI X tg e (rIt N (iValA fe)) := by
  refine ⟨fun pins s σ H R I ⟨ι, h, sl, Rl, S, p⟩ => ?_⟩
  refine thn (he.run pins s σ H _ I ⟨ι, h, sl, Rl, S, p.bind⟩) fun v s1 ⟨x, H1, I1, r1, ι1, h1, av, x1, R1, rv, p1⟩ => ?_
  obtain ⟨src, es, q⟩ := PostG.optV p1
  unfold srcOf at es
  split at es
  · cases es
    obtain ⟨a, ws, rfl, sa, ra⟩ := VR.tup rv
    cases r1
    obtain ⟨its, rw', p', hz⟩ := I1.tuple (L.K ▸ sa.t)
    refine wpAny_pyIter_tuple (show s1.heap.IsTuple a its.toArray from p') ?_
    refine ⟨s1.heap.objs.size, [s1.heap.objs.size], _, _, H1, rfl, I1.kept (t' := s1.toks) fun b o e => Heap.get?_push_of_some _ e, turn_tuple a _, ⟨_, Heap.get?_push_size _ rfl, rfl, rfl⟩, fun b hb => ?_, ?_⟩
    · have e : b = s1.heap.objs.size := by simpa using hb
      subst e
      exact I1.fpOk (Nat.le_refl _) (I1.hok.fresh (Nat.le_refl _))
    · exact q ι1 H1 _ Ext.refl R1 (L.K ▸ src_tup sa ra)
  · rename_i y
    have e := VR.str rv
    subst e
    split at es
    · cases es
      obtain ⟨t, rfl⟩ := r1
      have q' := q ι1 H1 _ Ext.refl R1 (src_str (x := y))
      cases ha : y.cps.all (· < 128)
      · exact wpAny_pyIter_wide ha (pi_one (tk := s1.toks) I1 _ (turn_str _ y t "str_iterator" (.inr rfl)) ⟨_, Heap.get?_push_size _ rfl, rfl, rfl⟩ q')
      · exact wpAny_pyIter_ascii ha (pi_one (tk := s1.toks) I1 _ (turn_str _ y t "str_ascii_iterator" (.inl rfl)) ⟨_, Heap.get?_push_size _ rfl, rfl, rfl⟩ q')
    · cases es
  · rename_i n
    obtain ⟨a, ea, rfl⟩ := VR.rf rv
    split at es
    · rename_i xs g
      cases es
      obtain ⟨ws, sa, ra⟩ := listAt_sq R1 ea g
      cases r1
      obtain ⟨its, rw', p', hz⟩ := I1.list (L.K ▸ sa)
      refine wpAny_pyIter_list p'.isList ?_
      refine ⟨s1.heap.objs.size, [s1.heap.objs.size], _, _, H1, rfl, I1.kept (t' := s1.toks) fun b o e => Heap.get?_push_of_some _ e, turn_list a _, ⟨_, Heap.get?_push_size _ rfl, rfl, rfl⟩, fun b hb => ?_, ?_⟩
      · have e : b = s1.heap.objs.size := by simpa using hb
        subst e
        exact I1.fpOk (Nat.le_refl _) (I1.hok.fresh (Nat.le_refl _))
      · exact q ι1 H1 _ Ext.refl R1 (L.K ▸ src_live ea)
    · cases es
  · cases es

theorem Ld.blk (L : Lx N X) (s : Shared) (H : Hp) (scope : Scope) (cenv : Env) (fp : List Addr) : Lx N (X.blk s H scope cenv fp) := ⟨L.K, L.calm, L.nd, L.un, C8.pass0⟩
theorem Res.bind_assoc {α β γ : Type} (r : Res α) (f : α → AH → Res β) (g : β → AH → Res γ) : (r.bind f).bind g = r.bind fun x h => (f x h).bind g := by
  cases r <;> rfl
theorem Rel.notin (R : Rel N ι h H) {D : Addr} (e : H D = none) : D ∉ ι := fun m => by
  obtain ⟨n, ob, _, _, r⟩ := R.mem m
  obtain ⟨u, q, _⟩ := r.kind
  rw [e] at q
  cases q
/-- a thing of ours, not told yet, is told -/
theorem Ext.adopt {D : Addr} (x : Ext N ι1 H1 ι H) (e : H1 D = none) : Ext N ι1 H1 (ι ++ [D]) H :=
  ⟨by obtain ⟨t, q⟩ := x.pre; exact ⟨t ++ [D], by rw [q, List.append_assoc]⟩, x.keep, fun a m n => by
    rcases List.mem_append.mp m with m | m
    · exact x.fresh a m n
    · rw [List.mem_singleton.mp m]
      exact e, x.frz⟩
theorem Wk.grow {t : List Addr} : Wk N ι H (ι ++ t) H := ⟨fun {n a} e => by rw [List.getElem?_append_left (List.getElem?_eq_some_iff.mp e).1]; exact e, fun _ _ _ q => q⟩
/-- a list, a dict of ours, not told, changes -/
theorem Wk.side {D : Addr} {u u' : HO} (e : H D = some u) (n1 : ∀ xs, u ≠ .tup xs) (n2 : ∀ ob xs, u ≠ .frz ob xs) : Wk N ι H ι (upd H D u') := ⟨fun e => e, fun a ob y q => by
  rw [upd_ne]
  · exact q
  · intro ad
    rw [ad, e] at q
    exact n2 _ _ (Option.some.inj q)⟩
theorem Rel.adopt {D : Addr} {o : AO} (R : Rel N ι h H) (n : D ∉ ι) (r : OR N (ι ++ [D]) H o D) : Rel N (ι ++ [D]) (h.push o) H := by
  refine ⟨by rw [List.length_append, R.len]; rfl, ?_, R.full.push, fun m ob q => ?_⟩
  · rw [List.nodup_append]
    exact ⟨R.nd, List.nodup_cons.mpr ⟨by simp, List.nodup_nil⟩, fun a m b mb z => by
      subst z
      rw [List.mem_singleton.mp mb] at m
      exact n m⟩
  · have q2 : (h.t.put h.n o).get m = some ob := q
    rw [Tr.get_put h.t h.n h.n o R.full (Nat.le_refl _)] at q2
    by_cases z : m = h.n
    · rw [if_pos z] at q2
      cases q2
      rw [z]
      exact ⟨D, get_new R, r⟩
    · rw [if_neg z] at q2
      obtain ⟨a, ea, r2⟩ := R.obj m ob q2
      exact ⟨a, Wk.grow.get (N := N) (H := H) ea, r2.wk Wk.grow fun _ z => z⟩
theorem Rel.side {D : Addr} {u u' : HO} (R : Rel N ι h H) (n : D ∉ ι) (e : H D = some u) (n1 : ∀ xs, u ≠ .tup xs) (n2 : ∀ ob xs, u ≠ .frz ob xs) : Rel N ι h (upd H D u') :=
  ⟨R.len, R.nd, R.full, fun m ob q => by
    obtain ⟨a, ea, r⟩ := R.obj m ob q
    refine ⟨a, ea, r.wk (Wk.side e n1 n2) fun w z => ?_⟩
    rw [upd_ne]
    · exact z
    · intro ad
      rw [ad] at ea
      exact n (List.mem_of_getElem? ea)⟩
theorem Ext.side {D : Addr} {u u' : HO} (x : Ext N ι1 H1 ι H) (e1 : H1 D = none) (e : H D = some u) (n1 : ∀ xs, u ≠ .tup xs) (n2 : ∀ ob xs, u ≠ .frz ob xs) : Ext N ι1 H1 ι (upd H D u') :=
  ⟨x.pre, fun a o q n => (by
    rw [upd_ne]
    · exact x.keep a o q n
    · intro ad
      rw [ad, e1] at q
      exact nomatch q), x.fresh, fun a ob y q => (by
    rw [upd_ne]
    · exact x.frz a ob y q
    · intro ad
      have := x.frz a ob y q
      rw [ad, e] at this
      exact n2 _ _ (Option.some.inj this))⟩
theorem wipe_in {σ : L2.St} {i : Nat} : ∀ {vs : List Nat}, i ∈ vs → (wipe σ vs)[i]? = (if i < σ.length then some none else none)
  | [], m => by cases m
  | v :: vs, m => by
    show ((wipe σ vs).set v none)[i]? = _
    by_cases z : v = i
    · subst z
      by_cases l : v < σ.length
      · rw [List.getElem?_set_self (by rw [wipe_length]; exact l), if_pos l]
      · rw [List.getElem?_eq_none (by rw [List.length_set, wipe_length]; omega), if_neg l]
    · rw [List.getElem?_set_ne z]
      rcases List.mem_cons.mp m with e | m
      · exact absurd e.symm z
      · exact wipe_in m
theorem wipe_chg {σ σ' : L2.St} {vs ix : List Nat} (c : Chg ix (wipe σ vs) σ') (sub : ∀ i ∈ ix, i ∈ vs) : wipe σ' vs = wipe σ vs := by
  apply List.ext_getElem?
  intro i
  have l : σ'.length = σ.length := by rw [c.len, wipe_length]
  by_cases m : i ∈ vs
  · rw [wipe_in m, wipe_in m, l]
  · rw [wipe_out m, c.at_ i fun q => m (sub i q)]
theorem ts_nil : PTs X [] (rT N tYesA) := ⟨fun pins s σ H Q I ⟨ι, h, sl, R, S, p⟩ => pts_nil.run pins s σ H Q I (p ι H true Ext.refl R rfl)⟩
theorem ts_one (hc : PT X c (rT N ta)) : PTs X [c] (rT N ta) := pts_one hc
def oR (N : Cn) : List Addr → Hp → Option AV → Option V → Prop := fun ι H a b => match a, b with
  | none, none => True
  | some v, some w => VR N ι H v w
  | _, _ => False
theorem lcm_imp {own : List Nat} {t : RT} (sub : ∀ i ∈ tix t, i ∈ own) (σ : L2.St) (H : Hp) (Q : VK) (p : rE N (cLcm own t fi ft fe) σ H Q) : tLc (rIt N fi) (gR N t) (rT N ft) (rE N fe) own σ H Q := by
  obtain ⟨ι, h, sl, R, S, p⟩ := p
  refine ⟨ι, h, sl, R, S, p.bind.imp fun J H1 ⟨ι1, h1, src, x1, R1, sr, p1⟩ => ?_⟩
  split at p1
  · rename_i c
    have c := Nat.le_of_ble_eq_true c
    have c : src.many h1 ≤ 8000000 := c
    intro D hD
    refine ⟨fun i m H => ∃ ι2 h2 acc ws, Ext N ι1 H1 ι2 H ∧ Rel N ι2 h2 H ∧ D ∉ ι2 ∧ H D = some (.lst ws) ∧ VRs N ι2 H acc.reverse ws ∧ acc.length ≤ i ∧ i + m ≤ src.many h1 ∧ PostE N EN ι1 H1 ((turns src.item (stepL t (wipeA sl own) ft fe) m i acc h2).bind newL) Q,
      ⟨src.many h1, ι1, h1, [], [], Ext.new0 hD, R1.new0 hD, R1.notin hD, upd_same, VRs.nil, Nat.le_refl 0, by omega, p1⟩, fun i m H ⟨ι2, h2, acc, ws, x2, R2, nD, eD, ra, l1, l2, p2⟩ => ?_⟩
    have stop : ∀ (q : PostE N EN ι1 H1 ((Res.ok acc.reverse h2).bind newL) Q) (e : src.item h2 i = some none), J.stop i H ∧ Q (.ref D) H := fun q e => by
      refine ⟨(sr ι2 h2 H x2 R2 i).1 e, ?_⟩
      exact q (ι2 ++ [D]) H (.ref D) (x2.adopt hD) (R2.adopt nD ⟨ws, eD, ra.wk Wk.grow⟩) ⟨D, get_new R2, rfl⟩
    cases m with
    | zero =>
      left
      have p2 : PostE N EN ι1 H1 (Res.bind (match src.item h2 i with
        | some none => .ok acc.reverse h2
        | _ => .bad) newL) Q := p2
      split at p2
      · rename_i e
        exact stop p2 e
      · exact p2.elim
    | succ m =>
      have p2 : PostE N EN ι1 H1 (Res.bind (match src.item h2 i with
        | none => .bad
        | some none => .ok acc.reverse h2
        | some (some v) => (stepL t (wipeA sl own) ft fe v h2).calm.bind fun o h' => match o with
          | some w => turns src.item (stepL t (wipeA sl own) ft fe) m (i + 1) (w :: acc) h'
          | none => turns src.item (stepL t (wipeA sl own) ft fe) m (i + 1) acc h') newL) Q := p2
      split at p2
      · exact p2.elim
      · rename_i e
        exact .inl (stop p2 e)
      · rename_i v e
        right
        obtain ⟨go, yl⟩ := (sr ι2 h2 H x2 R2 i).2 v e
        refine ⟨go, _, fun H' w => ⟨m, Nat.lt_succ_self m, w⟩, fun x H3 y => ?_⟩
        obtain ⟨x3, R3, rv⟩ := yl x H3 y
        have eD3 := x3.keep D _ eD nD
        rw [Res.bind_assoc] at p2
        have p3 := PostG.calm (rel := oR N) (E' := EN) (x2.trans x3) p2
        unfold stepL tgtR at p3
        cases et : tgtA t v (wipeA sl own) with
        | none =>
          rw [et] at p3
          exact p3.elim
        | some sl2 =>
          rw [et] at p3
          have p3 := PostG.bind (rel := eqR) (show PostG N (oR N) EN ι2 H3 ((ft sl2 h2).bind _) _ from p3)
          refine ⟨ι2, h2, v, wipeA sl own, sl2, R3, ((((S.ext x1).ext x2).ext x3).wipe own), rv, et, fun σ' S' C' => ⟨wipe_chg C' sub, ι2, h2, sl2, R3, S', p3.imp fun b H4 ⟨ι4, h4, b', x4, R4, eb, p4⟩ => ?_⟩⟩
          cases eb
          have nD4 : D ∉ ι4 := fun q => by
            by_cases z : D ∈ ι2
            · exact nD z
            · have := x4.fresh D q z
              rw [eD3] at this
              cases this
          have eD4 := x4.keep D _ eD3 nD
          cases b with
          | true =>
            rw [if_pos rfl]
            refine ⟨ι4, h4, sl2, R4, S'.ext x4, (show PostG N (oR N) EN ι4 H4 ((fe sl2 h4).bind _) _ from p4).bind.imp fun y H5 ⟨ι5, h5, w, x5, R5, rw', p5⟩ => ?_⟩
            obtain ⟨ι6, h6, o6, x6, R6, r6, p6⟩ := p5 ι5 H5 (some y) Ext.refl R5 rw'
            cases o6 with
            | none => exact r6.elim
            | some w6 =>
              have eD5 := x6.keep D _ eD3 nD
              have nD6 : D ∉ ι6 := fun q => by
                by_cases z : D ∈ ι2
                · exact nD z
                · have := x6.fresh D q z
                  rw [eD3] at this
                  cases this
              have lw : ws.length = acc.length := by rw [ra.length, List.length_reverse]
              have n1 : ∀ xs, HO.lst ws ≠ .tup xs := fun _ z => by cases z
              have n2 : ∀ ob xs, HO.lst ws ≠ .frz ob xs := fun _ _ z => by cases z
              refine ⟨ws, eD5, by rw [lw, sizeLine_eq]; omega, ι6, h6, w6 :: acc, ws ++ [y], (x2.trans (x3.trans x6)).side hD eD5 n1 n2, R6.side nD6 eD5 n1 n2, nD6, upd_same, ?_, by rw [List.length_cons]; omega, by omega, p6⟩
              rw [List.reverse_cons]
              exact VRs.append ((ra.ext (x3.trans x6)).wk (Wk.side eD5 n1 n2)) (VRs.cons (VR.wk (Wk.side eD5 n1 n2) r6) VRs.nil)
          | false =>
            rw [if_neg (by simp)]
            obtain ⟨ι6, h6, o6, x6, R6, r6, p6⟩ := p4 ι4 H4 none Ext.refl R4 trivial
            cases o6 with
            | some w6 => exact r6.elim
            | none =>
              have eD5 := x6.keep D _ eD3 nD
              have nD6 : D ∉ ι6 := fun q => by
                by_cases z : D ∈ ι2
                · exact nD z
                · have := x6.fresh D q z
                  rw [eD3] at this
                  cases this
              exact ⟨ι6, h6, acc, ws, x2.trans (x3.trans x6), R6, nD6, eD5, ra.ext (x3.trans x6), by omega, by omega, p6⟩
  · exact p1.elim
end Ev

set_option Elab.async false
set_option linter.all false
set_option maxRecDepth 100000
set_option maxHeartbeats 4000000
set_option autoImplicit false
namespace Ev
open PySem PySem.Spec PyProof.Rows L2
variable {N : Cn} {X : Cx} {ι ι1 ι2 ι' : List Addr} {H H1 H2 H' : Hp} {h h1 h' : AH} {a b c e o tg iter elt kx vx : Expr} {es rest ifs : List Expr} {fa fb fc fe fo fk fv : FE} {ga gb : FA} {ta tb ft : FT} {fi : FI} {pos apos : Pos}
def oRD (N : Cn) : List Addr → Hp → Option (Key × AV) → Option (Key × V) → Prop := fun ι H a b => match a, b with
  | none, none => True
  | some (k, v), some (q, w) => k = q ∧ VR N ι H v w
  | _, _ => False
theorem dcm_imp {own : List Nat} {t : RT} (sub : ∀ i ∈ tix t, i ∈ own) (σ : L2.St) (H : Hp) (Q : VK) (p : rE N (cDcm own t fi ft fk fe) σ H Q) : tDc (rIt N fi) (gR N t) (rT N ft) (rE N fk) (rE N fe) own σ H Q := by
  obtain ⟨ι, h, sl, R, S, p⟩ := p
  refine ⟨ι, h, sl, R, S, p.bind.imp fun J H1 ⟨ι1, h1, src, x1, R1, sr, p1⟩ => ?_⟩
  split at p1
  · rename_i c
    have c := Nat.le_of_ble_eq_true c
    have c : src.many h1 ≤ 8000000 := c
    intro D hD
    refine ⟨fun i m H => ∃ ι2 h2 acc ws, Ext N ι1 H1 ι2 H ∧ Rel N ι2 h2 H ∧ D ∉ ι2 ∧ H D = some (.dK ws) ∧ DR N ι2 H acc ws ∧ (acc.map (·.1)).Nodup ∧ acc.length ≤ i ∧ i + m ≤ src.many h1 ∧ PostE N EN ι1 H1 ((turnsD src.item (stepD t (wipeA sl own) ft fk fe) m i acc h2).bind newD) Q,
      ⟨src.many h1, ι1, h1, [], [], Ext.new0 hD, R1.new0 hD, R1.notin hD, upd_same, rfl, List.nodup_nil, Nat.le_refl 0, by omega, p1⟩, fun i m H ⟨ι2, h2, acc, ws, x2, R2, nD, eD, ra, nd, l1, l2, p2⟩ => ?_⟩
    have stop : ∀ (q : PostE N EN ι1 H1 ((Res.ok acc h2).bind newD) Q) (e : src.item h2 i = some none), J.stop i H ∧ Q (.ref D) H := fun q e => by
      refine ⟨(sr ι2 h2 H x2 R2 i).1 e, ?_⟩
      exact q (ι2 ++ [D]) H (.ref D) (x2.adopt hD) (R2.adopt nD ⟨nd, ws, eD, ra.wk Wk.grow⟩) ⟨D, get_new R2, rfl⟩
    cases m with
    | zero =>
      left
      have p2 : PostE N EN ι1 H1 (Res.bind (match src.item h2 i with
        | some none => .ok acc h2
        | _ => .bad) newD) Q := p2
      split at p2
      · rename_i e
        exact stop p2 e
      · exact p2.elim
    | succ m =>
      have p2 : PostE N EN ι1 H1 (Res.bind (match src.item h2 i with
        | none => .bad
        | some none => .ok acc h2
        | some (some v) => (stepD t (wipeA sl own) ft fk fe v h2).calm.bind fun o h' => match o with
          | some (q, w) => turnsD src.item (stepD t (wipeA sl own) ft fk fe) m (i + 1) (dPut q w acc) h'
          | none => turnsD src.item (stepD t (wipeA sl own) ft fk fe) m (i + 1) acc h') newD) Q := p2
      split at p2
      · exact p2.elim
      · rename_i e
        exact .inl (stop p2 e)
      · rename_i v e
        right
        obtain ⟨go, yl⟩ := (sr ι2 h2 H x2 R2 i).2 v e
        refine ⟨go, _, fun H' w => ⟨m, Nat.lt_succ_self m, w⟩, fun x H3 y => ?_⟩
        obtain ⟨x3, R3, rv⟩ := yl x H3 y
        have eD3 := x3.keep D _ eD nD
        rw [Res.bind_assoc] at p2
        have p3 := PostG.calm (rel := oRD N) (E' := EN) (x2.trans x3) p2
        unfold stepD tgtR at p3
        cases et : tgtA t v (wipeA sl own) with
        | none =>
          rw [et] at p3
          exact p3.elim
        | some sl2 =>
          rw [et] at p3
          have p3 := PostG.bind (rel := eqR) (show PostG N (oRD N) EN ι2 H3 ((ft sl2 h2).bind _) _ from p3)
          refine ⟨ι2, h2, v, wipeA sl own, sl2, R3, ((((S.ext x1).ext x2).ext x3).wipe own), rv, et, fun σ' S' C' => ⟨wipe_chg C' sub, ι2, h2, sl2, R3, S', p3.imp fun b H4 ⟨ι4, h4, b', x4, R4, eb, p4⟩ => ?_⟩⟩
          cases eb
          have nD4 : D ∉ ι4 := fun q => by
            by_cases z : D ∈ ι2
            · exact nD z
            · have := x4.fresh D q z
              rw [eD3] at this
              cases this
          have eD4 := x4.keep D _ eD3 nD
          cases b with
          | true =>
            rw [if_pos rfl]
            refine ⟨ι4, h4, sl2, R4, S'.ext x4, (show PostG N (oRD N) EN ι4 H4 ((fk sl2 h4).bind _) _ from p4).bind.imp fun ky Hk ⟨ιk, hk, k, xk, Rk, rk, pk⟩ => ⟨ιk, hk, sl2, Rk, (S'.ext x4).ext xk, (show PostG N (oRD N) EN ιk Hk ((fe sl2 hk).bind _) _ from pk).bind.imp fun y H5 ⟨ι5, h5, w, x5, R5, rw', p5⟩ => ?_⟩⟩
            split at p5
            · rename_i q' eq'
              have kx := keyOf_V eq' (rk.ext x5)
              obtain ⟨ι6, h6, o6, x6, R6, r6, p6⟩ := p5 ι5 H5 (some (q', y)) Ext.refl R5 ⟨rfl, rw'⟩
              cases o6 with
              | none => exact r6.elim
              | some w6 =>
                obtain ⟨q6, w6⟩ := w6
                obtain ⟨rfl, r6⟩ := r6
                have eD5 := x6.keep D _ eD3 nD
                have nD6 : D ∉ ι6 := fun q => by
                  by_cases z : D ∈ ι2
                  · exact nD z
                  · have := x6.fresh D q z
                    rw [eD3] at this
                    cases this
                have lw : ws.length = acc.length := ra.length
                have n1 : ∀ xs, HO.dK ws ≠ .tup xs := fun _ z => by cases z
                have n2 : ∀ ob xs, HO.dK ws ≠ .frz ob xs := fun _ _ z => by cases z
                have wk : Wk N ι6 H5 ι6 (upd H5 D (.dK (putK ws q6 y))) := Wk.side eD5 n1 n2
                have lp : ∀ (l : List (Key × AV)), (dPut q6 w6 l).length ≤ l.length + 1 := fun l => by
                  induction l with
                  | nil => exact Nat.le_refl _
                  | cons p l ih =>
                    obtain ⟨p1, p2⟩ := p
                    show (if keyEq p1 q6 then (p1, w6) :: l else (p1, p2) :: dPut q6 w6 l).length ≤ _
                    split
                    · rw [List.length_cons, List.length_cons]
                      omega
                    · rw [List.length_cons, List.length_cons]
                      omega
                have := lp acc
                exact ⟨ws, q6, kx, eD5, by rw [lw, sizeLine_eq]; omega, ι6, h6, dPut q6 w6 acc, putK ws q6 y, (x2.trans (x3.trans x6)).side hD eD5 n1 n2, R6.side nD6 eD5 n1 n2, nD6, upd_same, put_V (r6.wk wk) ((ra.ext (x3.trans x6)).wk wk) nd, dPut_nd nd, by omega, by omega, p6⟩
            · exact p5.elim
          | false =>
            rw [if_neg (by simp)]
            obtain ⟨ι6, h6, o6, x6, R6, r6, p6⟩ := p4 ι4 H4 none Ext.refl R4 trivial
            cases o6 with
            | some w6 => exact r6.elim
            | none =>
              have eD5 := x6.keep D _ eD3 nD
              have nD6 : D ∉ ι6 := fun q => by
                by_cases z : D ∈ ι2
                · exact nD z
                · have := x6.fresh D q z
                  rw [eD3] at this
                  cases this
              exact ⟨ι6, h6, acc, ws, x2.trans (x3.trans x6), R6, nD6, eD5, ra.ext (x3.trans x6), nd, by omega, by omega, p6⟩
  · exact p1.elim

theorem sub_of {own ix : List Nat} (h : (ix.all fun i => own.contains i) = true) : ∀ i ∈ ix, i ∈ own := fun i m => by
  have := List.all_eq_true.mp h i m
  exact List.contains_iff_mem.mp this
abbrev BPG (N : Cn) (X : Cx) (scope : Scope) (tg : Expr) (t : RT) : Prop := ∀ (s : Shared) (H : Hp) (C : Addr) (cl : List (Str × Addr)) (fp : List Addr), PG (X.blk s H scope (compEnvC scope cl C X.env) fp) tg (gR N t)
abbrev BPTs (N : Cn) (X : Cx) (scope : Scope) (ifs : List Expr) (ft : FT) : Prop := ∀ (s : Shared) (H : Hp) (C : Addr) (cl : List (Str × Addr)) (fp : List Addr), PTs (X.blk s H scope (compEnvC scope cl C X.env) fp) ifs (rT N ft)
abbrev BPE (N : Cn) (X : Cx) (scope : Scope) (e : Expr) (fe : FE) : Prop := ∀ (s : Shared) (H : Hp) (C : Addr) (cl : List (Str × Addr)) (fp : List Addr), PE (X.blk s H scope (compEnvC scope cl C X.env) fp) e (rE N fe)
theorem e_lcm (L : Lx N X) {scope : Scope} (own : List (Str × Nat)) {vs : List Nat} {t : RT} (eo : own.map (·.2) = vs) (sub : ((tix t).all fun i => vs.contains i) = true) (hi : PI X tg iter (rIt N fi)) (ok : BlkOk X.N X.env.scope scope own) (hg : BPG N X scope tg t) (ht : BPTs N X scope ifs ft) (he : BPE N X scope elt fe)
    (hs : ∀ x, foldedSetIterable iter X.env x = pure x := by intro _; rfl) : PE X (.ListComp elt [⟨tg, iter, ifs, 0⟩] scope pos) (rE N (cLcm vs t fi ft fe)) := by
  have := pe_lc (pos := pos) L.calm L.nd hi ok hg ht he hs
  rw [eo] at this
  exact this.imp (lcm_imp (sub_of sub))
theorem e_dcm (L : Lx N X) {scope : Scope} (own : List (Str × Nat)) {vs : List Nat} {t : RT} (eo : own.map (·.2) = vs) (sub : ((tix t).all fun i => vs.contains i) = true) (hi : PI X tg iter (rIt N fi)) (ok : BlkOk X.N X.env.scope scope own) (hg : BPG N X scope tg t) (ht : BPTs N X scope ifs ft) (hk : BPE N X scope kx fk) (he : BPE N X scope vx fe)
    (hs : ∀ x, foldedSetIterable iter X.env x = pure x := by intro _; rfl) : PE X (.DictComp kx vx [⟨tg, iter, ifs, 0⟩] scope pos) (rE N (cDcm vs t fi ft fk fe)) := by
  have := pe_dc (pos := pos) L.calm L.nd hi ok hg ht hk he hs
  rw [eo] at this
  exact this.imp (dcm_imp (sub_of sub))
end Ev

set_option Elab.async false
set_option linter.all false
set_option maxRecDepth 100000
set_option maxHeartbeats 4000000
set_option autoImplicit false
namespace Ev
open PySem PySem.Spec PyProof.Rows L2
variable {N : Cn} {X : Cx} {ι ι1 ι2 ι' : List Addr} {H H1 H2 H' : Hp} {h h1 h' : AH} {a b c e o i tg iter elt kx vx : Expr} {es rest ifs : List Expr} {st : Stmt} {sts body orelse : List Stmt} {fa fb fc fe fo fk fv : FE} {ga gb : FA} {ta tb ft : FT} {fi : FI} {f g : FS} {pos apos spos : Pos}

def PostS (N : Cn) (ι : List Addr) (H : Hp) (r : RSt) (D : Ends) : Prop := match r with
  | .nx sl h' => ∀ ι' H' σ', Ext N ι H ι' H' → Rel N ι' h' H' → SR N ι' H' sl σ' → D.nx σ' H'
  | .rt v h' => ∀ ι' H' w, Ext N ι H ι' H' → Rel N ι' h' H' → VR N ι' H' v w → D.rt w H'
  | .bk sl h' => ∀ ι' H' σ', Ext N ι H ι' H' → Rel N ι' h' H' → SR N ι' H' sl σ' → D.bk σ' H'
  | .ct sl h' => ∀ ι' H' σ', Ext N ι H ι' H' → Rel N ι' h' H' → SR N ι' H' sl σ' → D.ct σ' H'
  | .exc c us h' => ∀ ι' H' k d, Ext N ι H ι' H' → Rel N ι' h' H' → N.exr c us k d H' → EN k d H'
  | .bad => False
theorem PostS.weak {r : RSt} {D : Ends} (x : Ext N ι H ι1 H1) (p : PostS N ι H r D) : PostS N ι1 H1 r D := by
  cases r with
  | nx sl h' => exact fun ι' H' σ' y => p ι' H' σ' (x.trans y)
  | rt v h' => exact fun ι' H' σ' y => p ι' H' σ' (x.trans y)
  | bk sl h' => exact fun ι' H' σ' y => p ι' H' σ' (x.trans y)
  | ct sl h' => exact fun ι' H' σ' y => p ι' H' σ' (x.trans y)
  | exc c us h' => exact fun ι' H' k d y => p ι' H' k d (x.trans y)
  | bad => exact p
theorem PostS.res {α β : Type} {rel : List Addr → Hp → α → β → Prop} {r : Res α} {k : α → AH → RSt} {D : Ends} (p : PostS N ι H (r.st k) D) : PostG N rel EN ι H r fun w H1 => ∃ ι1 h1 v, Ext N ι H ι1 H1 ∧ Rel N ι1 h1 H1 ∧ rel ι1 H1 v w ∧ PostS N ι1 H1 (k v h1) D := by
  cases r with
  | ok v h' => exact fun ι' H' w y R q => ⟨ι', h', v, y, R, q, PostS.weak y p⟩
  | exc c us h' => exact p
  | bad => exact p.elim
theorem PostS.seq {r : RSt} {k : FS} {D : Ends} (p : PostS N ι H (r.seq k) D) : PostS N ι H r { D with nx := fun σ' H' => ∃ ι' h' sl', Rel N ι' h' H' ∧ SR N ι' H' sl' σ' ∧ PostS N ι' H' (k sl' h') D } := by
  cases r with
  | nx sl h' => exact fun ι' H' σ' y R S => ⟨ι', h', sl, R, S, PostS.weak y p⟩
  | rt v h' => exact p
  | bk sl h' => exact p
  | ct sl h' => exact p
  | exc c us h' => exact p
  | bad => exact p
def tS (N : Cn) (f : FS) : TS := fun D σ H => ∃ ι h sl, Rel N ι h H ∧ SR N ι H sl σ ∧ PostS N ι H (f sl h) D

theorem ss_nil : PSs X [] (tS N sNil) := pss_nil.imp fun D σ H ⟨ι, h, sl, R, S, p⟩ => p ι H σ Ext.refl R S
theorem ss_cons (h1 : PS X st (tS N f)) (h2 : PSs X sts (tS N g)) : PSs X (st :: sts) (tS N (sSeq f g)) := (pss_cons h1 h2).imp fun D σ H ⟨ι, h, sl, R, S, p⟩ => ⟨ι, h, sl, R, S, PostS.seq p⟩
theorem s_pass : PS X (.Pass pos) (tS N sNil) := ps_pass.imp fun D σ H ⟨ι, h, sl, R, S, p⟩ => p ι H σ Ext.refl R S
theorem s_brk : PS X (.Break pos) (tS N sBrk) := ps_break.imp fun D σ H ⟨ι, h, sl, R, S, p⟩ => p ι H σ Ext.refl R S
theorem s_cont : PS X (.Continue pos) (tS N sCont) := ps_continue.imp fun D σ H ⟨ι, h, sl, R, S, p⟩ => p ι H σ Ext.refl R S
theorem s_never : PS X st (tS N sNever) := ps_never.imp fun D σ H ⟨ι, h, sl, R, S, p⟩ => p
theorem s_exp (he : PE X e (rE N fe)) (hs : swapsWith e none pos.line X.env = pure false := by rfl) : PS X (.Expr e pos) (tS N (sExp fe)) :=
  (ps_expr he hs).imp fun D σ H ⟨ι, h, sl, R, S, p⟩ => ⟨ι, h, sl, R, S, (PostS.res p).imp fun w H1 ⟨ι1, h1, v, x1, R1, r1, p1⟩ => p1 ι1 H1 σ Ext.refl R1 (S.ext x1)⟩
theorem s_doc {x : Str} {j} {p2 : Pos} : PS X (.Expr (.Constant (.str x) j pos) p2) (tS N (sExp (cCst (.str x)))) :=
  ps_doc.imp fun D σ H ⟨ι, h, sl, R, S, p⟩ => p ι H σ Ext.refl R S
theorem s_ret (he : PE X e (rE N fe)) : PS X (.Return (some e) pos) (tS N (sRet fe)) :=
  (ps_ret he).imp fun D σ H ⟨ι, h, sl, R, S, p⟩ => ⟨ι, h, sl, R, S, (PostS.res p).imp fun w H1 ⟨ι1, h1, v, x1, R1, r1, p1⟩ => p1 ι1 H1 w Ext.refl R1 r1⟩
theorem s_retN : PS X (.Return none pos) (tS N sRetN) := ps_retN.imp fun D σ H ⟨ι, h, sl, R, S, p⟩ => p ι H .non Ext.refl R rfl
theorem s_if (hc : PT X c (rT N ta)) (ha : PSs X body (tS N f)) (hb : PSs X orelse (tS N g)) : PS X (.If c body orelse pos) (tS N (sIf ta f g)) :=
  (ps_if hc ha hb).imp fun D σ H ⟨ι, h, sl, R, S, p⟩ => ⟨ι, h, sl, R, S, (PostS.res (rel := eqR) p).imp fun w H1 ⟨ι1, h1, v, x1, R1, r1, p1⟩ => by
    cases r1
    split at p1
    · rw [if_pos rfl]
      exact ⟨ι1, h1, sl, R1, S.ext x1, p1⟩
    · rw [if_neg (by simp)]
      exact ⟨ι1, h1, sl, R1, S.ext x1, p1⟩⟩

theorem asg_imp {t : RT} (D : Ends) (σ : L2.St) (H : Hp) (q : tS N (sAsg t fe) D σ H) : tAsg (rE N fe) (gR N t) D σ H := by
  obtain ⟨ι, h, sl, R, S, p⟩ := q
  refine ⟨ι, h, sl, R, S, (PostS.res p).imp fun w H1 ⟨ι1, h1, v, x1, R1, r1, p1⟩ => ?_⟩
  unfold tgtR at p1
  cases et : tgtA t v sl with
  | none =>
    rw [et] at p1
    exact p1.elim
  | some sl' =>
    rw [et] at p1
    exact ⟨ι1, h1, v, sl, sl', R1, S.ext x1, r1, et, fun σ' S' C' => p1 ι1 H1 σ' Ext.refl R1 S'⟩
theorem s_asg {t : RT} (he : PE X e (rE N fe)) (hg : PG X tg (gR N t)) (hs : swapsWithSole [tg] e pos.line X.env = pure false := by rfl) (hw : swappedStores [tg] e X.env = pure none := by rfl)
    (h1 : (assignEach [tg] X.env).map (·.2) = [assign tg X.env] := by rfl) : PS X (.Assign [tg] e pos) (tS N (sAsg t fe)) := (ps_asg he hg hs hw h1).imp asg_imp
theorem setN_imp {k : Nat} {t : TE} (hT : ∀ σ H Q, rE N fe σ H Q → t σ H Q) (D : Ends) (σ : L2.St) (H : Hp) (q : tS N (sAsg (.nm k) fe) D σ H) : tAsg t (gName k) D σ H := by
  obtain ⟨ι, h, sl, R, S, p⟩ := q
  exact hT σ H _ ⟨ι, h, sl, R, S, (PostS.res p).imp fun w H1 ⟨ι1, h1, v, x1, R1, r1, p1⟩ => p1 ι1 H1 _ Ext.refl R1 ((S.ext x1).set k r1)⟩
theorem s_set (L : Lx N X) (k : Nat) {x : Str} {p2 : Pos} (hi : X.N[k]? = some x) (hx : Loc X.env.scope x) (he : PE X e (rE N fe)) (hs : swapsWith e (some (.Name x p2)) pos.line X.env = pure false := by rfl) (hf : X.fn x = true ∨ X.env.scope.names.lookup x = some .local := by first | exact .inl rfl | exact .inr rfl | assumption) :
    PS X (.Assign [.Name x p2] e pos) (tS N (sAsg (.nm k) fe)) := (ps_set L.nd hi hx he hs hf).imp (setN_imp fun _ _ _ q => q)
theorem s_setLc (L : Lx N X) (k : Nat) {y : Str} {py : Pos} {scope : Scope} (own : List (Str × Nat)) {vs : List Nat} {t : RT} (eo : own.map (·.2) = vs) (sub : ((tix t).all fun i => vs.contains i) = true) (hy : X.N[k]? = some y) (hyl : X.env.scope.names.lookup y = some .local)
    (hi : PI X tg iter (rIt N fi)) (ok : BlkOk X.N X.env.scope scope own) (hg : BPG N X scope tg t) (ht : BPTs N X scope ifs ft) (he : BPE N X scope elt fe)
    (hk : X.env.scope.kind = .function := by rfl) (hl : (py.line == pos.line) = true := by rfl) (ha : (scope.names.any fun (n, k) => n == y && (k == .local || k == .cell)) = false := by decide +kernel)
    (hs : ∀ x, foldedSetIterable iter X.env x = pure x := by intro _; rfl) : PS X (.Assign [.Name y py] (.ListComp elt [⟨tg, iter, ifs, 0⟩] scope pos) spos) (tS N (sAsg (.nm k) (cLcm vs t fi ft fe))) := by
  have := ps_setLc (py := py) (pos := pos) (spos := spos) L.calm L.nd hy hyl (sw_true hk hyl hl ha) hi ok hg ht he hs
  rw [eo] at this
  exact this.imp (setN_imp (lcm_imp (sub_of sub)))
theorem par_st {is : List Nat} {D : Ends} {σ : L2.St} {sl : SL} (S : SR N ι H sl σ) (p : PostS N ι H (sPar is ga sl h) D) : PostA N EN ι H (ga sl h) fun ws H1 => ∃ ι1 h1 vs sl', Ext N ι H ι1 H1 ∧ Rel N ι1 h1 H1 ∧ VRs N ι1 H1 vs ws ∧ setAll is vs sl = some sl' ∧ PostS N ι1 H1 (.nx sl' h1) D :=
  (PostS.res (rel := VRs N) p).imp fun w H1 ⟨ι1, h1, v, x1, R1, r1, p1⟩ => by
    cases e : setAll is v sl with
    | none =>
      rw [e] at p1
      exact p1.elim
    | some sl' =>
      rw [e] at p1
      exact ⟨ι1, h1, v, sl', x1, R1, r1, e, p1⟩
theorem setAll2 {i j : Nat} {vs : List AV} {ws : List V} {sl sl' : SL} {σ : L2.St} (S : SR N ι H sl σ) (r : VRs N ι H vs ws) (e : setAll [i, j] vs sl = some sl') : ∃ v w, ws = [v, w] ∧ SR N ι H sl' ((σ.set i (some v)).set j (some w)) := by
  match vs, e with
  | [x, y], e =>
    have e : some ((sl.set i (some x)).set j (some y)) = some sl' := e
    cases e
    obtain ⟨w, z, rfl, r1, r2⟩ := VRs.two r
    exact ⟨w, z, rfl, (S.set i r1).set j r2⟩
  | [], e => cases e
  | [_], e => cases e
  | _ :: _ :: _ :: _, e => cases e
theorem s_par (L : Lx N X) (i j : Nat) {x y : Str} {px py pt : Pos} {kt k2 pt2} (hi : X.N[i]? = some x) (hj : X.N[j]? = some y) (hij : i ≠ j)
    (hx : X.env.scope.names.lookup x = some .local) (hy : X.env.scope.names.lookup y = some .local) (ha : PA X [a, b] (rA N ga))
    (hw : swappedStores [.Tuple [.Name x px, .Name y py] kt pt] (.Tuple [a, b] k2 pt2) X.env = pure (some [x, y]))
    (hs : swapsWithSole [.Tuple [.Name x px, .Name y py] kt pt] (.Tuple [a, b] k2 pt2) pos.line X.env = pure false := by rfl) :
    PS X (.Assign [.Tuple [.Name x px, .Name y py] kt pt] (.Tuple [a, b] k2 pt2) pos) (tS N (sPar [i, j] ga)) :=
  (ps_par L.calm L.nd hi hj hij hx hy ha hw hs).imp fun D σ H ⟨ι, h, sl, R, S, p⟩ => ⟨ι, h, sl, R, S, (par_st S p).imp fun ws H1 ⟨ι1, h1, vs, sl', x1, R1, r1, e, p1⟩ => by
    obtain ⟨v, w, rfl, S'⟩ := setAll2 (S.ext x1) r1 e
    exact ⟨v, w, rfl, p1 ι1 H1 _ Ext.refl R1 S'⟩⟩
theorem s_par3 (L : Lx N X) (i j l : Nat) {x y z : Str} {px py pz pt : Pos} {kt k2 pt2} (hi : X.N[i]? = some x) (hj : X.N[j]? = some y) (hl : X.N[l]? = some z) (hij : i ≠ j) (hil : i ≠ l) (hjl : j ≠ l)
    (hx : X.env.scope.names.lookup x = some .local) (hy : X.env.scope.names.lookup y = some .local) (hz : X.env.scope.names.lookup z = some .local) (ha : PA X [a, b, c] (rA N ga))
    (hw : swappedStores [.Tuple [.Name x px, .Name y py, .Name z pz] kt pt] (.Tuple [a, b, c] k2 pt2) X.env = pure (some [x, y, z]))
    (hs : swapsWithSole [.Tuple [.Name x px, .Name y py, .Name z pz] kt pt] (.Tuple [a, b, c] k2 pt2) pos.line X.env = pure false := by rfl) :
    PS X (.Assign [.Tuple [.Name x px, .Name y py, .Name z pz] kt pt] (.Tuple [a, b, c] k2 pt2) pos) (tS N (sPar [i, j, l] ga)) :=
  (ps_par3 L.calm L.nd hi hj hl hij hil hjl hx hy hz ha hw hs).imp fun D σ H ⟨ι, h, sl, R, S, p⟩ => ⟨ι, h, sl, R, S, (par_st S p).imp fun ws H1 ⟨ι1, h1, vs, sl', x1, R1, r1, e, p1⟩ => by
    match vs, e with
    | [u1, u2, u3], e =>
      have e : some (((sl.set i (some u1)).set j (some u2)).set l (some u3)) = some sl' := e
      cases e
      obtain ⟨w1, ws1, rfl, q1, q2⟩ := (show ∃ w r, ws = w :: r ∧ VR N ι1 H1 u1 w ∧ VRs N ι1 H1 [u2, u3] r from r1)
      obtain ⟨w2, w3, rfl, q3, q4⟩ := VRs.two q2
      exact ⟨w1, w2, w3, rfl, p1 ι1 H1 _ Ext.refl R1 ((((S.ext x1).set i q1).set j q3).set l q4)⟩
    | [], e => cases e
    | [_], e => cases e
    | [_, _], e => cases e
    | _ :: _ :: _ :: _ :: _, e => cases e⟩

theorem FR.length : ∀ {fs : List (Nat × AV)} {ws : List (Str × V)}, FR N ι H fs ws → ws.length = fs.length
  | [], _, h => by
    have e : _ = [] := h
    rw [e]
    rfl
  | v :: vs, _, h => by
    obtain ⟨w, r, e, _, b⟩ := (show ∃ w r, _ = (N.fld v.1, w) :: r ∧ VR N ι H v.2 w ∧ FR N ι H vs r from h)
    rw [e, List.length_cons, List.length_cons, FR.length b]
theorem putF_V {k : Nat} (fo : FldOk N k) {v : AV} {w : V} (rv : VR N ι H v w) : ∀ {fs : List (Nat × AV)} {ws : List (Str × V)}, FR N ι H fs ws → FR N ι H (fPut k v fs) (L2.putF (N.fld k) w ws)
  | [], ws, r => by
    have r : ws = [] := r
    subst r
    exact ⟨w, [], rfl, rv, rfl⟩
  | (g, u) :: fs, ws, r => by
    obtain ⟨z, r', q, a, b⟩ := (show ∃ w s, ws = (N.fld g, w) :: s ∧ VR N ι H u w ∧ FR N ι H fs s from r)
    subst q
    show FR N ι H (if Nat.beq g k then (g, v) :: fs else (g, u) :: fPut k v fs) (if N.fld g = N.fld k then (N.fld g, w) :: r' else (N.fld g, z) :: L2.putF (N.fld k) w r')
    by_cases e : g = k
    · subst e
      rw [Nat.beq_refl, if_pos rfl, if_pos rfl]
      exact ⟨w, r', rfl, rv, b⟩
    · rw [if_neg (fun q => e (Nat.eq_of_beq_eq_true q)), if_neg (fun q => e (fo.2 g q))]
      exact ⟨z, _, rfl, a, putF_V fo rv b⟩
/-- the field k of the instance is written -/
theorem put_ins {k : Nat} (fo : FldOk N k) {v x : AV} {w y : V} {σ : L2.St} {sl : SL} {D : Ends} (R : Rel N ι h H) (S : SR N ι H sl σ) (rv : VR N ι H v w) (rx : VR N ι H x y) (p : PostS N ι H ((Ev.putF k x v h).st fun _ h3 => .nx sl h3) D) :
    ∃ a c dx ws, (∃ n fs, insAt h x = some (n, c, fs)) ∧ y = .ref a ∧ H a = some (.ins (He.ga N.K (N.cls c)) dx ws) ∧ ClsOk N c ∧ ws.length < 100 ∧ D.nx σ (upd H a (.ins (He.ga N.K (N.cls c)) dx (L2.putF (N.fld k) w ws))) := by
  unfold Ev.putF at p
  split at p
  · rename_i n c fs g
    obtain ⟨a, dx, ws, rfl, ea, rfl, ok, q, r⟩ := insAt_V R g rx
    split at p
    · rename_i l
      have l : fs.length < 100 := Nat.le_of_ble_eq_true l
      have x : Ext N ι H ι (upd H a (.ins (He.ga N.K (N.cls c)) dx (L2.putF (N.fld k) w ws))) := Ext.chg (List.mem_of_getElem? ea) q (fun _ z => by cases z) (fun _ _ z => by cases z)
      have R' := R.set (u' := .ins (He.ga N.K (N.cls c)) dx (L2.putF (N.fld k) w ws)) (o' := .ins c (fPut k v fs)) ea q (fun _ z => by cases z) (fun _ _ z => by cases z) ⟨ok, dx, _, upd_same, (putF_V fo rv r).ext x⟩
      exact ⟨a, c, dx, ws, ⟨n, fs, g⟩, rfl, q, ok, by rw [r.length]; exact l, p ι _ σ x R' (S.ext x)⟩
    · exact p.elim
  · exact p.elim
theorem s_fld (L : Lx N X) {k : Nat} {nm : Str} (fo : FldOk N k) (en : N.fld k = nm) (ho : PE X o (rE N fb)) (hv : PE X e (rE N fe)) (hs : swapsWith e (some (.Attribute o nm apos)) pos.line X.env = pure false := by rfl) :
    PS X (.Assign [.Attribute o nm apos] e pos) (tS N (sSetF k fb fe)) := by
  subst en
  exact (ps_fld ho hv hs).imp fun D σ H ⟨ι, h, sl, R, S, p⟩ => ⟨ι, h, sl, R, S, (PostS.res p).imp fun w H1 ⟨ι1, h1, v, x1, R1, r1, p1⟩ => ⟨ι1, h1, sl, R1, S.ext x1, (PostS.res p1).imp fun y H2 ⟨ι2, h2, x, x2, R2, r2, p2⟩ => by
    obtain ⟨a, c, dx, ws, _, rfl, q, ok, l, d⟩ := put_ins fo R2 ((S.ext x1).ext x2) (r1.ext x2) r2 p2
    exact ⟨a, _, dx, ws, rfl, q, L.K ▸ ok.1, L.K ▸ ok.2 k fo.1, by omega, d⟩⟩⟩
theorem in_augA {op : BOp} {rd : V → V → Hp → VK → Prop} (h : op = .add ∨ op = .sub) : InOp X (bopO op) (fun x y H Q => ∃ ι h xa ya, Rel N ι h H ∧ VR N ι H xa x ∧ VR N ι H ya y ∧ PostE N EN ι H (augA op xa ya h) Q) := by
  intro pins s σ H x y u v Q I rx ry ⟨ι, h, xa, ya, R, vx, vy, p⟩
  unfold augA at p
  split at p
  · rename_i i j
    cases VR.int vx
    cases VR.int vy
    exact in_add pins s σ H _ _ u v Q I rx ry ⟨i, j, rfl, rfl, fin0 p R rfl⟩
  · rename_i i j
    cases VR.int vx
    cases VR.int vy
    exact in_sub pins s σ H _ _ u v Q I rx ry ⟨i, j, rfl, rfl, fin0 p R rfl⟩
  · exact p.elim
theorem s_fldaug (L : Lx N X) {op : BOp} (h2 : op = .add ∨ op = .sub) {k : Nat} {nm : Str} (fo : FldOk N k) (en : N.fld k = nm) (ho : PE X o (rE N fb)) (hv : PE X e (rE N fe)) : PS X (.AugAssign (.Attribute o nm apos) (bopO op) e pos) (tS N (sAugF k op fb fe)) := by
  subst en
  exact (ps_fldaug ho hv (in_augA (N := N) (rd := fun _ _ _ _ => True) h2)).imp fun D σ H ⟨ι, h, sl, R, S, p⟩ => ⟨ι, h, sl, R, S, (PostS.res p).imp fun w H1 ⟨ι1, h1, v, x1, R1, r1, p1⟩ => by
    split at p1
    · rename_i n c fs ei
      obtain ⟨a, dx, ws, rfl, ea, rfl, ok, q, r⟩ := insAt_V R1 ei r1
      cases eg : fGet k fs with
      | none =>
        rw [eg] at p1
        exact p1.elim
      | some fv =>
        rw [eg] at p1
        obtain ⟨fw, ew, rfw⟩ := fGet_V fo r fv eg
        have p1 : PostS N ι1 H1 ((fe sl h1).st _) D := p1
        refine ⟨a, _, dx, ws, fw, rfl, q, L.K ▸ ok.1, L.K ▸ ok.2 k fo.1, ew, ι1, h1, sl, R1, S.ext x1, (PostS.res p1).imp fun y H2 ⟨ι2, h2, y', x2, R2, r2, p2⟩ => ?_⟩
        refine ⟨ι2, h2, fv, y', R2, rfw.ext x2, r2, (PostS.res p2).imp fun z H3 ⟨ι3, h3, z', x3, R3, r3, p3⟩ => ?_⟩
        split at p3
        · rename_i sc
          obtain ⟨a', c', dx', ws', ⟨n', fs', ei'⟩, e', q', ok', l', d'⟩ := put_ins fo R3 (((S.ext x1).ext x2).ext x3) r3 ((r1.ext x2).ext x3) p3
          cases e'
          have ec : c' = c := by
            unfold sameC at sc
            rw [ei'] at sc
            exact Nat.eq_of_beq_eq_true sc
          subst ec
          exact ⟨dx', ws', q', by omega, d'⟩
        · exact p3.elim
    · exact p1.elim⟩
/-- o[i] = v -/
def rPut (N : Cn) : TSet := fun o i v H Q => ∃ ι h xa ja va, Rel N ι h H ∧ VR N ι H xa o ∧ VR N ι H ja i ∧ VR N ι H va v ∧ PostU N EN ι H (putI xa ja va h) fun _ => Q
theorem set_put (L : Lx N X) : PSet X (rPut N) := by
  intro pins s σ H o i v ov iv u Q I ro ri rv ⟨ι, h, xa, ja, va, R, vo, vi, vv, p⟩
  unfold putI at p
  split at p
  · rename_i n
    obtain ⟨a, ea, rfl⟩ := VR.rf vo
    split at p
    · rename_i xs g
      obtain ⟨ws, ha, ra⟩ := lst_at R ea g
      split at p
      · rename_i k
        cases VR.int vi
        split at p
        · rename_i q eq
          obtain ⟨R', x'⟩ := setL R ea ha (VRs.set vv q ra)
          refine set_list pins s σ H _ _ _ ov iv u Q I ro ri rv ⟨a, ws, k, q, rfl, rfl, ha, ?_, p ι _ () x' R' trivial⟩
          rw [ra.length, ← toNix_eq]
          exact eq
        · exact p.elim
      · exact p.elim
    · rename_i ks g
      obtain ⟨ws, ha, ra⟩ := dk_at R ea g
      have nd := dk_nd R ea g
      split at p
      · rename_i q eq
        have kx := keyOf_V eq vi
        subst kx
        split at p
        · rename_i c
          obtain ⟨R', x'⟩ := setD R ea ha (dPut_nd nd) (put_V vv ra nd)
          cases ro
          refine d_setItem (by have := L.un; omega) I (DPut.k ha ?_) ri rv fun s' I' => ⟨_, I', p ι _ () x' R' trivial⟩
          rw [ra.length]
          have := short_le c
          rw [sizeLine_eq]
          omega
        · exact p.elim
      · exact p.elim
    · exact p.elim
  · exact p.elim
theorem s_setI (L : Lx N X) {p2 : Pos} (ho : PE X o (rE N fb)) (hi : PE X i (rE N fc)) (he : PE X e (rE N fe))
    (ha : ∀ v, assign (.Subscript o i p2) X.env v = (do
      let ov ← holding [v] (eval o X.env)
      let iv ← holding [v, ov] (eval i X.env)
      standAt p2
      holding [v, ov, iv] (setItem ov iv v)
      release [v, ov, iv] []) := by intro _; rfl) (hs : swapsWithSole [.Subscript o i p2] e pos.line X.env = pure false := by rfl) (hw : swappedStores [.Subscript o i p2] e X.env = pure none := by rfl)
    (h1 : (assignEach [.Subscript o i p2] X.env).map (·.2) = [assign (.Subscript o i p2) X.env] := by rfl) : PS X (.Assign [.Subscript o i p2] e pos) (tS N (sSetI fb fc fe)) :=
  (ps_asg he (pg_sub ho hi (set_put L) ha) hs hw h1).imp fun D σ H ⟨ι, h, sl, R, S, p⟩ => ⟨ι, h, sl, R, S, (PostS.res p).imp fun w H1 ⟨ι1, h1, v, x1, R1, r1, p1⟩ => ⟨ι1, h1, sl, R1, S.ext x1, (PostS.res p1).imp fun y H2 ⟨ι2, h2, x, x2, R2, r2, p2⟩ =>
    ⟨ι2, h2, sl, R2, (S.ext x1).ext x2, (PostS.res p2).imp fun z H3 ⟨ι3, h3, j, x3, R3, r3, p3⟩ => ⟨ι3, h3, x, j, v, R3, r2.ext x3, r3, (r1.ext x2).ext x3, (PostS.res (rel := uR) p3).imp fun _ H4 ⟨ι4, h4, _, x4, R4, _, p4⟩ =>
      p4 ι4 H4 σ Ext.refl R4 ((((S.ext x1).ext x2).ext x3).ext x4)⟩⟩⟩⟩
theorem ip_augA {op : BOp} : PIp X (bopO op) (fun x y H Q => ∃ ι h xa ya, Rel N ι h H ∧ VR N ι H xa x ∧ VR N ι H ya y ∧ PostE N EN ι H (augA op xa ya h) Q) := by
  intro pins s σ H x y u v Q I rx ry ⟨ι, h, xa, ya, R, vx, vy, p⟩
  unfold augA at p
  split at p
  · rename_i i j
    cases VR.int vx
    cases VR.int vy
    exact ip_add pins s σ H _ _ u v Q I rx ry ⟨i, j, rfl, rfl, fin0 p R rfl⟩
  · rename_i i j
    cases VR.int vx
    cases VR.int vy
    exact ip_sub pins s σ H _ _ u v Q I rx ry ⟨i, j, rfl, rfl, fin0 p R rfl⟩
  · exact p.elim
theorem s_aug (L : Lx N X) (k : Nat) (op : BOp) {x : Str} {p2 : Pos} (hi : X.N[k]? = some x) (hx : Loc X.env.scope x) (he : PE X e (rE N fe)) (hf : X.fn x = true ∨ X.env.scope.names.lookup x = some .local := by first | exact .inl rfl | exact .inr rfl | assumption) :
    PS X (.AugAssign (.Name x p2) (bopO op) e pos) (tS N (sAug k op fe)) :=
  (ps_aug L.nd hi hx he (ip_augA (N := N)) hf).imp fun D σ H ⟨ι, h, sl, R, S, p⟩ => by
    unfold sAug cSlot at p
    split at p
    · rename_i v e
      obtain ⟨w, ew, rw'⟩ := S.at_ k v e
      have p : PostS N ι H ((fe sl h).st _) D := p
      exact ⟨w, ew, ι, h, sl, R, S, (PostS.res p).imp fun y H1 ⟨ι1, h1, y', x1, R1, r1, p1⟩ => ⟨ι1, h1, v, y', R1, rw'.ext x1, r1, (PostS.res p1).imp fun z H2 ⟨ι2, h2, z', x2, R2, r2, p2⟩ => p2 ι2 H2 _ Ext.refl R2 (((S.ext x1).ext x2).set k r2)⟩⟩
    · exact p.elim

theorem PostS.turn {r : RSt} {k : SL → AH → RSt} {D : Ends} (p : PostS N ι H (r.turn k) D) :
    PostS N ι H r { D with nx := fun σ' H' => ∃ ι' h' sl', Ext N ι H ι' H' ∧ Rel N ι' h' H' ∧ SR N ι' H' sl' σ' ∧ PostS N ι' H' (k sl' h') D, ct := fun σ' H' => ∃ ι' h' sl', Ext N ι H ι' H' ∧ Rel N ι' h' H' ∧ SR N ι' H' sl' σ' ∧ PostS N ι' H' (k sl' h') D, bk := D.nx } := by
  cases r with
  | nx sl h' => exact fun ι' H' σ' y R S => ⟨ι', h', sl, y, R, S, PostS.weak y p⟩
  | ct sl h' => exact fun ι' H' σ' y R S => ⟨ι', h', sl, y, R, S, PostS.weak y p⟩
  | rt v h' => exact p
  | bk sl h' => exact p
  | exc c us h' => exact p
  | bad => exact p
theorem s_whl {n : Nat} (hp : PassesOwn (model X.prog X.w) X.A X.env X.xe) (hc : PT X c (rT N ta)) (hb : PSs X body (tS N f)) : PS X (.While c body [] pos) (tS N (loopW ta f n)) :=
  (ps_while hp hc hb).imp fun D σ H ⟨ι, h, sl, R, S, p⟩ => by
    refine ⟨fun m σ H => ∃ ι h sl, Rel N ι h H ∧ SR N ι H sl σ ∧ PostS N ι H (loopW ta f m sl h) D, ⟨n, ι, h, sl, R, S, p⟩, fun m σ H ⟨ι, h, sl, R, S, p⟩ => ?_⟩
    cases m with
    | zero => exact p.elim
    | succ m =>
      have p : PostS N ι H ((ta sl h).st fun b h' => match b with
        | true => (f sl h').turn fun sl' h'' => loopW ta f m sl' h''
        | false => .nx sl h') D := p
      refine ⟨ι, h, sl, R, S, (PostS.res (rel := eqR) p).imp fun b H1 ⟨ι1, h1, b', x1, R1, eb, p1⟩ => ?_⟩
      cases eb
      cases b with
      | true =>
        rw [if_pos rfl]
        refine ⟨_, fun σ' H' q => ⟨m, Nat.lt_succ_self m, ?_⟩, ι1, h1, sl, R1, S.ext x1, PostS.turn p1⟩
        obtain ⟨ι', h', sl', _, R', S', p'⟩ := q
        exact ⟨ι', h', sl', R', S', p'⟩
      | false =>
        rw [if_neg (by simp)]
        exact p1 ι1 H1 σ Ext.refl R1 (S.ext x1)
theorem s_for {t : RT} (L : Lx N X) (hp : PassesOwn (model X.prog X.w) X.A X.env X.xe) (hi : PI X tg iter (rIt N fi)) (hg : PG X tg (gR N t)) (hb : PSs X body (tS N f)) (hs : ∀ x, foldedSetIterable iter X.env x = pure x := by intro _; rfl) : PS X (.For tg iter body [] pos) (tS N (sFor t fi f)) :=
  (ps_for hp L.calm hi hg hb hs).imp fun D σ H ⟨ι, h, sl, R, S, p⟩ => by
    refine ⟨ι, h, sl, R, S, (PostS.res p).imp fun J H1 ⟨ι1, h1, src, x1, R1, sr, p1⟩ => ?_⟩
    refine ⟨fun i m σ H => ∃ ι2 h2 sl2, Ext N ι1 H1 ι2 H ∧ Rel N ι2 h2 H ∧ SR N ι2 H sl2 σ ∧ PostS N ι2 H (loopF src.item (bodyF t f) m i sl2 h2) D, ⟨src.many h1, ι1, h1, sl, Ext.refl, R1, S.ext x1, p1⟩, fun i m σ H ⟨ι2, h2, sl2, x2, R2, S2, p2⟩ => ?_⟩
    cases m with
    | zero =>
      left
      have p2 : PostS N ι2 H (match src.item h2 i with
        | some none => .nx sl2 h2
        | _ => .bad) D := p2
      split at p2
      · rename_i e
        exact ⟨(sr ι2 h2 H x2 R2 i).1 e, p2 ι2 H σ Ext.refl R2 S2⟩
      · exact p2.elim
    | succ m =>
      have p2 : PostS N ι2 H (match src.item h2 i with
        | none => .bad
        | some none => .nx sl2 h2
        | some (some v) => (bodyF t f v sl2 h2).turn fun sl' h' => loopF src.item (bodyF t f) m (i + 1) sl' h') D := p2
      split at p2
      · exact p2.elim
      · rename_i e
        exact .inl ⟨(sr ι2 h2 H x2 R2 i).1 e, p2 ι2 H σ Ext.refl R2 S2⟩
      · rename_i v e
        right
        obtain ⟨go, yl⟩ := (sr ι2 h2 H x2 R2 i).2 v e
        refine ⟨go, fun σ' H' => ∃ ι' h' sl', Ext N ι2 H ι' H' ∧ Rel N ι' h' H' ∧ SR N ι' H' sl' σ' ∧ PostS N ι' H' (loopF src.item (bodyF t f) m (i + 1) sl' h') D, fun σ' H' ⟨ι', h', sl', x', R', S', p'⟩ => ⟨m, Nat.lt_succ_self m, ι', h', sl', x2.trans x', R', S', p'⟩, fun x H3 y => ?_⟩
        obtain ⟨x3, R3, rv⟩ := yl x H3 y
        have p3 := PostS.turn (PostS.weak x3 p2)
        unfold bodyF tgtR at p3
        cases et : tgtA t v sl2 with
        | none =>
          rw [et] at p3
          exact p3.elim
        | some sl3 =>
          rw [et] at p3
          refine ⟨ι2, h2, v, sl2, sl3, R3, S2.ext x3, rv, et, fun σ' S' C' => ⟨ι2, h2, sl3, R3, S', ?_⟩⟩
          have up : ∀ σ4 H4, (∃ ι' h' sl', Ext N ι2 H3 ι' H4 ∧ Rel N ι' h' H4 ∧ SR N ι' H4 sl' σ4 ∧ PostS N ι' H4 (loopF src.item (bodyF t f) m (i + 1) sl' h') D) → ∃ ι' h' sl', Ext N ι2 H ι' H4 ∧ Rel N ι' h' H4 ∧ SR N ι' H4 sl' σ4 ∧ PostS N ι' H4 (loopF src.item (bodyF t f) m (i + 1) sl' h') D := fun σ4 H4 ⟨a, b, c, d, e⟩ => ⟨a, b, c, x3.trans d, e⟩
          have p3 : PostS N ι2 H3 (f sl3 h2) _ := p3
          cases ef : f sl3 h2 with
          | nx sl h' =>
            rw [ef] at p3
            exact fun ι' H' σ' y R S => up _ _ (p3 ι' H' σ' y R S)
          | ct sl h' =>
            rw [ef] at p3
            exact fun ι' H' σ' y R S => up _ _ (p3 ι' H' σ' y R S)
          | rt v h' =>
            rw [ef] at p3
            exact p3
          | bk sl h' =>
            rw [ef] at p3
            exact p3
          | exc c us h' =>
            rw [ef] at p3
            exact p3
          | bad =>
            rw [ef] at p3
            exact p3

theorem shape_full : ∀ n, Full (shape n) n
  | 0 => fun m => by
    show ((Tr.lf : Tr (Option AV)).get m).isSome = decide (m < 0)
    rw [Tr.get_lf, decide_eq_false (by omega)]
    rfl
  | n + 1 => (shape_full n).push
theorem shape_none : ∀ (n m : Nat) (v : AV), (shape n).get m ≠ some (some v)
  | 0, m, v => fun e => by cases e
  | n + 1, m, v => fun e => by
    have e : ((shape n).put n none).get m = some (some v) := e
    rw [Tr.get_put (shape n) n n none (shape_full n) (Nat.le_refl _)] at e
    split at e
    · cases e
    · exact shape_none n m v e
theorem fill_SR : ∀ (as : List AV) (vs : List V) (i : Nat) (sl : SL) (σ : L2.St) (p : List (Option V)) (m : Nat), VRs N ι H as vs → SR N ι H sl (p ++ List.replicate (vs.length + m) none) → p.length = i → SR N ι H (fill as i sl) (p ++ vs.map some ++ List.replicate m none)
  | [], vs, i, sl, σ, p, m, r, S, e => by
    have r : vs = [] := r
    subst r
    simpa [fill] using S
  | a :: as, vs, i, sl, σ, p, m, r, S, e => by
    obtain ⟨w, vs', ev, r1, r2⟩ := (show ∃ w r, vs = w :: r ∧ VR N ι H a w ∧ VRs N ι H as r from r)
    subst ev
    have S2 := S.set i r1
    have z : (p ++ List.replicate ((w :: vs').length + m) none).set i (some w) = (p ++ [some w]) ++ List.replicate (vs'.length + m) none := by
      rw [← e, List.set_append_right _ _ (Nat.le_refl _), Nat.sub_self, show (w :: vs').length + m = (vs'.length + m) + 1 by simp only [List.length_cons]; omega, List.replicate_succ]
      simp
    rw [z] at S2
    have := fill_SR as vs' (i + 1) (sl.set i (some a)) σ (p ++ [some w]) m r2 S2 (by rw [List.length_append, e]; rfl)
    show SR N ι H (fill as (i + 1) (sl.set i (some a))) _
    simpa using this
theorem slots_start {as : List AV} {vs : List V} (r : VRs N ι H as vs) (n : Nat) (Nm : List Str) (e : Nm.length = n) (l : vs.length ≤ n) : SR N ι H (fill as 0 (shape n)) (L2.start Nm vs) := by
  unfold L2.start
  have S0 : SR N ι H (shape n) ([] ++ List.replicate (vs.length + (n - vs.length)) none) := ⟨by
    rw [List.nil_append, List.length_replicate, show vs.length + (n - vs.length) = n by omega]
    exact shape_full n, fun i v q => (shape_none n i v q).elim⟩
  have := fill_SR as vs 0 (shape n) [] [] (n - vs.length) r S0 rfl
  rw [e]
  simpa using this
theorem body_ok {T : Tab} {fb : FB} {vs : List V} {Q : VK} {Nm : List Str} (hN : Nm.length = fb.slots) (hp : fb.params ≤ fb.slots) (h : spN N (runF T fb) vs H Q EN) : tS N (fb.body T) { nx := fun _ H' => Q .non H', rt := Q } (L2.start Nm vs) H := by
  obtain ⟨ι, h, as, R, r, p⟩ := h
  unfold runF at p
  split at p
  · rename_i l
    have l := Nat.eq_of_beq_eq_true l
    refine ⟨ι, h, _, R, slots_start r fb.slots Nm hN (by rw [r.length, l]; exact hp), ?_⟩
    cases e : fb.body T (fill as 0 (shape fb.slots)) h with
    | nx sl h' =>
      rw [e] at p
      exact fun ι' H' σ' x R' S' => p ι' H' .non x R' rfl
    | rt v h' =>
      rw [e] at p
      exact p
    | bk sl h' =>
      rw [e] at p
      exact p.elim
    | ct sl h' =>
      rw [e] at p
      exact p.elim
    | exc c us h' =>
      rw [e] at p
      exact p
    | bad =>
      rw [e] at p
      exact p.elim
  · exact p.elim
end Ev

set_option Elab.async false
set_option linter.all false
set_option maxRecDepth 100000
set_option maxHeartbeats 4000000
set_option autoImplicit false
namespace Ev
open PySem PySem.Spec PyProof.Rows L2 PySem.Calls
section
variable {prog : Program} {w : World} {A : Around} {E : Value → Shared → Prop} {s : Shared}
/-- the next pair while the last one is still out -/
theorem zh_item {z TI TO T i1 i2 l1 l2 : Addr} {f : Bool} {oT : Obj} {m n : Nat} {xs ys : Array Value} {x y : Value} {Q : Value → Shared → Prop} (D : ZipApart z TI TO i1 i2 l1 l2)
    (hz : IsZipHeld s.heap z TI TO T f) (hT : s.heap.get? T = some oT) (ti : IsPair s.heap TI (.ref i1) (.ref i2))
    (a1 : s.heap.IsTupleIter i1 l1 m) (a2 : s.heap.IsTupleIter i2 l2 n) (b1 : s.heap.IsTuple l1 xs) (b2 : s.heap.IsTuple l2 ys) (ex : xs[m]? = some x) (ey : ys[n]? = some y)
    (q : ∀ g, IsZipHeld g z TI TO T true → g.IsTupleIter i1 l1 (m + 1) → g.IsTupleIter i2 l2 (n + 1) → IsPair g s.heap.objs.size x y →
      (∀ c o, c ≠ z → c ≠ i1 → c ≠ i2 → s.heap.get? c = some o → g.get? c = some o) → Q (.ref s.heap.objs.size) { s with heap := g }) :
    wpAny (model prog w) A (Builtin.«zip.__next__» ⟨[.ref z], []⟩) (fun fin s' => ∃ v, fin = .done (.ret v) ∧ Q v s') E s := by
  show wpAny _ _ (field (.ref z) 2 >>= _) _ _ _
  apply wpAny_bind
  refine wpAny_field hz rfl (x := .bool false) rfl ?_
  show wpAny _ _ (field (.ref z) 3 >>= _) _ _ _
  apply wpAny_bind
  refine wpAny_field hz rfl (x := .ref TI) rfl ?_
  apply wpAny_bind
  refine wpAny_seqItems ti rfl ?_
  show wpAny _ _ (Builtin.SmallTypes.ownedTupleIsFree (.ref z) >>= _) _ _ _
  apply wpAny_bind
  refine wpAny_tupleHeld_zip hz hT fun g1 z1 s1 => ?_
  simp only [Bool.false_eq_true, if_false]
  apply wpAny_bind
  rw [← Array.forIn_toList]
  simp only [List.forIn_cons, List.forIn_nil]
  apply wpAny_bind
  apply wpAny_bind
  apply wpAny_holding
  show wpAny _ _ (Builtin.SmallTypes.nextOf (.ref i1) >>= _) _ _ _
  apply wpAny_bind
  refine RZ.nextOf_tuple_item (s := { s with heap := g1 }) (a1.extBut s1.extBut D.i1z) (b1.extBut s1.extBut D.l1z) ex fun g2 c1 s2 => ?_
  apply wpAny_pure
  apply wpAny_pure
  apply wpAny_bind
  apply wpAny_bind
  apply wpAny_holding
  show wpAny _ _ (Builtin.SmallTypes.nextOf (.ref i2) >>= _) _ _ _
  apply wpAny_bind
  have s1' : Heap.SameBut z s.heap g1 := s1
  have s2' : Heap.SameBut i1 g1 g2 := s2
  refine RZ.nextOf_tuple_item (s := { s with heap := g2 }) ((a2.extBut s1'.extBut D.i2z).extBut s2'.extBut D.i12.symm) ((b2.extBut s1'.extBut D.l2z).extBut s2'.extBut D.l2i1) ey fun g3 c2 s3 => ?_
  have s3' : Heap.SameBut i2 g2 g3 := s3
  apply wpAny_pure
  apply wpAny_pure
  apply wpAny_pure
  show wpAny _ _ (newTuple [x, y] >>= _) _ _ _
  apply wpAny_bind
  refine wpAny_newTuple ?_
  have sz : g3.objs.size = s.heap.objs.size := by rw [s3'.1, s2'.1, s1'.1]
  have zz : IsZipHeld g3 z TI TO T true := s3'.extBut _ _ D.i2z.symm (s2'.extBut _ _ D.i1z.symm z1)
  have kp : ∀ c o, c ≠ z → c ≠ i1 → c ≠ i2 → s.heap.get? c = some o → g3.get? c = some o := fun c o n1 n2 n3 e => s3'.extBut _ _ n3 (s2'.extBut _ _ n2 (s1'.extBut _ _ n1 e))
  have c1' : g3.IsTupleIter i1 l1 (m + 1) := c1.extBut s3'.extBut D.i12
  refine wpAny_pure ⟨_, rfl, ?_⟩
  show Q (.ref g3.objs.size) _
  have pr : IsPair (g3.push { cls := .type "tuple", data := .seq #[x, y] }) g3.objs.size x y := Heap.get?_push_size _ rfl
  rw [sz] at pr ⊢
  exact q _ (Heap.get?_push_of_some _ zz) (c1'.at fun o e => Heap.get?_push_of_some _ e) (c2.at fun o e => Heap.get?_push_of_some _ e) pr fun c o n1 n2 n3 e => Heap.get?_push_of_some _ (kp c o n1 n2 n3 e)
theorem zh_end {z TI TO T i1 i2 l1 l2 : Addr} {f : Bool} {oT : Obj} {m n : Nat} {xs ys : Array Value} {Q : PySem.Fin → Shared → Prop} (hh : A.handled = none) (D : ZipApart z TI TO i1 i2 l1 l2)
    (hz : IsZipHeld s.heap z TI TO T f) (hT : s.heap.get? T = some oT) (ti : IsPair s.heap TI (.ref i1) (.ref i2))
    (a1 : s.heap.IsTupleIter i1 l1 m) (a2 : s.heap.IsTupleIter i2 l2 n) (b1 : s.heap.IsTuple l1 xs) (b2 : s.heap.IsTuple l2 ys) (end_ : xs[m]? = none ∨ ys[n]? = none)
    (q : ∀ g e, (∀ c o, c ≠ z → c ≠ i1 → c ≠ i2 → s.heap.get? c = some o → g.get? c = some o) → (∃ o, g.get? e = some o ∧ o.cls = .type "StopIteration") → E (.ref e) { s with heap := g }) :
    wpAny (model prog w) A (Builtin.«zip.__next__» ⟨[.ref z], []⟩) Q E s := by
  show wpAny _ _ (field (.ref z) 2 >>= _) _ _ _
  apply wpAny_bind
  refine wpAny_field hz rfl (x := .bool false) rfl ?_
  show wpAny _ _ (field (.ref z) 3 >>= _) _ _ _
  apply wpAny_bind
  refine wpAny_field hz rfl (x := .ref TI) rfl ?_
  apply wpAny_bind
  refine wpAny_seqItems ti rfl ?_
  show wpAny _ _ (Builtin.SmallTypes.ownedTupleIsFree (.ref z) >>= _) _ _ _
  apply wpAny_bind
  refine wpAny_tupleHeld_zip hz hT fun g1 z1 s1 => ?_
  simp only [Bool.false_eq_true, if_false]
  apply wpAny_bind
  rw [← Array.forIn_toList]
  simp only [List.forIn_cons, List.forIn_nil]
  apply wpAny_bind
  apply wpAny_bind
  apply wpAny_holding
  show wpAny _ _ (Builtin.SmallTypes.nextOf (.ref i1) >>= _) _ _ _
  apply wpAny_bind
  have s1' : Heap.SameBut z s.heap g1 := s1
  cases hx : xs[m]? with
  | none =>
    refine RZ.nextOf_tuple_end (s := { s with heap := g1 }) hh (a1.extBut s1'.extBut D.i1z) (b1.extBut s1'.extBut D.l1z) hx fun g2 e s2 he => ?_
    exact q g2 e (fun c o n1 n2 _ x => s2 _ _ n2 (s1'.extBut _ _ n1 x)) he
  | some x =>
    have hy : ys[n]? = none := by
      rcases end_ with h | h
      · rw [hx] at h
        cases h
      · exact h
    refine RZ.nextOf_tuple_item (s := { s with heap := g1 }) (a1.extBut s1'.extBut D.i1z) (b1.extBut s1'.extBut D.l1z) hx fun g2 c1 s2 => ?_
    have s2' : Heap.SameBut i1 g1 g2 := s2
    apply wpAny_pure
    apply wpAny_pure
    apply wpAny_bind
    apply wpAny_bind
    apply wpAny_holding
    show wpAny _ _ (Builtin.SmallTypes.nextOf (.ref i2) >>= _) _ _ _
    apply wpAny_bind
    refine RZ.nextOf_tuple_end (s := { s with heap := g2 }) hh ((a2.extBut s1'.extBut D.i2z).extBut s2'.extBut D.i12.symm) ((b2.extBut s1'.extBut D.l2z).extBut s2'.extBut D.l2i1) hy fun g3 e s3 he => ?_
    exact q g3 e (fun c o n1 n2 n3 x => s3 _ _ n3 (s2'.extBut _ _ n2 (s1'.extBut _ _ n1 x))) he
/-- a zip over two tuples at its i-th pair; d: an object apart -/
def ZS (d z TI TO i1 i2 l1 l2 : Addr) (xs ys : Array Value) (i : Nat) (h : Heap) : Prop :=
  IsPair h TI (.ref i1) (.ref i2) ∧ h.IsTupleIter i1 l1 i ∧ h.IsTupleIter i2 l2 i ∧ h.IsTuple l1 xs ∧ h.IsTuple l2 ys ∧
    ((IsZip h z TI TO .none ∧ ∃ a b, IsPair h TO a b) ∨ ∃ T f oT, IsZipHeld h z TI TO T f ∧ h.get? T = some oT ∧ T ≠ z ∧ T ≠ i1 ∧ T ≠ i2 ∧ T ≠ d ∧ ∃ o, h.get? TO = some o)
variable {d z TI TO i1 i2 l1 l2 : Addr} {xs ys : Array Value} {i : Nat}
theorem ZS.type (st : ZS d z TI TO i1 i2 l1 l2 xs ys i s.heap) : s.TypeIs (.ref z) "zip" := by
  obtain ⟨_, _, _, _, _, ⟨e, _⟩ | ⟨T, f, oT, e, _⟩⟩ := st
  · exact ⟨_, e, rfl⟩
  · exact ⟨_, e, rfl⟩
theorem ZS.frame {h h' : Heap} (n : d ∉ [z, TI, TO, i1, i2, l1, l2]) (st : ZS d z TI TO i1 i2 l1 l2 xs ys i h) (k : ∀ b o, b ≠ d → h.get? b = some o → h'.get? b = some o) : ZS d z TI TO i1 i2 l1 l2 xs ys i h' := by
  simp only [List.mem_cons, List.not_mem_nil, or_false, not_or] at n
  obtain ⟨n1, n2, n3, n4, n5, n6, n7⟩ := n
  obtain ⟨e1, e2, e3, e4, e5, e6⟩ := st
  refine ⟨k _ _ (Ne.symm n2) e1, e2.at fun o e => k _ o (Ne.symm n4) e, e3.at fun o e => k _ o (Ne.symm n5) e, e4.at fun o e => k _ o (Ne.symm n6) e, e5.at fun o e => k _ o (Ne.symm n7) e, ?_⟩
  rcases e6 with ⟨e6, a, b, e7⟩ | ⟨T, f, oT, e6, e7, m1, m2, m3, m4, oO, m5⟩
  · exact .inl ⟨k _ _ (Ne.symm n1) e6, a, b, k _ _ (Ne.symm n3) e7⟩
  · exact .inr ⟨T, f, oT, k _ _ (Ne.symm n1) e6, k _ _ m4 e7, m1, m2, m3, m4, oO, k _ _ (Ne.symm n3) m5⟩
theorem zs_next (D : ZipApart z TI TO i1 i2 l1 l2) {x y : Value} {Q : Option Value → Shared → Prop} (st : ZS d z TI TO i1 i2 l1 l2 xs ys i s.heap) (hd : d < s.heap.objs.size) (ex : xs[i]? = some x) (ey : ys[i]? = some y)
    (q : ∀ g, ZS d z TI TO i1 i2 l1 l2 xs ys (i + 1) g → IsPair g s.heap.objs.size x y → (∀ c o, c ∉ [z, TO, i1, i2] → s.heap.get? c = some o → g.get? c = some o) → Q (some (.ref s.heap.objs.size)) { s with heap := g }) :
    wpAny (model prog w) A (pyNext (.ref z)) Q E s := by
  obtain ⟨e1, e2, e3, e4, e5, e6⟩ := st
  have lt : ∀ {c o}, s.heap.get? c = some o → s.heap.objs.size ≠ c := fun e => Nat.ne_of_gt (Heap.lt_size e)
  have n1 : s.heap.objs.size ≠ i1 := by
    obtain ⟨_, e, _⟩ := e2
    exact lt e
  have n2 : s.heap.objs.size ≠ i2 := by
    obtain ⟨_, e, _⟩ := e3
    exact lt e
  rcases e6 with ⟨e6, a, b, e7⟩ | ⟨T, f, oT, e6, e7, m1, m2, m3, m4, oO, m5⟩
  · refine RZ.pyNext_zipT_item D e6 e1 e7 e2 e3 e4 e5 ex ey fun g a1 a2 a3 a4 a5 a6 k => ?_
    refine q g ⟨k _ _ D.TIz D.TITO D.TIi1 D.TIi2 e1, a3, a4, e4.at fun o e => k _ o D.l1z D.l1TO D.l1i1 D.l1i2 e, e5.at fun o e => k _ o D.l2z D.l2TO D.l2i1 D.l2i2 e, .inr ⟨s.heap.objs.size, false, _, a1, a5, lt e6, n1, n2, Nat.ne_of_gt hd, _, a2⟩⟩ a5 fun c o hc e => ?_
    exact k c o (fun x => hc (by simp [x])) (fun x => hc (by simp [x])) (fun x => hc (by simp [x])) (fun x => hc (by simp [x])) e
  · have hTy : s.TypeIs (.ref z) "zip" := ⟨_, e6, rfl⟩
    unfold pyNext
    refine wpAny_bind (wpAny_attempt (wpAny_callSpecial?_slot (name := Str.ofString "__next__") hTy F.slot_zip_next
      (wpAny_call_entry F.slot_zip_next hTy F.entry_zip_next (zh_item D e6 e7 e1 e2 e3 e4 e5 ex ey fun g a1 a3 a4 a5 k => wpAny_pure ?_) (F.args_zip_next_1 _))))
    refine q g ⟨k _ _ D.TIz D.TIi1 D.TIi2 e1, a3, a4, e4.at fun o e => k _ o D.l1z D.l1i1 D.l1i2 e, e5.at fun o e => k _ o D.l2z D.l2i1 D.l2i2 e, .inr ⟨T, true, oT, a1, k _ _ m1 m2 m3 e7, m1, m2, m3, m4, oO, k _ _ D.TOz D.TOi1 D.TOi2 m5⟩⟩ a5 fun c o hc e => ?_
    exact k c o (fun x => hc (by simp [x])) (fun x => hc (by simp [x])) (fun x => hc (by simp [x])) e
theorem zs_end (hh : A.handled = none) (D : ZipApart z TI TO i1 i2 l1 l2) {Q : Option Value → Shared → Prop} (st : ZS d z TI TO i1 i2 l1 l2 xs ys i s.heap) (en : xs[i]? = none ∨ ys[i]? = none)
    (q : ∀ g, (∀ c o, c ∉ [z, TO, i1, i2] → s.heap.get? c = some o → g.get? c = some o) → Q none { s with heap := g }) : wpAny (model prog w) A (pyNext (.ref z)) Q E s := by
  obtain ⟨e1, e2, e3, e4, e5, e6⟩ := st
  rcases e6 with ⟨e6, a, b, e7⟩ | ⟨T, f, oT, e6, e7, m1, m2, m3, m4, oO, m5⟩
  · refine RZ.pyNext_zipT_end hh D e6 e1 e7 e2 e3 e4 e5 en fun g k => q g fun c o hc e => ?_
    exact k c o (fun x => hc (by simp [x])) (fun x => hc (by simp [x])) (fun x => hc (by simp [x])) (fun x => hc (by simp [x])) e
  · have hTy : s.TypeIs (.ref z) "zip" := ⟨_, e6, rfl⟩
    unfold pyNext
    refine wpAny_bind (wpAny_attempt (wpAny_callSpecial?_slot (name := Str.ofString "__next__") hTy F.slot_zip_next
      (wpAny_call_entry F.slot_zip_next hTy F.entry_zip_next (zh_end hh D e6 e7 e1 e2 e3 e4 e5 en fun g e k he => ?_) (F.args_zip_next_1 _))))
    obtain ⟨o, ho, hc⟩ := he
    refine wpAny_bind (wpAny_isInstance (T := "StopIteration") (b := true) ⟨o, ho, hc⟩ isSubtype_stop ?_)
    refine wpAny_pure (q g fun c o hc e => ?_)
    exact k c o (fun x => hc (by simp [x])) (fun x => hc (by simp [x])) (fun x => hc (by simp [x])) e
theorem min_none (xs ys : Array Value) : xs[min xs.size ys.size]? = none ∨ ys[min xs.size ys.size]? = none := by
  rcases Nat.le_total xs.size ys.size with h | h
  · exact .inl (Array.getElem?_eq_none (by rw [Nat.min_eq_left h]; exact Nat.le_refl _))
  · exact .inr (Array.getElem?_eq_none (by rw [Nat.min_eq_right h]; exact Nat.le_refl _))
/-- a zip of two tuples as the argument of dict() -/
theorem PairArgT (D : ZipApart z TI TO i1 i2 l1 l2) (xs ys : Array Value) :
    PairArg prog w "zip" z [z, TI, TO, i1, i2, l1, l2] [z, TO, i1, i2] (min xs.size ys.size) (fun i k v => xs[i]? = some k ∧ ys[i]? = some v)
      (fun h => IsZip h z TI TO .none ∧ IsPair h TI (.ref i1) (.ref i2) ∧ (∃ a b, IsPair h TO a b) ∧ h.IsTupleIter i1 l1 0 ∧ h.IsTupleIter i2 l2 0 ∧ h.IsTuple l1 xs ∧ h.IsTuple l2 ys) where
  type := fun s ok => ⟨_, ok.1, rfl⟩
  notDict := by decide
  keep := fun h h' ⟨e1, e2, ⟨a, b, e3⟩, e4, e5, e6, e7⟩ k => ⟨k _ _ e1, k _ _ e2, ⟨a, b, k _ _ e3⟩, e4.at fun o e => k _ o e, e5.at fun o e => k _ o e, e6.at fun o e => k _ o e, e7.at fun o e => k _ o e⟩
  there := fun h ⟨e1, e2, ⟨a, b, e3⟩, ⟨o1, e4, _⟩, ⟨o2, e5, _⟩, ⟨o3, e6, _⟩, ⟨o4, e7, _⟩⟩ c hc => by
    simp only [List.mem_cons, List.not_mem_nil, or_false] at hc
    rcases hc with e | e | e | e | e | e | e <;> rw [e]
    · exact ⟨_, e1⟩
    · exact ⟨_, e2⟩
    · exact ⟨_, e3⟩
    · exact ⟨_, e4⟩
    · exact ⟨_, e5⟩
    · exact ⟨_, e6⟩
    · exact ⟨_, e7⟩
  sub := fun b hb => by
    simp only [List.mem_cons, List.not_mem_nil, or_false] at hb ⊢
    rcases hb with e | e | e | e <;> simp [e]
  noKeys := fun A s Q E hA ok h => getAttrOr_miss_zip ok.1 rfl rfl rfl zip_no_keys (by decide +kernel) hA h
  iter := fun A s d Q E hA ⟨e1, e2, ⟨a, b, e3⟩, e4, e5, e6, e7⟩ hd hdf h => by
    refine wpAny_pyIter_zip e1 (h z [z, TO, i1, i2] (ZS d z TI TO i1 i2 l1 l2 xs ys) s.heap s.toks ?_ ⟨e2, e4, e5, e6, e7, .inl ⟨e1, a, b, e3⟩⟩ (fun _ _ e => e) fun b hb => .inl hb)
    exact {
      off := fun hm => hdf (by
        simp only [List.mem_cons, List.not_mem_nil, or_false] at hm ⊢
        rcases hm with e | e | e | e <;> simp [e])
      frame := fun i h₁ h₂ st k => st.frame hdf k
      item := fun i s₁ Q₁ E₁ hi st hds hQ => by
        have hix : i < xs.size := Nat.lt_of_lt_of_le hi (Nat.min_le_left ..)
        have hiy : i < ys.size := Nat.lt_of_lt_of_le hi (Nat.min_le_right ..)
        refine zs_next D st hds (Array.getElem?_eq_getElem hix) (Array.getElem?_eq_getElem hiy) fun g st' pr k => ?_
        exact hQ _ _ _ g s₁.toks ⟨Array.getElem?_eq_getElem hix, Array.getElem?_eq_getElem hiy⟩ (.inl ⟨_, pr, rfl, _, rfl⟩) st' k
      done := fun s₁ Q₁ E₁ st hQ => zs_end hA D st (min_none xs ys) fun g k => hQ g s₁.toks k }
theorem zip_nolen : typeLookup (.type "zip") "__len__" = pure none := am_miss_of_fast (by decide +kernel)
theorem zip_nohint : typeLookup (.type "zip") "__length_hint__" = pure none := am_miss_of_fast (by decide +kernel)
/-- the pairs that were made: all new, where base stood -/
def Prs (base : Heap) (S : Addr) (fs : List Addr) (xs ys : Array Value) (h : Heap) (acc : List Value) : Prop :=
  ∀ (j : Nat) (v : Value), acc[j]? = some v → ∃ (T : Addr) (x y : Value), v = Value.ref T ∧ xs[j]? = some x ∧ ys[j]? = some y ∧ IsPair h T x y ∧ T ≠ S ∧ T ∉ fs ∧ base.get? T = none
theorem zext {base : Heap} {S : Addr} {res : Value} {R : Result → Shared → Prop} (hh : A.handled = none) (D : ZipApart z TI TO i1 i2 l1 l2) (hS : S ∉ [z, TI, TO, i1, i2, l1, l2]) (hn : min xs.size ys.size ≤ sizeLine) :
    ∀ (k i : Nat) (s : Shared) (acc : Array Value) (c : Nat), min xs.size ys.size - i = k → i ≤ min xs.size ys.size → ZS S z TI TO i1 i2 l1 l2 xs ys i s.heap → s.heap.get? S = some { cls := .type "list", dict := none, data := .seq acc c, slots := #[] } → acc.size = i →
    Prs base S [z, TO, i1, i2] xs ys s.heap acc.toList → (∀ b o, base.get? b = some o → b ≠ S) → (∀ b o, base.get? b = some o → b ∈ [z, TO, i1, i2] ∨ s.heap.get? b = some o) →
    (∀ h' acc' c', h'.get? S = some { cls := .type "list", dict := none, data := .seq acc' c', slots := #[] } → acc'.size = min xs.size ys.size → Prs base S [z, TO, i1, i2] xs ys h' acc'.toList → (∀ b o, base.get? b = some o → b ∈ [z, TO, i1, i2] ∨ h'.get? b = some o) → R (.ok (.ret res)) { s with heap := h' }) →
    codeAny (model prog w) A (.builtin "list.extend.loop" ⟨[.ref S, .ref z, res], []⟩) R s := by
  have hSw : S ∉ [z, TO, i1, i2] := fun hm => hS (by
    simp only [List.mem_cons, List.not_mem_nil, or_false] at hm ⊢
    rcases hm with e | e | e | e <;> simp [e])
  intro k
  induction k with
  | zero =>
    intro i s acc c ek hi st eS ea pr bs kb hR
    have en : i = min xs.size ys.size := by omega
    refine codeAny_builtin F.entry_extend_loop ?_
    rw [Around.under_plainId F.plain_extend_loop _]
    show wpAny _ A.in1 (pyNext (.ref z) >>= _) _ _ s
    apply wpAny_bind
    refine zs_end (A := A.in1) hh D st (by rw [en]; exact min_none xs ys) fun g kp => ?_
    refine wpAny_pure (hR g acc c (kp _ _ hSw eS) (by rw [ea, en]) (fun j v e => ?_) fun b o e => ?_)
    · obtain ⟨T, x, y, e1, e2, e3, e4, e5, e6, e7⟩ := pr j v e
      exact ⟨T, x, y, e1, e2, e3, kp _ _ e6 e4, e5, e6, e7⟩
    · rcases kb b o e with q | q
      · exact .inl q
      · by_cases m : b ∈ [z, TO, i1, i2]
        · exact .inl m
        · exact .inr (kp _ _ m q)
  | succ k ih =>
    intro i s acc c ek hi st eS ea pr bs kb hR
    have lt : i < min xs.size ys.size := by omega
    have hix : i < xs.size := Nat.lt_of_lt_of_le lt (Nat.min_le_left ..)
    have hiy : i < ys.size := Nat.lt_of_lt_of_le lt (Nat.min_le_right ..)
    refine codeAny_builtin F.entry_extend_loop ?_
    rw [Around.under_plainId F.plain_extend_loop _]
    show wpAny _ A.in1 (pyNext (.ref z) >>= _) _ _ s
    apply wpAny_bind
    have hSlt : S < s.heap.objs.size := Heap.lt_size eS
    refine zs_next D st hSlt (Array.getElem?_eq_getElem hix) (Array.getElem?_eq_getElem hiy) fun g st' pt kp => ?_
    have eS' := kp _ _ hSw eS
    show wpAny _ A.in1 (updateSeq S (·.push (Value.ref s.heap.objs.size)) >>= _) _ _ _
    apply wpAny_bind
    have oth : ∀ b o, b ≠ S → g.get? b = some o → (g.update S (Obj.mapSeq (·.push (Value.ref s.heap.objs.size)))).get? b = some o := fun b o hb e => (Heap.get?_update_other _ _ (Ne.symm hb)).trans e
    have tw : s.heap.objs.size ∉ [z, TO, i1, i2] := fun hm => by
      obtain ⟨_, ⟨_, q2, _⟩, ⟨_, q3, _⟩, _, _, q4⟩ := st
      have zl : z < s.heap.objs.size ∧ TO < s.heap.objs.size := by
        rcases q4 with ⟨q, _, _, q'⟩ | ⟨_, _, _, q, _, _, _, _, _, _, q'⟩
        · exact ⟨Heap.lt_size q, Heap.lt_size q'⟩
        · exact ⟨Heap.lt_size q, Heap.lt_size q'⟩
      simp only [List.mem_cons, List.not_mem_nil, or_false] at hm
      rcases hm with e | e | e | e
      · exact absurd e (Nat.ne_of_gt zl.1)
      · exact absurd e (Nat.ne_of_gt zl.2)
      · exact absurd e (Nat.ne_of_gt (Heap.lt_size q2))
      · exact absurd e (Nat.ne_of_gt (Heap.lt_size q3))
    refine wpAny_updateSeq eS' rfl (wpAny_pure ⟨plainId_quiet F.plain_extend_loop _, ih (i + 1) _ (acc.push (.ref s.heap.objs.size)) _ (by omega) lt (st'.frame hS oth) (Heap.get?_update_self _ eS' rfl) (by rw [Array.size_push, ea]) ?_ bs ?_ hR⟩) (by rw [ea]; omega) (by show (acc.push _).size ≤ sizeLine + 1; rw [Array.size_push, ea]; omega)
    · intro j v e
      rw [Array.toList_push, List.getElem?_append] at e
      split at e
      · obtain ⟨T, x, y, e1, e2, e3, e4, e5, e6, e7⟩ := pr j v e
        exact ⟨T, x, y, e1, e2, e3, oth _ _ e5 (kp _ _ e6 e4), e5, e6, e7⟩
      · rename_i nl
        have lj : acc.toList.length = i := by rw [Array.length_toList, ea]
        have jj : j - acc.toList.length = 0 := by
          rcases Nat.eq_zero_or_pos (j - acc.toList.length) with q | q
          · exact q
          · rw [List.getElem?_eq_none (by simp; omega)] at e
            cases e
        rw [jj] at e
        have ev : v = .ref s.heap.objs.size := (Option.some.inj e).symm
        have ej : j = i := by omega
        subst ej
        refine ⟨_, _, _, ev, Array.getElem?_eq_getElem hix, Array.getElem?_eq_getElem hiy, oth _ _ (Nat.ne_of_gt hSlt) pt, Nat.ne_of_gt hSlt, tw, ?_⟩
        cases qb : base.get? s.heap.objs.size with
        | none => rfl
        | some o =>
          rcases kb _ o qb with m | m
          · exact absurd m tw
          · exact absurd rfl (Nat.ne_of_lt (Heap.lt_size m))
    · intro b o e
      rcases kb b o e with q | q
      · exact .inl q
      · by_cases m : b ∈ [z, TO, i1, i2]
        · exact .inl m
        · exact .inr (oth _ _ (bs b o e) (kp _ _ m q))

/-- a zip over two tuples, not walked yet -/
def ZNew (z TI TO i1 i2 l1 l2 : Addr) (xs ys : Array Value) (h : Heap) : Prop :=
  IsZip h z TI TO .none ∧ IsPair h TI (.ref i1) (.ref i2) ∧ (∃ a b, IsPair h TO a b) ∧ h.IsTupleIter i1 l1 0 ∧ h.IsTupleIter i2 l2 0 ∧ h.IsTuple l1 xs ∧ h.IsTuple l2 ys
theorem ZNew.below {h : Heap} (n : ZNew z TI TO i1 i2 l1 l2 xs ys h) : ∀ b ∈ [z, TI, TO, i1, i2, l1, l2], b < h.objs.size := fun b hb => by
  obtain ⟨e1, e2, ⟨a, c, e3⟩, ⟨o1, e4, _⟩, ⟨o2, e5, _⟩, ⟨o3, e6, _⟩, ⟨o4, e7, _⟩⟩ := n
  simp only [List.mem_cons, List.not_mem_nil, or_false] at hb
  rcases hb with e | e | e | e | e | e | e <;> rw [e] <;> first | exact Heap.lt_size e1 | exact Heap.lt_size e2 | exact Heap.lt_size e3 | exact Heap.lt_size e4 | exact Heap.lt_size e5 | exact Heap.lt_size e6 | exact Heap.lt_size e7
theorem ZNew.zs {h h' : Heap} (n : ZNew z TI TO i1 i2 l1 l2 xs ys h) (k : ∀ b ∈ [z, TI, TO, i1, i2, l1, l2], ∀ o, h.get? b = some o → h'.get? b = some o) : ZS d z TI TO i1 i2 l1 l2 xs ys 0 h' := by
  obtain ⟨e1, e2, ⟨a, c, e3⟩, e4, e5, e6, e7⟩ := n
  exact ⟨k _ (by simp) _ e2, e4.at fun o e => k _ (by simp) o e, e5.at fun o e => k _ (by simp) o e, e6.at fun o e => k _ (by simp) o e, e7.at fun o e => k _ (by simp) o e, .inl ⟨k _ (by simp) _ e1, a, c, k _ (by simp) _ e3⟩⟩
theorem zcollect {Q : List Value → Shared → Prop} (hh : A.handled = none) (D : ZipApart z TI TO i1 i2 l1 l2) (hn : min xs.size ys.size ≤ sizeLine) (st : ZNew z TI TO i1 i2 l1 l2 xs ys s.heap)
    (h : ∀ g acc, acc.length = min xs.size ys.size → Prs s.heap s.heap.objs.size [z, TO, i1, i2] xs ys g acc → (∀ b o, s.heap.get? b = some o → b ∈ [z, TO, i1, i2] ∨ g.get? b = some o) → Q acc { s with heap := g }) :
    wpAny (model prog w) A (collect (.ref z)) Q E s := by
  have low := st.below
  have hSf : s.heap.objs.size ∉ [z, TI, TO, i1, i2, l1, l2] := fun hm => Nat.lt_irrefl _ (low _ hm)
  have hSI : s.heap.objs.size ≠ z := fun e => hSf (e ▸ List.mem_cons_self ..)
  unfold collect
  apply wpAny_bind
  refine wpAny_runValue (codeAny_builtin F.entry_proto_collect ?_)
  rw [Around.under_plainId F.plain_proto_collect _]
  show wpAny _ A.in1 (newList [] >>= fun l => again (.builtin "list.__iadd__" ⟨[l, .ref z], []⟩)) _ _ s
  apply wpAny_bind
  refine wpAny_newObj_type ?_
  refine wpAny_pure ⟨plainId_quiet F.plain_list_iadd _, codeAny_builtin F.entry_list_iadd ?_⟩
  rw [Around.under_plainId F.plain_list_iadd _]
  have nw : (s.heap.push { cls := .type "list", data := .seq ([] : List Value).toArray }).get? s.heap.objs.size = some { cls := .type "list", data := .seq ([] : List Value).toArray } := Heap.get?_push_size _ rfl
  have st1 : ZNew z TI TO i1 i2 l1 l2 xs ys (s.heap.push { cls := .type "list", data := .seq ([] : List Value).toArray }) := by
    obtain ⟨e1, e2, ⟨a, c, e3⟩, e4, e5, e6, e7⟩ := st
    have k : ∀ b o, s.heap.get? b = some o → (s.heap.push { cls := .type "list", data := .seq ([] : List Value).toArray }).get? b = some o := fun b o e => Heap.get?_push_of_some _ e
    exact ⟨k _ _ e1, k _ _ e2, ⟨a, c, k _ _ e3⟩, e4.at fun o e => k _ o e, e5.at fun o e => k _ o e, e6.at fun o e => k _ o e, e7.at fun o e => k _ o e⟩
  have ty : ∀ {s' : Shared}, ZNew z TI TO i1 i2 l1 l2 xs ys s'.heap → s'.TypeIs (.ref z) "zip" := fun n => ⟨_, n.1, rfl⟩
  show wpAny _ A.in1 (Builtin.List.listExtendWith (.ref s.heap.objs.size) (.ref z) (.ref s.heap.objs.size)) _ _ { s with heap := s.heap.push { cls := .type "list", data := .seq ([] : List Value).toArray } }
  unfold Builtin.List.listExtendWith
  apply wpAny_bind
  refine wpAny_typeOf (ty st1) ?_
  have h1 : Builtin.List.listSameRef (.ref s.heap.objs.size) (.ref z) = false := by simp [Builtin.List.listSameRef, hSI]
  have h2 : (Value.type "zip" == Value.type "list") = false := by decide
  have h3 : (Value.type "zip" == Value.type "tuple") = false := by decide
  simp only [h1, h2, h3, Bool.or_false, Bool.false_eq_true, if_false]
  apply wpAny_bind
  refine wpAny_pyIter_zip st1.1 ?_
  apply wpAny_bind
  apply wpAny_holding
  unfold Builtin.List.listLengthHint
  apply wpAny_bind
  refine wpAny_specialOf (ty st1) zip_nolen ?_
  show wpAny _ A.in1 (specialOf (Value.ref z) (Str.ofString "__length_hint__") >>= _) _ _ _
  apply wpAny_bind
  refine wpAny_specialOf (ty st1) zip_nohint ?_
  apply wpAny_pure
  show wpAny _ A.in1 (rule "list.extend.makes-room" >>= fun _ => Builtin.List.listTouch (.ref s.heap.objs.size) >>= fun _ =>
    again (.builtin "list.extend.loop" ⟨[.ref s.heap.objs.size, .ref z, .ref s.heap.objs.size], []⟩)) _ _ _
  apply wpAny_bind
  apply wpAny_rule
  apply wpAny_bind
  show wpAny _ A.in1 (updateSeq s.heap.objs.size (·.push .none) >>= fun _ => updateSeq s.heap.objs.size (·.pop)) _ _ _
  apply wpAny_bind
  refine wpAny_updateSeq nw rfl ?_
  have nw2 := Heap.get?_update_self (Obj.mapSeq (·.push Value.none)) nw rfl
  refine wpAny_updateSeq nw2 rfl ?_
  have nw3 := Heap.get?_update_self (Obj.mapSeq (·.pop)) nw2 rfl
  have oth : ∀ b o, b ≠ s.heap.objs.size → (s.heap.push { cls := .type "list", data := .seq ([] : List Value).toArray }).get? b = some o →
      (((s.heap.push { cls := .type "list", data := .seq ([] : List Value).toArray }).update s.heap.objs.size (Obj.mapSeq (·.push Value.none))).update s.heap.objs.size (Obj.mapSeq (·.pop))).get? b = some o :=
    fun b o hb e => (Heap.get?_update_other _ _ (Ne.symm hb)).trans ((Heap.get?_update_other _ _ (Ne.symm hb)).trans e)
  refine wpAny_pure ⟨plainId_quiet F.plain_extend_loop _, zext (base := s.heap) hh D hSf hn _ 0 _ _ _ rfl (Nat.zero_le _) (st1.zs fun b hb o e => oth b o (fun z => hSf (z ▸ hb)) e) nw3 rfl (fun j v e => ?_) (fun b o e => Nat.ne_of_lt (Heap.lt_size e)) (fun b o e => .inr (oth b o (Nat.ne_of_lt (Heap.lt_size e)) (Heap.get?_push_of_some _ e))) fun g acc c eS len pr kp => ?_⟩
  · have e : ([] : List Value)[j]? = some v := e
    rw [List.getElem?_nil] at e
    cases e
  · show wpAny _ A (load s.heap.objs.size >>= _) _ _ _
    apply wpAny_bind
    refine wpAny_load eS ?_
    exact wpAny_pure (h g acc.toList (by rw [Array.length_toList]; exact len) pr kp)
theorem ztuple_new {Q₁ : Value → Shared → Prop} (hh : A.handled = none) (D : ZipApart z TI TO i1 i2 l1 l2) (hn : min xs.size ys.size ≤ sizeLine) (st : ZNew z TI TO i1 i2 l1 l2 xs ys s.heap)
    (h : ∀ g acc, acc.length = min xs.size ys.size → Prs s.heap s.heap.objs.size [z, TO, i1, i2] xs ys g acc → (∀ b o, s.heap.get? b = some o → b ∈ [z, TO, i1, i2] ∨ g.get? b = some o) → Q₁ (.ref g.objs.size) { s with heap := g.push { cls := .type "tuple", data := .seq acc.toArray } }) :
    codeAny (model prog w) A (.call (.builtin "tuple.__new__") ⟨[.type "tuple", .ref z], []⟩) (wants Q₁ E) s := by
  refine codeAny_of_tree ?_
  show wpAny _ A.in1 (do checkBuiltinCall "tuple.__new__" ⟨[.type "tuple", .ref z], []⟩; again (.builtin "tuple.__new__" ⟨[.type "tuple", .ref z], []⟩)) _ _ s
  refine wpAny_bind (wpAny_of_eq (F.newCall_tuple_1 _) (wpAny_pure ⟨plainId_quiet F.plain_tuple_new _, codeAny_builtin F.entry_tuple_new ?_⟩))
  rw [Around.under_plainId F.plain_tuple_new _]
  have hsub := sub_tuple_self
  have hinit := init_tuple_lookup
  have hmh := madeHere_tuple
  have hTI : s.TypeIs (.ref z) "zip" := ⟨_, st.1, rfl⟩
  have hh1 : A.in1.handled = none := hh
  wp_walk using wpAny_typeOf hTI, zcollect (A := A.in1) hh1 D hn st
  intro g acc len pr kp
  show wpAny _ _ (Builtin.Tuple.tupleExact acc.toArray >>= fun v => ret v) _ _ _
  unfold Builtin.Tuple.tupleExact
  refine wpAny_bind (wpAny_newObj_type ?_ (by show acc.toArray.size ≤ sizeLine; rw [List.size_toArray, len]; exact hn))
  exact wpAny_pure (h g acc len pr kp)
theorem ztuple {Q : Value → Shared → Prop} (hh : A.handled = none) (D : ZipApart z TI TO i1 i2 l1 l2) (hn : min xs.size ys.size ≤ sizeLine) (st : ZNew z TI TO i1 i2 l1 l2 xs ys s.heap)
    (h : ∀ g acc, acc.length = min xs.size ys.size → Prs s.heap s.heap.objs.size [z, TO, i1, i2] xs ys g acc → (∀ b o, s.heap.get? b = some o → b ∈ [z, TO, i1, i2] ∨ g.get? b = some o) → Q (.ref g.objs.size) { s with heap := g.push { cls := .type "tuple", data := .seq acc.toArray } }) :
    wpAny (model prog w) A (call (.type "tuple") [.ref z]) Q E s := by
  refine callType_codes (Q₁ := fun obj s₁ => s₁.TypeIs obj "tuple" ∧ Q obj s₁) F.called_tuple (F.typeCall_tuple_1 _) F.entry_object_init
    (ztuple_new (A := A.in1) hh D hn st fun g acc len pr kp => ⟨⟨_, Heap.get?_push_size _ rfl, rfl⟩, h g acc len pr kp⟩) fun obj s₁ h₁ => ?_
  exact ⟨h₁.1, F.args_object_init_2 obj _, object_init_meets F.called_tuple.init.lookup F.called_tuple.made (by decide) prog w A.in1 _ s₁ ⟨h₁.1, rfl, h₁.2⟩⟩
end
end Ev

set_option Elab.async false
set_option linter.all false
set_option maxRecDepth 100000
set_option maxHeartbeats 4000000
set_option autoImplicit false
namespace Ev
open PySem PySem.Spec PyProof.Rows L2
variable {N : Cn} {X : Cx} {ι ι1 ι2 ι' : List Addr} {H H1 H2 H' : Hp} {h h1 h' : AH} {a b c e o i tg iter elt kx vx : Expr} {es rest ifs : List Expr} {st : Stmt} {sts body orelse : List Stmt} {fa fb fc fe fo fk fv : FE} {ga gb : FA} {ta tb ft : FT} {fi : FI} {f g : FS} {pos apos spos tpos : Pos}
/-- a new pair -/
theorem pair_new {p : Addr} {x y : AV} {v w : V} (R : Rel N ι h H) {ob : Obj} (e : H p = none) (d : ob.dict = none) (r1 : VR N ι H x v) (r2 : VR N ι H y w) : Ext N ι H ι (upd H p (.frz ob (.tup [v, w]))) ∧ Rel N ι h (upd H p (.frz ob (.tup [v, w]))) ∧ VR N ι (upd H p (.frz ob (.tup [v, w]))) (.tup [x, y]) (.ref p) :=
  ⟨Ext.new0 e, R.new0 e, p, [v, w], rfl, .inl ⟨ob, upd_same, d⟩, VRs.cons (r1.ext (Ext.new0 e)) (VRs.cons (r2.ext (Ext.new0 e)) VRs.nil)⟩
theorem live_item {n i : Nat} {a : Addr} {o : Option AV} (R : Rel N ι h H) (ea : ι[n]? = some a) (e : (Src.live n).item h i = some o) : ∃ xs ws, SqL N.K H a ws ∧ VRs N ι H xs ws ∧ xs[i]? = o := by
  have e : (match listAt h n with
    | some xs => some xs[i]?
    | none => none) = some o := e
  split at e
  · rename_i xs g
    obtain ⟨ws, ha, ra⟩ := listAt_sq R ea g
    exact ⟨xs, ws, ha, ra, Option.some.inj e⟩
  · cases e
theorem src_enmL {n : Nat} {a : Addr} (ea : ι[n]? = some a) : SrcR N ι H (.enm (.live n)) (Low.IteLF N.K a) := fun ι' h' H' x R i => by
  have ea' := x.get ea
  constructor
  · intro e
    have e : (match (Src.live n).item h' i with
      | some (some v) => some (some (.tup [.int i, v]))
      | r => r) = some none := e
    split at e
    · cases e
    · obtain ⟨xs, ws, ha, ra, q⟩ := live_item R ea' e
      exact ⟨ws, ha, List.getElem?_eq_none_iff.mp ((ra.get i).2 q)⟩
  · intro v e
    have e : (match (Src.live n).item h' i with
      | some (some v) => some (some (.tup [.int i, v]))
      | r => r) = some (some v) := e
    split at e
    · rename_i u g
      cases e
      obtain ⟨xs, ws, ha, ra, q⟩ := live_item R ea' g
      obtain ⟨w, ew, rw'⟩ := (ra.get i).1 u q
      refine ⟨⟨ws, w, ha, ew⟩, fun y H'' ⟨T, ob, z, ey, eT, ed, eH, f⟩ => ?_⟩
      subst ey eH
      have := f ws ha
      rw [ew] at this
      cases this
      exact pair_new R eT ed rfl rw'
    · rename_i n1
      exact (n1 _ e).elim
theorem src_enmT {a : Addr} {xs : List AV} {ws : List V} (sa : SqP N.K H a ws) (ra : VRs N ι H xs ws) : SrcR N ι H (.enm (.fix xs)) (Low.IteTF N.K a) := fun ι' h' H' x R i => by
  have sa' := (x.wk.tup _ _ sa).t
  have ra' := ra.ext x
  constructor
  · intro e
    have e : (match (Src.fix xs).item h' i with
      | some (some v) => some (some (.tup [.int i, v]))
      | r => r) = some none := e
    split at e
    · cases e
    · have e : xs[i]? = none := Option.some.inj e
      exact ⟨ws, sa', List.getElem?_eq_none_iff.mp ((ra'.get i).2 e)⟩
  · intro v e
    have e : (match (Src.fix xs).item h' i with
      | some (some v) => some (some (.tup [.int i, v]))
      | r => r) = some (some v) := e
    split at e
    · rename_i u g
      cases e
      have g : xs[i]? = some u := Option.some.inj g
      obtain ⟨w, ew, rw'⟩ := (ra'.get i).1 u g
      refine ⟨⟨ws, w, sa', ew⟩, fun y H'' ⟨T, ob, z, ey, eT, ed, eH, f⟩ => ?_⟩
      subst ey eH
      have := f ws sa'
      rw [ew] at this
      cases this
      exact pair_new R eT ed rfl rw'
    · rename_i n1
      exact (n1 _ e).elim
theorem i_enm (L : Lx N X) {p : Pos} {elts : List Expr} {kk : Nat} (hg : Gl X "enumerate") (hm : X.mg "enumerate" = none) (ha : PE X a (rE N fa)) (hs : starEach [a] X.env = [(false, eval a X.env)] := by rfl) : PI X (.Tuple elts kk tpos) (.Call (.Name "enumerate" p) [a] [] pos) (rIt N (iEnmA fa)) := by
  refine ⟨fun pins s σ H R I ⟨ι, h, sl, Rl, S, q⟩ => ?_⟩
  refine Call_ (ld_blt I hg hm boot_enumerate (PyProof.Rows.callWith_type1 (thn ((pa_cons ha pa_nil hs).run pos pins s σ H (fun vs H1 => ∃ w, vs = [w] ∧ ∃ ι1 h1 v, Ext N ι H ι1 H1 ∧ Rel N ι1 h1 H1 ∧ VR N ι1 H1 v w ∧ PostG N (SrcR N) EN ι1 H1 (match seqOf v h1 with
    | some s => .ok (.enm s) h1
    | none => .bad) R) I ⟨ι, h, sl, Rl, S, q.bind.imp fun w H1 z => ⟨w, rfl, z⟩⟩) fun us s1 ⟨vs, H1, I1, r1, w, ew, ι1, h1, v, x1, R1, rv, p1⟩ => ?_) hs rfl))
  subst ew
  obtain ⟨u, rfl, ru⟩ := Vals.one r1
  unfold seqOf at p1
  split at p1
  · rename_i src es
    split at es
    · cases es
      obtain ⟨a', ws, rfl, sa, ra⟩ := VR.tup rv
      cases ru
      obtain ⟨its, rw', p', hz⟩ := I1.tuple (L.K ▸ sa.t)
      refine Low.call_enumerate_tuple p' fun h' he hit hsz hk => wpAny_pyIter_enum he ?_
      have I2 : Inv X pins σ H1 { s1 with heap := h' } := I1.kept (t' := s1.toks) hk
      refine ⟨s1.heap.objs.size + 1, [s1.heap.objs.size + 1, s1.heap.objs.size], _, _, H1, rfl, I2, Low.turn_enumTF a' (s1.heap.objs.size + 1) s1.heap.objs.size, ⟨⟨.none, he⟩, hit, Nat.succ_ne_self _⟩, fun b hb => ?_, p1 ι1 H1 _ Ext.refl R1 (L.K ▸ src_enmT sa ra)⟩
      have e' : b = s1.heap.objs.size + 1 ∨ b = s1.heap.objs.size := by simpa using hb
      have hle : s1.heap.objs.size ≤ b := by rcases e' with z | z <;> rw [z] <;> first | exact Nat.le_add_right _ _ | exact Nat.le_refl _
      exact I1.fpOk hle (I1.hok.fresh hle)
    · rename_i n
      obtain ⟨a', ea, rfl⟩ := VR.rf rv
      split at es
      · rename_i xs g
        cases es
        obtain ⟨ws, sa, ra⟩ := listAt_sq R1 ea g
        cases ru
        obtain ⟨its, rw', p', hz⟩ := I1.list (L.K ▸ sa)
        refine call_enumerate_list p'.isList fun h' he hit hsz hk => wpAny_pyIter_enum he ?_
        have I2 : Inv X pins σ H1 { s1 with heap := h' } := I1.kept (t' := s1.toks) hk
        refine ⟨s1.heap.objs.size + 1, [s1.heap.objs.size + 1, s1.heap.objs.size], _, _, H1, rfl, I2, Low.turn_enumLF a' (s1.heap.objs.size + 1) s1.heap.objs.size, ⟨⟨.none, he⟩, hit, Nat.succ_ne_self _⟩, fun b hb => ?_, p1 ι1 H1 _ Ext.refl R1 (L.K ▸ src_enmL ea)⟩
        have e' : b = s1.heap.objs.size + 1 ∨ b = s1.heap.objs.size := by simpa using hb
        have hle : s1.heap.objs.size ≤ b := by rcases e' with z | z <;> rw [z] <;> first | exact Nat.le_add_right _ _ | exact Nat.le_refl _
        exact I1.fpOk hle (I1.hok.fresh hle)
      · cases es
    · cases es
  · exact p1.elim
theorem prs_track {pins : List (Addr × Obj)} {σ : L2.St} {s : Shared} {g : Heap} (I : L2.Inv X pins σ H s) (k : ∀ b o, s.heap.get? b = some o → g.get? b = some o) : ∀ ps : List (Addr × V × V),
    (∀ p ∈ ps, s.heap.get? p.1 = none ∧ ∃ u v, IsPair g p.1 u v ∧ RelV p.2.1 u ∧ RelV p.2.2 v) → ∃ H2 : Hp, L2.Inv X pins σ H2 { s with heap := g } ∧ (∀ b o, H b = some o → H2 b = some o) ∧ ∀ p ∈ ps, ∃ ob, H2 p.1 = some (.frz ob (.tup [p.2.1, p.2.2])) ∧ ob.dict = none := by
  intro ps hp
  let H2 : Hp := fun b => match ps.find? (fun p => decide (p.1 = b)) with
    | some p => match g.get? b with
      | some ob => some (.frz ob (.tup [p.2.1, p.2.2]))
      | none => none
    | none => H b
  have new : ∀ b, s.heap.get? b = none → H b = none := fun b e => none_of I e
  have old : ∀ b o, H b = some o → H2 b = some o := fun b o e => by
    show (match ps.find? (fun p => decide (p.1 = b)) with
      | some p => match g.get? b with
        | some ob => some (HO.frz ob (.tup [p.2.1, p.2.2]))
        | none => none
      | none => H b) = some o
    cases q : ps.find? (fun p => decide (p.1 = b)) with
    | none => exact e
    | some p =>
      have m := List.mem_of_find?_eq_some q
      have d := of_decide_eq_true (List.find?_some (p := fun p : Addr × V × V => decide (p.1 = b)) q)
      have := new _ (hp p m).1
      rw [d, e] at this
      cases this
  have at2 : ∀ p ∈ ps, ∃ u v, H2 p.1 = some (.frz { cls := .type "tuple", data := .seq #[u, v] } (.tup [p.2.1, p.2.2])) ∧ IsPair g p.1 u v ∧ RelV p.2.1 u ∧ RelV p.2.2 v := fun p m => by
    obtain ⟨e, u, v, pr, ru, rv⟩ := hp p m
    refine ⟨u, v, ?_, pr, ru, rv⟩
    show (match ps.find? (fun q => decide (q.1 = p.1)) with
      | some q => match g.get? p.1 with
        | some ob => some (HO.frz ob (.tup [q.2.1, q.2.2]))
        | none => none
      | none => H p.1) = _
    cases q : ps.find? (fun q => decide (q.1 = p.1)) with
    | none =>
      have := List.find?_eq_none.mp q p m
      rw [decide_eq_true rfl] at this
      exact absurd rfl this
    | some p' =>
      have m' := List.mem_of_find?_eq_some q
      have d := of_decide_eq_true (List.find?_some (p := fun q : Addr × V × V => decide (q.1 = p.1)) q)
      obtain ⟨_, u', v', pr', ru', rv'⟩ := hp p' m'
      rw [d] at pr'
      have pr : g.get? p.1 = some { cls := .type "tuple", data := .seq #[u, v] } := pr
      have pr' : g.get? p.1 = some { cls := .type "tuple", data := .seq #[u', v'] } := pr'
      have z := pr.symm.trans pr'
      injection z with z
      injection z with _ _ z
      injection z with z
      have z1 : [u, v] = [u', v'] := by
        have := congrArg Array.toList z
        exact this
      injection z1 with z1 z2
      injection z2 with z2 _
      subst z1 z2
      rw [pr]
      show some (HO.frz _ (.tup [p'.2.1, p'.2.2])) = some (HO.frz _ (.tup [p.2.1, p.2.2]))
      rw [RelV.inj ru' ru, RelV.inj rv' rv]
  refine ⟨H2, I.un (t' := s.toks) ⟨fun b o e _ _ _ => k b o e, fun b o e _ _ _ => ⟨o.slots, k b o e⟩, fun b o e n _ => ?_, fun b o e _ => ⟨o, k b o e⟩, fun b xs e => old b _ e, fun b o u e => old b _ e, fun b ps e => ⟨#[], by rw [old b _ e]; simp⟩⟩ fun b o e => ?_, old, fun p m => ?_⟩
  · show (match ps.find? (fun p => decide (p.1 = b)) with
      | some p => match g.get? b with
        | some ob => some (HO.frz ob (.tup [p.2.1, p.2.2]))
        | none => none
      | none => H b) = none
    cases q : ps.find? (fun p => decide (p.1 = b)) with
    | none => exact n
    | some p =>
      have m := List.mem_of_find?_eq_some q
      have d := of_decide_eq_true (List.find?_some (p := fun p : Addr × V × V => decide (p.1 = b)) q)
      have := (hp p m).1
      rw [d, e] at this
      cases this
  · cases q : H b with
    | some o' =>
      have := old b o' q
      rw [e] at this
      cases this
      exact (I.hok b o q).stay (fun c v _ z => k c v z) (fun c z => old c _ z) fun c xs z => old c _ z
    | none =>
      have e2 : (match ps.find? (fun p => decide (p.1 = b)) with
        | some p => match g.get? b with
          | some ob => some (HO.frz ob (.tup [p.2.1, p.2.2]))
          | none => none
        | none => H b) = some o := e
      cases z : ps.find? (fun p => decide (p.1 = b)) with
      | none =>
        rw [z] at e2
        rw [q] at e2
        cases e2
      | some p =>
        have m := List.mem_of_find?_eq_some z
        have d := of_decide_eq_true (List.find?_some (p := fun p : Addr × V × V => decide (p.1 = b)) z)
        obtain ⟨u, v, w1, pr, ru, rv⟩ := at2 p m
        rw [d] at w1 pr
        rw [e] at w1
        cases w1
        exact ⟨pr, by show 2 ≤ sizeLine; decide, [u, v], .cons ru (.cons rv .nil), ⟨_, pr, rfl, _, rfl⟩⟩
  · obtain ⟨u, v, w1, _⟩ := at2 p m
    exact ⟨_, w1, rfl⟩
theorem zmerge_V (X : Cx) : ∀ (xs ys : List AV) (ws zs : List V) (its jts : List Value) (acc ks : List (Key × AV)) (wacc : List (Key × V)), VRs N ι H xs ws → VRs N ι H ys zs → Vals ws its → Vals zs jts → dMerge acc (zipA xs ys) = some ks → DR N ι H acc wacc → (acc.map (·.1)).Nodup →
    ∃ (kvs : List (Key × V)) (prs : List (Key × Value)), KV kvs prs ∧ prs.length = min its.length jts.length ∧ (∀ (j : Nat) (k v : Value), its[j]? = some k → jts[j]? = some v → ∃ q, prs[j]? = some (q, v) ∧ keyIs q k = true) ∧ DR N ι H ks (mergeK wacc kvs) ∧ (ks.map (·.1)).Nodup
  | [], ys, ws, zs, its, jts, acc, ks, wacc, r1, r2, v1, v2, e, d, nd => by
    have r1 : ws = [] := r1
    subst r1
    cases v1
    have e : some acc = some ks := by
      have z : zipA [] ys = [] := rfl
      rw [z] at e
      exact e
    cases e
    exact ⟨[], [], .nil, by simp, fun j k v e => by simp at e, d, nd⟩
  | x :: xs, [], ws, zs, its, jts, acc, ks, wacc, r1, r2, v1, v2, e, d, nd => by
    have r2 : zs = [] := r2
    subst r2
    cases v2
    have e : some acc = some ks := e
    cases e
    exact ⟨[], [], .nil, by simp, fun j k v _ e => by simp at e, d, nd⟩
  | x :: xs, y :: ys, ws, zs, its, jts, acc, ks, wacc, r1, r2, v1, v2, e, d, nd => by
    obtain ⟨w, r', q1, a1, b1⟩ := (show ∃ w r, ws = w :: r ∧ VR N ι H x w ∧ VRs N ι H xs r from r1)
    obtain ⟨z, r'', q2, a2, b2⟩ := (show ∃ w r, zs = w :: r ∧ VR N ι H y w ∧ VRs N ι H ys r from r2)
    subst q1 q2
    cases v1 with
    | @cons _ u _ us c1 c2 =>
      cases v2 with
      | @cons _ u2 _ us2 d1 d2 =>
        have e : (match keyOf x with
          | some q => dMerge (dPut q y acc) (zipA xs ys)
          | none => none) = some ks := e
        split at e
        · rename_i q eq
          have kx := keyOf_V eq a1
          subst kx
          obtain ⟨kvs, prs, h1, h2, h3, h4, h5⟩ := zmerge_V X xs ys r' r'' us us2 (dPut q y acc) ks (putK wacc q z) b1 b2 c2 d2 e (put_V a2 d nd) (dPut_nd nd)
          refine ⟨(q, z) :: kvs, (q, u2) :: prs, .cons ⟨rfl, d1⟩ h1, by rw [List.length_cons, List.length_cons, List.length_cons, h2]; omega, fun j k v e1 e2 => ?_, h4, h5⟩
          cases j with
          | zero =>
            cases (Option.some.inj e1 : u = k)
            cases (Option.some.inj e2 : u2 = v)
            exact ⟨q, rfl, kV_is (P := X.prog) (w := X.w) c1⟩
          | succ j =>
            obtain ⟨q', z1, z2⟩ := h3 j k v (by simpa using e1) (by simpa using e2)
            exact ⟨q', by simpa using z1, z2⟩
        · cases e
theorem zip_args {k : BI} (hk : k = .dictZ ∨ k = .tupleZ) : ∀ (vs : List AV) (h : AH), bltA k vs h ≠ .bad → ∃ xs ys, vs = [.tup xs, .tup ys]
  | [], h, p => by rcases hk with rfl | rfl <;> exact (p rfl).elim
  | [x], h, p => by rcases hk with rfl | rfl <;> cases x <;> exact (p rfl).elim
  | [x, y], h, p => by rcases hk with rfl | rfl <;> cases x <;> cases y <;> first | exact ⟨_, _, rfl⟩ | exact (p rfl).elim
  | x :: y :: z :: r, h, p => by rcases hk with rfl | rfl <;> cases x <;> cases y <;> exact (p rfl).elim
theorem zip_post {k : BI} (hk : k = .dictZ ∨ k = .tupleZ) {vs : List AV} {Q : VK} (p : PostE N EN ι H (bltA k vs h) Q) : ∃ xs ys, vs = [.tup xs, .tup ys] := zip_args hk vs h fun e => by
  rw [e] at p
  exact p
/-- zip(a, b) of two tuples, in a place where what follows takes it -/
theorem zip_at (L : Lx N X) {q zpos : Pos} (hgz : Gl X "zip") (hmz : X.mg "zip" = none) (ha : PE X a (rE N fa)) (hb : PE X b (rE N fb)) (hs : starEach [a, b] X.env = (false, eval a X.env) :: starEach [b] X.env) (hs2 : starEach [b] X.env = [(false, eval b X.env)])
    {pins : List (Addr × Obj)} {s : Shared} {σ : L2.St} {R : List V → Hp → Prop} {Q : Value → Shared → Prop} (I : L2.Inv X pins σ H s) (t : rA N (aCons fa (aCons fb aNil)) σ H R) (hR : ∀ ws H1, R ws H1 → ∃ p1 p2 xs ys, ws = [.ref p1, .ref p2] ∧ SqP N.K H1 p1 xs ∧ SqP N.K H1 p2 ys)
    (fin : ∀ (s1 : Shared) (H1 : Hp) (p1 p2 : Addr) (xs ys : List V) (its jts : List Value) (h' : Heap), L2.Inv X pins σ H1 s1 → R [.ref p1, .ref p2] H1 → SqP N.K H1 p1 xs → SqP N.K H1 p2 ys → Vals xs its → Vals ys jts → xs.length ≤ sizeLine → (∀ c o, s1.heap.get? c = some o → h'.get? c = some o) →
      s1.heap.objs.size + 5 = h'.objs.size → ZipApart (s1.heap.objs.size + 4) (s1.heap.objs.size + 2) (s1.heap.objs.size + 3) s1.heap.objs.size (s1.heap.objs.size + 1) p1 p2 → ZNew (s1.heap.objs.size + 4) (s1.heap.objs.size + 2) (s1.heap.objs.size + 3) s1.heap.objs.size (s1.heap.objs.size + 1) p1 p2 its.toArray jts.toArray h' →
      Q (.ref (s1.heap.objs.size + 4)) { s1 with heap := h' }) :
    wpAny (model X.prog X.w) X.A (eval (.Call (.Name "zip" q) [a, b] [] zpos) X.env) Q X.xe s := by
  refine Call_ (ld_blt I hgz hmz PyProof.Rows.boot_zip (PyProof.Rows.callWith_type1 (thn ((a_cons ha (a_cons hb a_nil hs2) hs).run zpos pins s σ H R I t) fun us s1 ⟨vs, H1, I1, r1, q1⟩ => ?_) hs (by rw [hs2]; rfl)))
  obtain ⟨p1, p2, xs, ys, ex, sx, sy⟩ := hR vs H1 q1
  subst ex
  cases r1 with
  | cons r rr =>
    cases rr with
    | cons r' rr =>
      cases rr
      cases r
      cases r'
      obtain ⟨its, rv, t1, z1⟩ := I1.tuple (L.K ▸ sx.t)
      obtain ⟨jts, rv2, t2, z2⟩ := I1.tuple (L.K ▸ sy.t)
      obtain ⟨o1, ho1, w1⟩ := id t1
      obtain ⟨o2, ho2, w2⟩ := id t2
      refine RZ.call_zipT (show s1.heap.IsTuple p1 its.toArray from t1) (show s1.heap.IsTuple p2 jts.toArray from t2) fun h' hz hTI hTO h1 h2 hsz hk => ?_
      exact fin s1 H1 p1 p2 xs ys its jts h' I1 q1 sx sy rv rv2 z1 hk hsz.symm (PySem.W.ktu_apart s1.heap.objs.size p1 p2 (Heap.lt_size ho1) (Heap.lt_size ho2)) ⟨hz, hTI, ⟨_, _, hTO⟩, h1, h2, ⟨o1, hk _ _ ho1, w1⟩, ⟨o2, hk _ _ ho2, w2⟩⟩
theorem e_dictZ (L : Lx N X) {p q zpos : Pos} (hg : Gl X "dict") (hm : X.mg "dict" = none) (hgz : Gl X "zip") (hmz : X.mg "zip" = none) (ha : PE X a (rE N fa)) (hb : PE X b (rE N fb)) (hs : starEach [a, b] X.env = (false, eval a X.env) :: starEach [b] X.env := by rfl) (hs2 : starEach [b] X.env = [(false, eval b X.env)] := by rfl)
    (ho : starEach [.Call (.Name "zip" q) [a, b] [] zpos] X.env = (false, eval (.Call (.Name "zip" q) [a, b] [] zpos) X.env) :: starEach [] X.env := by rfl) :
    PE X (.Call (.Name "dict" p) [.Call (.Name "zip" q) [a, b] [] zpos] [] pos) (rE N (cBlt .dictZ (aCons fa (aCons fb aNil)))) := by
  refine ⟨fun pins s σ H Q I ⟨ι, h, sl, Rl, S, qq⟩ => ?_⟩
  refine Call_ (ld_blt I hg hm boot_dict (PyProof.Rows.callWith_type1 (args_cons (zip_at L hgz hmz ha hb hs hs2 I ⟨ι, h, sl, Rl, S, qq.bind⟩ (fun ws H1 ⟨ι1, h1, vs, x1, R1, r1, p1⟩ => ?_) fun s1 H1 p1 p2 xs ys its jts h' I1 ⟨ι1, h1, vs, x1, R1, r1, q1⟩ sx sy v1 v2 zl kp hsz D zn => args_nil ?_) ho) ho))
  · obtain ⟨xs, ys, rfl⟩ := zip_post (.inl rfl) p1
    obtain ⟨w, z, ew, e1, e2⟩ := VRs.two r1
    obtain ⟨a1, ws1, rfl, s1, _⟩ := VR.tup e1
    obtain ⟨a2, ws2, rfl, s2, _⟩ := VR.tup e2
    exact ⟨a1, a2, ws1, ws2, ew, s1, s2⟩
  · obtain ⟨xa, ya, rfl⟩ := zip_post (.inl rfl) q1
    have q1 : PostE N EN ι1 H1 (if short xa && short ya then (match dMerge [] (zipA xa ya) with
      | some ks => .ok (.ref h1.n) (h1.push (.dct ks))
      | none => .bad) else .bad) Q := q1
    obtain ⟨w, z, ew, e1, e2⟩ := VRs.two r1
    injection ew with ew1 ew2
    injection ew2 with ew2 _
    subst ew1 ew2
    obtain ⟨a1, ws1, f1, s1', g1⟩ := VR.tup e1
    obtain ⟨a2, ws2, f2, s2', g2⟩ := VR.tup e2
    injection f1 with f1
    injection f2 with f2
    subst f1 f2
    have t1 := I1.tuple_inj (L.K ▸ s1'.t) (L.K ▸ sx.t)
    have t2 := I1.tuple_inj (L.K ▸ s2'.t) (L.K ▸ sy.t)
    subst t1 t2
    split at q1
    · rename_i c
      split at q1
      · rename_i ks ek
        obtain ⟨kvs, prs, m1, m2, m3, m4, m5⟩ := zmerge_V X xa ya ws1 ws2 its jts [] ks [] g1 g2 v1 v2 ek rfl List.nodup_nil
        refine PySem.call_dict_pairs (knd := mixKind X.prog X.w) (kvs := prs) (PairArgT D its.toArray jts.toArray) (I1.ok.hd L.calm) zn ⟨by simpa using m2, fun i k v hr => ?_⟩ (by rw [← v1.length.symm.symm] at *; simp only [List.size_toArray]; have := v1.length; omega) fun h2 tk hd' kp2 => ?_
        · obtain ⟨q1', e1', e2'⟩ := m3 i k v (by simpa using hr.1) (by simpa using hr.2)
          exact ⟨q1', e1', e2'⟩
        · have lt5 : ∀ {b : Addr} {o : Obj}, s1.heap.get? b = some o → b < s1.heap.objs.size := fun e => Heap.lt_size e
          have sz' : h'.objs.size = s1.heap.objs.size + 5 := hsz.symm
          have kk : ∀ b o, s1.heap.get? b = some o → h2.get? b = some o := fun b o e => kp2 b o (fun hm => by
            have l : ∀ m, b ≠ s1.heap.objs.size + m := fun m => Nat.ne_of_lt (Nat.lt_of_lt_of_le (lt5 e) (Nat.le_add_right _ _))
            simp only [List.mem_cons, List.not_mem_nil, or_false] at hm
            rcases hm with q | q | q | q
            · exact l _ q
            · exact l _ q
            · exact l 0 q
            · exact l _ q) (kp b o e)
          have big : sysModules < s1.heap.objs.size := I1.big
          have hm : ((h'.objs.size : Addr) == sysModules) = false := beq_eq_false_iff_ne.mpr (Nat.ne_of_gt (Nat.lt_of_lt_of_le big (by rw [sz']; exact Nat.le_add_right _ _)))
          have hlen : (mergeK [] kvs).length ≤ sizeLine := by
            refine Nat.le_trans (length_mergeK kvs []) ?_
            have e1 : kvs.length = prs.length := Paired.length m1
            rw [List.length_nil, Nat.zero_add, e1, m2]
            have := v1.length
            omega
          refine ⟨.ref h'.objs.size, upd H1 h'.objs.size (.dK (mergeK [] kvs)), I1.laid (t' := tk) kk (by rw [sz']; omega) (show ObjOk X.prog X.w _ _ _ (.dK (mergeK [] kvs)) from ⟨hlen, hm, merged [] prs, KV.merge m1 .nil, hd'⟩), rfl, ?_⟩
          exact finD q1 R1 m5 m4 (I1.hok.fresh (by rw [sz']; omega))
      · exact q1.elim
    · exact q1.elim
theorem pairs_V : ∀ (xs ys : List AV) (ws zs : List V), VRs N ι H xs ws → VRs N ι H ys zs → ∀ (us : List V), us.length = min ws.length zs.length → (∀ (j : Nat) (u : V), us[j]? = some u → ∃ T w z, u = .ref T ∧ ws[j]? = some w ∧ zs[j]? = some z ∧ SqP N.K H T [w, z]) → VRs N ι H (zipA xs ys) us
  | [], ys, ws, zs, r1, r2, us, hl, hu => by
    have r1 : ws = [] := r1
    subst r1
    rw [List.length_nil, Nat.zero_min] at hl
    rw [List.length_eq_zero_iff.mp hl]
    exact rfl
  | x :: xs, [], ws, zs, r1, r2, us, hl, hu => by
    have r2 : zs = [] := r2
    subst r2
    rw [List.length_nil, Nat.min_zero] at hl
    rw [List.length_eq_zero_iff.mp hl]
    exact rfl
  | x :: xs, y :: ys, ws, zs, r1, r2, us, hl, hu => by
    obtain ⟨w, r', q1, a1, b1⟩ := (show ∃ w r, ws = w :: r ∧ VR N ι H x w ∧ VRs N ι H xs r from r1)
    obtain ⟨z, r'', q2, a2, b2⟩ := (show ∃ w r, zs = w :: r ∧ VR N ι H y w ∧ VRs N ι H ys r from r2)
    subst q1 q2
    cases us with
    | nil => simp at hl
    | cons u us =>
      obtain ⟨T, w', z', e1, e2, e3, e4⟩ := hu 0 u rfl
      cases (Option.some.inj e2 : w = w')
      cases (Option.some.inj e3 : z = z')
      refine ⟨u, us, rfl, ⟨T, [w, z], e1, e4, VRs.cons a1 (VRs.cons a2 VRs.nil)⟩, pairs_V xs ys r' r'' b1 b2 us (by simp at hl; omega) fun j v e => ?_⟩
      obtain ⟨T, w', z', e1, e2, e3, e4⟩ := hu (j + 1) v (by simpa using e)
      exact ⟨T, w', z', e1, by simpa using e2, by simpa using e3, e4⟩
theorem refs_vals : ∀ ps : List (Addr × V × V), Vals (ps.map fun p => V.ref p.1) (ps.map fun p => Value.ref p.1)
  | [] => .nil
  | p :: ps => .cons rfl (refs_vals ps)
theorem e_tupleZ (L : Lx N X) {p q zpos : Pos} (hg : Gl X "tuple") (hm : X.mg "tuple" = none) (hgz : Gl X "zip") (hmz : X.mg "zip" = none) (ha : PE X a (rE N fa)) (hb : PE X b (rE N fb)) (hs : starEach [a, b] X.env = (false, eval a X.env) :: starEach [b] X.env := by rfl) (hs2 : starEach [b] X.env = [(false, eval b X.env)] := by rfl)
    (ho : starEach [.Call (.Name "zip" q) [a, b] [] zpos] X.env = (false, eval (.Call (.Name "zip" q) [a, b] [] zpos) X.env) :: starEach [] X.env := by rfl) :
    PE X (.Call (.Name "tuple" p) [.Call (.Name "zip" q) [a, b] [] zpos] [] pos) (rE N (cBlt .tupleZ (aCons fa (aCons fb aNil)))) := by
  refine ⟨fun pins s σ H Q I ⟨ι, h, sl, Rl, S, qq⟩ => ?_⟩
  refine Call_ (ld_blt I hg hm boot_tuple (PyProof.Rows.callWith_type1 (args_cons (zip_at L hgz hmz ha hb hs hs2 I ⟨ι, h, sl, Rl, S, qq.bind⟩ (fun ws H1 ⟨ι1, h1, vs, x1, R1, r1, p1⟩ => ?_) fun s1 H1 p1 p2 xs ys its jts h' I1 ⟨ι1, h1, vs, x1, R1, r1, q1⟩ sx sy v1 v2 zl kp hsz D zn => args_nil ?_) ho) ho))
  · obtain ⟨xs, ys, rfl⟩ := zip_post (.inr rfl) p1
    obtain ⟨w, z, ew, e1, e2⟩ := VRs.two r1
    obtain ⟨a1, ws1, rfl, s1, _⟩ := VR.tup e1
    obtain ⟨a2, ws2, rfl, s2, _⟩ := VR.tup e2
    exact ⟨a1, a2, ws1, ws2, ew, s1, s2⟩
  · obtain ⟨xa, ya, rfl⟩ := zip_post (.inr rfl) q1
    have q1 : PostE N EN ι1 H1 (if short xa && short ya then .ok (.tup (zipA xa ya)) h1 else .bad) Q := q1
    obtain ⟨w, z, ew, e1, e2⟩ := VRs.two r1
    injection ew with ew1 ew2
    injection ew2 with ew2 _
    subst ew1 ew2
    obtain ⟨a1, ws1, f1, s1', g1⟩ := VR.tup e1
    obtain ⟨a2, ws2, f2, s2', g2⟩ := VR.tup e2
    injection f1 with f1
    injection f2 with f2
    subst f1 f2
    have t1 := I1.tuple_inj (L.K ▸ s1'.t) (L.K ▸ sx.t)
    have t2 := I1.tuple_inj (L.K ▸ s2'.t) (L.K ▸ sy.t)
    subst t1 t2
    split at q1
    · rename_i c
      have lv := v1.length
      refine ztuple (I1.ok.hd L.calm) D (by simp only [List.size_toArray]; omega) zn fun g acc len pr kp2 => ?_
      have sz' : h'.objs.size = s1.heap.objs.size + 5 := hsz.symm
      have kk : ∀ b o, s1.heap.get? b = some o → g.get? b = some o := fun b o e => by
        rcases kp2 b o (kp b o e) with hm | hm
        · have l : ∀ m, b ≠ s1.heap.objs.size + m := fun m => Nat.ne_of_lt (Nat.lt_of_lt_of_le (Heap.lt_size e) (Nat.le_add_right _ _))
          simp only [List.mem_cons, List.not_mem_nil, or_false] at hm
          rcases hm with q | q | q | q
          · exact absurd q (l _)
          · exact absurd q (l _)
          · exact absurd q (l 0)
          · exact absurd q (l _)
        · exact hm
      -- the pairs, told by the items
      have each : ∀ (j : Nat) (u : Value), acc[j]? = some u → ∃ T w z, u = Value.ref T ∧ ws1[j]? = some w ∧ ws2[j]? = some z ∧ s1.heap.get? T = none ∧ ∃ x y, IsPair g T x y ∧ RelV w x ∧ RelV z y := fun j u e => by
        obtain ⟨T, x, y, e1, e2, e3, e4, e5, e6, e7⟩ := pr j u e
        obtain ⟨hj, ej⟩ := List.getElem?_eq_some_iff.mp (show its[j]? = some x by simpa using e2)
        obtain ⟨hj2, ej2⟩ := List.getElem?_eq_some_iff.mp (show jts[j]? = some y by simpa using e3)
        obtain ⟨w, ew, rw'⟩ := Vals.at_ v1 (j := j) hj
        obtain ⟨z, ez, rz⟩ := Vals.at_ v2 (j := j) hj2
        rw [ej] at rw'
        rw [ej2] at rz
        refine ⟨T, w, z, e1, ew, ez, ?_, x, y, e4, rw', rz⟩
        cases qn : s1.heap.get? T with
        | none => rfl
        | some o =>
          have := kp _ _ qn
          rw [e7] at this
          cases this
      have lst : ∃ ps : List (Addr × V × V), acc = ps.map (fun p => Value.ref p.1) ∧ (∀ p ∈ ps, s1.heap.get? p.1 = none ∧ ∃ u v, IsPair g p.1 u v ∧ RelV p.2.1 u ∧ RelV p.2.2 v) ∧ ∀ (j : Nat) (p : Addr × V × V), ps[j]? = some p → ws1[j]? = some p.2.1 ∧ ws2[j]? = some p.2.2 := by
        have gen : ∀ (acc : List Value) (n : Nat), (∀ (j : Nat) (u : Value), acc[j]? = some u → ∃ T w z, u = Value.ref T ∧ ws1[j + n]? = some w ∧ ws2[j + n]? = some z ∧ s1.heap.get? T = none ∧ ∃ x y, IsPair g T x y ∧ RelV w x ∧ RelV z y) →
            ∃ ps : List (Addr × V × V), acc = ps.map (fun p => Value.ref p.1) ∧ (∀ p ∈ ps, s1.heap.get? p.1 = none ∧ ∃ u v, IsPair g p.1 u v ∧ RelV p.2.1 u ∧ RelV p.2.2 v) ∧ ∀ (j : Nat) (p : Addr × V × V), ps[j]? = some p → ws1[j + n]? = some p.2.1 ∧ ws2[j + n]? = some p.2.2 := by
          intro acc
          induction acc with
          | nil => exact fun n _ => ⟨[], rfl, (fun p m => nomatch m), fun j p e => (by rw [List.getElem?_nil] at e; cases e)⟩
          | cons u acc ih =>
            intro n each
            obtain ⟨T, w, z, e1, e2, e3, e4, e5⟩ := each 0 u rfl
            obtain ⟨ps, i1, i2, i3⟩ := ih (n + 1) fun j v e => by
              have := each (j + 1) v (by simpa using e)
              rw [show j + 1 + n = j + (n + 1) by omega] at this
              exact this
            refine ⟨(T, w, z) :: ps, by rw [List.map_cons, ← i1, e1], fun p m => ?_, fun j p e => ?_⟩
            · rcases List.mem_cons.mp m with q | m
              · rw [q]
                exact ⟨e4, e5⟩
              · exact i2 p m
            · cases j with
              | zero =>
                cases (Option.some.inj e : (T, w, z) = p)
                exact ⟨e2, e3⟩
              | succ j =>
                have := i3 j p (by simpa using e)
                rw [show j + 1 + n = j + (n + 1) by omega]
                exact this
        exact gen acc 0 each
      obtain ⟨ps, ea, pn, pw⟩ := lst
      obtain ⟨H2, I2, old, tr⟩ := prs_track I1 kk ps pn
      have x2 : Ext N ι1 H1 ι1 H2 := ⟨⟨[], by simp⟩, fun b o e _ => old b o e, fun b m n => absurd m n, fun b o u e => old b _ e⟩
      have R2 : Rel N ι1 h1 H2 := ⟨R1.len, R1.nd, R1.full, fun n ob e => by
        obtain ⟨b, eb, rb⟩ := R1.obj n ob e
        exact ⟨b, eb, rb.ext x2 fun u e => old b u e⟩⟩
      have rp : VRs N ι1 H2 (zipA xa ya) (ps.map fun p => V.ref p.1) := by
        refine pairs_V xa ya ws1 ws2 (g1.ext x2) (g2.ext x2) _ ?_ fun j u e => ?_
        · have l1 : acc.length = ps.length := by rw [ea, List.length_map]
          rw [List.length_map, ← l1, len, List.size_toArray, List.size_toArray, v1.length, v2.length]
        · rw [List.getElem?_map] at e
          obtain ⟨p, e1, e2⟩ := Option.map_eq_some_iff.mp e
          obtain ⟨f1, f2⟩ := pw j p e1
          obtain ⟨ob, t1, t2⟩ := tr p (List.mem_of_getElem? e1)
          exact ⟨p.1, p.2.1, p.2.2, e2.symm, f1, f2, .inl ⟨ob, t1, t2⟩⟩
      have va : Vals (ps.map fun p => V.ref p.1) acc := by
        rw [ea]
        exact refs_vals ps
      exact Low.laidF I2 va (by rw [va.length, len]; simp only [List.size_toArray]; omega) (finT (q1.weak x2) R2 rp)
    · exact q1.elim
theorem s_setDc (L : Lx N X) (k : Nat) {y : Str} {py : Pos} {scope : Scope} (own : List (Str × Nat)) {vs : List Nat} {t : RT} (eo : own.map (·.2) = vs) (sub : ((tix t).all fun i => vs.contains i) = true) (hy : X.N[k]? = some y) (hyl : X.env.scope.names.lookup y = some .local)
    (hi : PI X tg iter (rIt N fi)) (ok : BlkOk X.N X.env.scope scope own) (hg : BPG N X scope tg t) (ht : BPTs N X scope ifs ft) (hk : BPE N X scope kx fk) (he : BPE N X scope vx fe)
    (hkd : X.env.scope.kind = .function := by rfl) (hl : (py.line == pos.line) = true := by rfl) (ha : (scope.names.any fun (n, k) => n == y && (k == .local || k == .cell)) = false := by decide +kernel)
    (hs : ∀ x, foldedSetIterable iter X.env x = pure x := by intro _; rfl) : PS X (.Assign [.Name y py] (.DictComp kx vx [⟨tg, iter, ifs, 0⟩] scope pos) spos) (tS N (sAsg (.nm k) (cDcm vs t fi ft fk fe))) := by
  have sw : swapsWith (.DictComp kx vx [⟨tg, iter, ifs, 0⟩] scope pos) (some (.Name y py)) spos.line X.env = pure true := by
    have ky : X.env.kindOf y = some .local := hyl
    have hb : X.env.blockKind = .function := by unfold Env.blockKind; rw [hkd]; rfl
    unfold swapsWith
    simp only [hb, ky, ha, Expr.pos, hl]
    rfl
  have core : PS X (.Assign [.Name y py] (.DictComp kx vx [⟨tg, iter, ifs, 0⟩] scope pos) spos) (tAsg (tDc (rIt N fi) (gR N t) (rT N ft) (rE N fk) (rE N fe) (own.map (·.2))) (gName k)) := by
    refine ⟨fun pins s σ H D I h => ?_⟩
    rw [exec_Assign_Name_used _ _ _ _ sw]
    refine wpAny_bind (wpAny_standAt (wpAny_bind ?_))
    show wpAny _ X.A (do let _ ← comprehension (.DictComp kx vx [⟨tg, iter, ifs, 0⟩] scope pos) scope X.env (firstIterPos [⟨tg, iter, ifs, 0⟩] pos) newDict false (eval iter X.env) (some (assign (.Name y py) X.env))) _ _ s
    have h : tDc (rIt N fi) (gR N t) (rT N ft) (rE N fk) (rE N fe) (own.map (·.2)) σ H (fun x H1 => gName k x σ H1 D.nx) := h
    refine wpAny_bind (thn (dc_core (Qf := fun _ s' => SP X pins D .next s') L.calm L.nd I hi ok hg ht hk he hs h fun LL C s' m H' I' q hn f => ?_) fun _ s' hq => wpAny_pure (wpAny_pure hq))
    show wpAny _ _ (assign (.Name y py) X.env (.ref LL)) _ _ _
    refine wpAny_assign_Name (store_ok2 (v := V.ref LL) I' L.nd hy (.inl hyl) rfl (fun s2 I2 ⟨a, sb, ha⟩ => ?_) (.inr hyl))
    obtain ⟨f0, f1, f2, f3, f4, f5⟩ := f
    have haC : C ≠ a := by
      rcases ha with z | z
      · rw [z]; exact f1
      · exact fun e => f4 y a z e.symm
    refine ⟨m, hn.sameBut sb haC, fun h3 sb3 => ?_⟩
    exact ⟨_, H', I2.turned (t' := s2.toks) (fun b o hb e => (sb3.2 b hb).trans e) f0 f1 f3 f4 f5, q⟩
  rw [eo] at core
  exact core.imp (setN_imp (dcm_imp (sub_of sub)))
theorem e_gint {x : Str} {i : Int} (hg : Gl X x) (h : ∃ t, X.mg x = some (.int i t)) (hd : (x == ("__debug__" : Str)) = false := by decide) : PE X (.Name x pos) (rE N (cCst (.int i))) := by
  obtain ⟨t, h⟩ := h
  exact e_glo (w := .int i) hg h ⟨t, rfl⟩ hd fun _ _ => rfl
theorem e_gstr {x z : Str} (hg : Gl X x) (h : ∃ t, X.mg x = some (.str z t)) (hd : (x == ("__debug__" : Str)) = false := by decide) : PE X (.Name x pos) (rE N (cCst (.str z))) := by
  obtain ⟨t, h⟩ := h
  exact e_glo (w := .str z) hg h ⟨t, rfl⟩ hd fun _ _ => rfl
theorem strs_V : ∀ zs : List Str, VRs N ι H (zs.map .str) (zs.map V.str)
  | [] => rfl
  | z :: zs => ⟨.str z, _, rfl, rfl, strs_V zs⟩
/-- a tuple of texts of the module -/
theorem e_gtup (L : Lx N X) {x : Str} {zs : List Str} {a : Addr} (hg : Gl X x) (h : X.mg x = some (.ref a)) (ht : ∀ H, SqP N.K H a (zs.map V.str)) (hd : (x == ("__debug__" : Str)) = false := by decide) : PE X (.Name x pos) (rE N (cCst (.tup (zs.map .str)))) := by
  exact e_glo (w := .ref a) hg h rfl hd fun ι H => ⟨a, _, rfl, ht H, strs_V zs⟩
theorem e_strE {x y : Str} {j} (e : x = y) : PE X (.Constant (.str x) j pos) (rE N (cCst (.str y))) := e ▸ e_str
theorem e_gstrE {x z y : Str} (e : z = y) (hg : Gl X x) (h : ∃ t, X.mg x = some (.str z t)) (hd : (x == ("__debug__" : Str)) = false := by decide) : PE X (.Name x pos) (rE N (cCst (.str y))) := e ▸ e_gstr hg h hd
theorem e_gtupE (L : Lx N X) {x : Str} {zs ys : List Str} (e : zs = ys) {a : Addr} (hg : Gl X x) (h : X.mg x = some (.ref a)) (ht : ∀ H, SqP N.K H a (zs.map V.str)) (hd : (x == ("__debug__" : Str)) = false := by decide) : PE X (.Name x pos) (rE N (cCst (.tup (ys.map .str)))) := e ▸ e_gtup L hg h ht hd
theorem s_docE {x y : Str} {j} {p2 : Pos} (e : x = y) : PS X (.Expr (.Constant (.str x) j pos) p2) (tS N (sExp (cCst (.str y)))) := e ▸ s_doc
/-- a tuple of texts of the module, its object without a dict -/
def tupP (K : PySem.W.Frag) (x : Str) (zs : List Str) : Bool := match K.lookup (He.ga K x) with
  | some ⟨.type c, none, .seq its _, _⟩ => decide (c = "tuple") && (decide (its.size ≤ sizeLine) && He.relAll (zs.map V.str) its.toList)
  | _ => false
theorem tupP_ok {K : PySem.W.Frag} {x : Str} {zs : List Str} (h : tupP K x zs = true) (H : Hp) : SqP K H (He.ga K x) (zs.map V.str) := by
  unfold tupP at h
  split at h
  · rename_i c its n sl q
    obtain ⟨h1, h2⟩ := and_t h
    obtain ⟨h3, h4⟩ := and_t h2
    exact .inr ⟨_, its, n, q, congrArg Value.type (of_decide_eq_true h1), rfl, rfl, of_decide_eq_true h3, He.relAll_ok h4⟩
  · cases h
theorem fld_ne {l : List Str} {m : Str} (h : (l.all fun x => !decide (x = m)) = true) (h0 : decide (("" : Str) = m) = false) (g : Nat) : l.getD g "" ≠ m := by
  rw [List.getD_eq_getElem?_getD]
  cases e : l[g]? with
  | none =>
    intro z
    have z : ("" : Str) = m := z
    rw [decide_eq_true z] at h0
    cases h0
  | some x =>
    intro z
    have z : x = m := z
    have q := List.all_eq_true.mp h x (List.mem_of_getElem? e)
    rw [decide_eq_true z] at q
    cases q
theorem fld_inj {l : List Str} (nd : l.Nodup) (h0 : (l.all fun x => !decide (x = ("" : Str))) = true) {f : Nat} (hf : f < l.length) (g : Nat) (e : l.getD g "" = l.getD f "") : g = f := by
  rw [List.getD_eq_getElem?_getD, List.getD_eq_getElem?_getD, List.getElem?_eq_getElem hf] at e
  cases q : l[g]? with
  | none =>
    rw [q] at e
    have e : ("" : Str) = l[f] := e
    have z := List.all_eq_true.mp h0 l[f] (List.getElem_mem hf)
    rw [decide_eq_true e.symm] at z
    cases z
  | some x =>
    rw [q] at e
    obtain ⟨hg, ex⟩ := List.getElem?_eq_some_iff.mp q
    have e : x = l[f] := e
    rw [← ex] at e
    exact (List.getElem_inj nd).mp e
/-- what is told of all defs at a level -/
structure CallsOk (P : Program) (w : World) (K : PySem.W.Frag) (mg : Str → Option Value) (base : Heap) (N : Cn) (T : Tab) (k : Nat) (nameAt : Nat → Option Str) (methAt : Nat → Option (Nat × Str)) (ncls : Nat) (methT : Nat → Nat → Option Nat) : Prop where
  cal : ∀ n x, nameAt n = some x → C8.Cal P w K mg base k x (spN N (T.call n)) []
  met : ∀ n c m, methAt n = some (c, m) → C8.Met P w K mg base k (He.ga K (N.cls c)) m (spN N (T.call n)) []
  mak : ∀ c, c < ncls → C8.Mak P w K mg base k (N.cls c) (He.ga K (N.cls c)) (spN N (T.call (T.init c))) []
  pure : ∀ n, PureOk T n (T.call n)
  meth : T.meth = methT
  ok : ∀ c, c < ncls → ClsOk N c
end Ev

set_option Elab.async false
set_option linter.all false
set_option maxRecDepth 100000
set_option maxHeartbeats 4000000
set_option autoImplicit false
namespace Ev
open PySem
mutual
/-- a thing as a list of numbers: none is the beginning of another's -/
def enc : AV → List Int
  | .non => [0]
  | .int i => [1, i]
  | .str x => 2 :: encS x.cps.toList
  | .tup xs => 3 :: encs xs
  | .bl _ => [4]
  | .ref _ => [4]
  | .scr _ => [4]
def encs : List AV → List Int
  | [] => [0]
  | x :: xs => 1 :: (enc x ++ encs xs)
def encS : List Nat → List Int
  | [] => [0]
  | c :: r => ((c : Int) + 1) :: encS r
end
/-- what may be sorted: no flags, no places -/
def ordD : AV → Bool
  | .int _ => true
  | .str _ => true
  | .non => true
  | .tup xs => ordDs xs
  | _ => false
where ordDs : List AV → Bool
  | [] => true
  | x :: xs => ordD x && ordDs xs
/-- l < m of two codes, with what follows them -/
theorem encS_lt : ∀ (a b : List Nat) (r s : List Int), (encS a ++ r < encS b ++ s) ↔ (a < b ∨ (a = b ∧ r < s))
  | [], [], r, s => by simp [encS]
  | [], b :: bs, r, s => by
    simp only [encS, List.cons_append, List.nil_append, List.cons_lt_cons_iff]
    constructor
    · intro _
      exact .inl (by simp)
    · intro _
      exact .inl (by omega)
  | a :: as, [], r, s => by
    simp only [encS, List.cons_append, List.nil_append, List.cons_lt_cons_iff]
    constructor
    · intro h
      rcases h with h | h
      · omega
      · omega
    · intro h
      rcases h with h | h
      · simp at h
      · simp at h
  | a :: as, b :: bs, r, s => by
    simp only [encS, List.cons_append, List.cons_lt_cons_iff]
    rw [encS_lt as bs r s]
    constructor
    · intro h
      rcases h with h | ⟨h, h2⟩
      · exact .inl (.inl (by omega))
      · have e : a = b := by omega
        rcases h2 with h2 | ⟨h2, h3⟩
        · exact .inl (.inr ⟨e, h2⟩)
        · exact .inr ⟨by rw [e, h2], h3⟩
    · intro h
      rcases h with (h | ⟨h, h2⟩) | ⟨h, h2⟩
      · exact .inl (by omega)
      · exact .inr ⟨by omega, .inl h2⟩
      · injection h with h3 h4
        exact .inr ⟨by omega, .inr ⟨h4, h2⟩⟩
/-- x comes before y, whatever follows -/
def Bef (a b : List Int) : Prop := ∀ r s : List Int, a ++ r < b ++ s
theorem Bef.cons {a b : List Int} {i : Int} (h : Bef a b) : Bef (i :: a) (i :: b) := fun r s => by
  rw [List.cons_append, List.cons_append, List.cons_lt_cons_iff]
  exact .inr ⟨rfl, h r s⟩
theorem Bef.head {a b : List Int} {i j : Int} (h : i < j) : Bef (i :: a) (j :: b) := fun r s => by
  rw [List.cons_append, List.cons_append, List.cons_lt_cons_iff]
  exact .inl h
theorem Bef.app {a b : List Int} (h : Bef a b) (c d : List Int) : Bef (a ++ c) (b ++ d) := fun r s => by
  rw [List.append_assoc, List.append_assoc]
  exact h _ _
theorem Bef.lt {a b : List Int} (h : Bef a b) : a < b := by
  have := h [] []
  rwa [List.append_nil, List.append_nil] at this
theorem Bef.pre {a b c : List Int} (h : Bef b c) : Bef (a ++ b) (a ++ c) := by
  induction a with
  | nil => exact h
  | cons i a ih => exact ih.cons
theorem encS_tri : ∀ a b : List Nat, (a = b ∨ Bef (encS a) (encS b) ∨ Bef (encS b) (encS a)) ∧ (natsLt a b = true → Bef (encS a) (encS b)) ∧ (natsLt a b = false → a = b ∨ Bef (encS b) (encS a))
  | [], [] => ⟨.inl rfl, fun h => (by cases h), fun _ => .inl rfl⟩
  | [], b :: bs => by
    have h : Bef (encS []) (encS (b :: bs)) := by
      simp only [encS]
      exact .head (by omega)
    exact ⟨.inr (.inl h), fun _ => h, fun e => (by cases e)⟩
  | a :: as, [] => by
    have h : Bef (encS []) (encS (a :: as)) := by
      simp only [encS]
      exact .head (by omega)
    exact ⟨.inr (.inr h), fun e => (by cases e), fun _ => .inr h⟩
  | a :: as, b :: bs => by
    obtain ⟨t, l1, l2⟩ := encS_tri as bs
    have st : natsLt (a :: as) (b :: bs) = if Nat.beq a b then natsLt as bs else Nat.blt a b := rfl
    simp only [encS]
    by_cases e : a = b
    · subst e
      rw [st, Nat.beq_refl, if_pos rfl]
      refine ⟨?_, fun h => (l1 h).cons, fun h => ?_⟩
      · rcases t with t | t | t
        · exact .inl (by rw [t])
        · exact .inr (.inl t.cons)
        · exact .inr (.inr t.cons)
      · rcases l2 h with t | t
        · exact .inl (by rw [t])
        · exact .inr t.cons
    · rw [st, if_neg (fun q => e (Nat.eq_of_beq_eq_true q))]
      by_cases l : a < b
      · have h : Bef (((a : Int) + 1) :: encS as) (((b : Int) + 1) :: encS bs) := .head (by omega)
        refine ⟨.inr (.inl h), fun _ => h, fun q => ?_⟩
        have : Nat.blt a b = true := Nat.ble_eq.mpr l
        rw [this] at q
        cases q
      · have h : Bef (((b : Int) + 1) :: encS bs) (((a : Int) + 1) :: encS as) := .head (by omega)
        refine ⟨.inr (.inr h), fun q => ?_, fun _ => .inr h⟩
        exact absurd (Nat.ble_eq.mp q) l
/-- what is told of two things -/
structure Tri (x y : AV) : Prop where
  tri : x = y ∨ Bef (enc x) (enc y) ∨ Bef (enc y) (enc x)
  eq : eqD x y = true ↔ x = y
  lt : ltD x y = some true → Bef (enc x) (enc y)
  ge : ltD x y = some false → x = y ∨ Bef (enc y) (enc x)
structure Tris (x y : List AV) : Prop where
  tri : x = y ∨ Bef (encs x) (encs y) ∨ Bef (encs y) (encs x)
  eq : eqDs x y = true ↔ x = y
  lt : ltDs x y = some true → Bef (encs x) (encs y)
  ge : ltDs x y = some false → x = y ∨ Bef (encs y) (encs x)
theorem natsEq_iff : ∀ a b : List Nat, natsEq a b = true ↔ a = b
  | [], [] => by simp [natsEq]
  | [], _ :: _ => by simp [natsEq]
  | _ :: _, [] => by simp [natsEq]
  | a :: as, b :: bs => by
    show (Nat.beq a b && natsEq as bs) = true ↔ _
    rw [Bool.and_eq_true, natsEq_iff as bs]
    constructor
    · rintro ⟨h, rfl⟩
      rw [Nat.eq_of_beq_eq_true h]
    · intro h
      injection h with h1 h2
      exact ⟨by rw [h1]; exact Nat.beq_refl b, h2⟩
theorem Str.ext_list {x y : Str} (h : x.cps.toList = y.cps.toList) : x = y := by
  cases x
  cases y
  simp only [PySem.Str.mk.injEq]
  exact Array.toList_inj.mp h
theorem intEq_iff : ∀ i j : Int, intEq i j = true ↔ i = j
  | .ofNat a, .ofNat b => ⟨fun h => (by rw [Nat.eq_of_beq_eq_true h]), fun h => (by cases h; exact Nat.beq_refl a)⟩
  | .negSucc a, .negSucc b => ⟨fun h => (by rw [Nat.eq_of_beq_eq_true h]), fun h => (by cases h; exact Nat.beq_refl a)⟩
  | .ofNat a, .negSucc b => ⟨fun h => (by cases h), fun h => (by cases h)⟩
  | .negSucc a, .ofNat b => ⟨fun h => (by cases h), fun h => (by cases h)⟩
theorem enc_head (x : AV) : ∃ i t, enc x = i :: t := by
  cases x <;> exact ⟨_, _, rfl⟩
mutual
theorem tri : ∀ x y : AV, ordD x = true → ordD y = true → Tri x y
  | .non, .non, _, _ => ⟨.inl rfl, ⟨fun _ => rfl, fun _ => rfl⟩, fun h => (by cases h), fun h => (by cases h)⟩
  | .int i, .int j, _, _ => by
    have st : ltD (.int i) (.int j) = some (decide (i < j)) := rfl
    have b1 : ∀ {i j : Int}, i < j → Bef (enc (.int i)) (enc (.int j)) := fun h => (Bef.head h).cons
    refine ⟨?_, ?_, fun h => ?_, fun h => ?_⟩
    · rcases Int.lt_trichotomy i j with h | h | h
      · exact .inr (.inl (b1 h))
      · exact .inl (by rw [h])
      · exact .inr (.inr (b1 h))
    · show intEq i j = true ↔ _
      rw [intEq_iff]
      exact ⟨fun h => by rw [h], fun h => by injection h⟩
    · rw [st] at h
      exact b1 (of_decide_eq_true (Option.some.inj h))
    · rw [st] at h
      have h := of_decide_eq_false (Option.some.inj h)
      rcases Int.lt_trichotomy i j with h2 | h2 | h2
      · exact absurd h2 h
      · exact .inl (by rw [h2])
      · exact .inr (b1 h2)
  | .str a, .str b, _, _ => by
    obtain ⟨t, l1, l2⟩ := encS_tri a.cps.toList b.cps.toList
    have st : ltD (.str a) (.str b) = some (natsLt a.cps.toList b.cps.toList) := rfl
    refine ⟨?_, ?_, fun h => ?_, fun h => ?_⟩
    · rcases t with t | t | t
      · exact .inl (by rw [Str.ext_list t])
      · exact .inr (.inl t.cons)
      · exact .inr (.inr t.cons)
    · show natsEq a.cps.toList b.cps.toList = true ↔ _
      rw [natsEq_iff]
      exact ⟨fun h => by rw [Str.ext_list h], fun h => by injection h with h; rw [h]⟩
    · rw [st] at h
      exact (l1 (Option.some.inj h)).cons
    · rw [st] at h
      rcases l2 (Option.some.inj h) with t | t
      · exact .inl (by rw [Str.ext_list t])
      · exact .inr t.cons
  | .tup xs, .tup ys, e, f => by
    have T := tris xs ys e f
    refine ⟨?_, ?_, fun h => (T.lt h).cons, fun h => ?_⟩
    · rcases T.tri with t | t | t
      · exact .inl (by rw [t])
      · exact .inr (.inl t.cons)
      · exact .inr (.inr t.cons)
    · exact ⟨fun h => by rw [T.eq.mp h], fun h => T.eq.mpr (by injection h)⟩
    · rcases T.ge h with t | t
      · exact .inl (by rw [t])
      · exact .inr t.cons
  | .non, .int _, _, _ => ⟨.inr (.inl (.head (by omega))), ⟨fun h => (by cases h), fun h => (by cases h)⟩, fun h => (by cases h), fun h => (by cases h)⟩
  | .non, .str _, _, _ => ⟨.inr (.inl (.head (by omega))), ⟨fun h => (by cases h), fun h => (by cases h)⟩, fun h => (by cases h), fun h => (by cases h)⟩
  | .non, .tup _, _, _ => ⟨.inr (.inl (.head (by omega))), ⟨fun h => (by cases h), fun h => (by cases h)⟩, fun h => (by cases h), fun h => (by cases h)⟩
  | .int _, .non, _, _ => ⟨.inr (.inr (.head (by omega))), ⟨fun h => (by cases h), fun h => (by cases h)⟩, fun h => (by cases h), fun h => (by cases h)⟩
  | .int _, .str _, _, _ => ⟨.inr (.inl (.head (by omega))), ⟨fun h => (by cases h), fun h => (by cases h)⟩, fun h => (by cases h), fun h => (by cases h)⟩
  | .int _, .tup _, _, _ => ⟨.inr (.inl (.head (by omega))), ⟨fun h => (by cases h), fun h => (by cases h)⟩, fun h => (by cases h), fun h => (by cases h)⟩
  | .str _, .non, _, _ => ⟨.inr (.inr (.head (by omega))), ⟨fun h => (by cases h), fun h => (by cases h)⟩, fun h => (by cases h), fun h => (by cases h)⟩
  | .str _, .int _, _, _ => ⟨.inr (.inr (.head (by omega))), ⟨fun h => (by cases h), fun h => (by cases h)⟩, fun h => (by cases h), fun h => (by cases h)⟩
  | .str _, .tup _, _, _ => ⟨.inr (.inl (.head (by omega))), ⟨fun h => (by cases h), fun h => (by cases h)⟩, fun h => (by cases h), fun h => (by cases h)⟩
  | .tup _, .non, _, _ => ⟨.inr (.inr (.head (by omega))), ⟨fun h => (by cases h), fun h => (by cases h)⟩, fun h => (by cases h), fun h => (by cases h)⟩
  | .tup _, .int _, _, _ => ⟨.inr (.inr (.head (by omega))), ⟨fun h => (by cases h), fun h => (by cases h)⟩, fun h => (by cases h), fun h => (by cases h)⟩
  | .tup _, .str _, _, _ => ⟨.inr (.inr (.head (by omega))), ⟨fun h => (by cases h), fun h => (by cases h)⟩, fun h => (by cases h), fun h => (by cases h)⟩
  | .bl _, _, e, _ => by cases e
  | .ref _, _, e, _ => by cases e
  | .scr _, _, e, _ => by cases e
  | .non, .bl _, _, f => by cases f
  | .non, .ref _, _, f => by cases f
  | .non, .scr _, _, f => by cases f
  | .int _, .bl _, _, f => by cases f
  | .int _, .ref _, _, f => by cases f
  | .int _, .scr _, _, f => by cases f
  | .str _, .bl _, _, f => by cases f
  | .str _, .ref _, _, f => by cases f
  | .str _, .scr _, _, f => by cases f
  | .tup _, .bl _, _, f => by cases f
  | .tup _, .ref _, _, f => by cases f
  | .tup _, .scr _, _, f => by cases f
theorem tris : ∀ xs ys : List AV, ordD.ordDs xs = true → ordD.ordDs ys = true → Tris xs ys
  | [], [], _, _ => ⟨.inl rfl, ⟨fun _ => rfl, fun _ => rfl⟩, fun h => (by cases h), fun _ => .inl rfl⟩
  | [], y :: ys, _, _ => by
    have h : Bef (encs []) (encs (y :: ys)) := by
      simp only [encs]
      exact .head (by omega)
    exact ⟨.inr (.inl h), ⟨fun h => (by cases h), fun h => (by cases h)⟩, fun _ => h, fun e => (by cases e)⟩
  | x :: xs, [], _, _ => by
    have h : Bef (encs []) (encs (x :: xs)) := by
      simp only [encs]
      exact .head (by omega)
    exact ⟨.inr (.inr h), ⟨fun h => (by cases h), fun h => (by cases h)⟩, fun e => (by cases e), fun _ => .inr h⟩
  | x :: xs, y :: ys, e, f => by
    obtain ⟨e1, e2⟩ := Bool.and_eq_true_iff.mp (show (ordD x && ordD.ordDs xs) = true from e)
    obtain ⟨f1, f2⟩ := Bool.and_eq_true_iff.mp (show (ordD y && ordD.ordDs ys) = true from f)
    have T := tri x y e1 f1
    have U := tris xs ys e2 f2
    have st : ltDs (x :: xs) (y :: ys) = (match ltDs xs ys with
      | none => none
      | some r => if eqD x y then some r else ltD x y) := rfl
    have se : eqDs (x :: xs) (y :: ys) = (eqD x y && eqDs xs ys) := rfl
    refine ⟨?_, ?_, fun h => ?_, fun h => ?_⟩
    · simp only [encs]
      rcases T.tri with t | t | t
      · subst t
        rcases U.tri with u | u | u
        · exact .inl (by rw [u])
        · exact .inr (.inl (Bef.pre u).cons)
        · exact .inr (.inr (Bef.pre u).cons)
      · exact .inr (.inl (t.app _ _).cons)
      · exact .inr (.inr (t.app _ _).cons)
    · rw [se, Bool.and_eq_true, T.eq, U.eq]
      exact ⟨fun ⟨a, b⟩ => by rw [a, b], fun h => by injection h with a b; exact ⟨a, b⟩⟩
    · simp only [encs]
      rw [st] at h
      cases c : ltDs xs ys with
      | none =>
        rw [c] at h
        cases h
      | some r =>
        rw [c] at h
        simp only at h
        by_cases z : eqD x y = true
        · rw [if_pos z] at h
          have zz := T.eq.mp z
          subst zz
          cases h
          exact (Bef.pre (U.lt c)).cons
        · rw [if_neg z] at h
          exact ((T.lt h).app _ _).cons
    · simp only [encs]
      rw [st] at h
      cases c : ltDs xs ys with
      | none =>
        rw [c] at h
        cases h
      | some r =>
        rw [c] at h
        simp only at h
        by_cases z : eqD x y = true
        · rw [if_pos z] at h
          have zz := T.eq.mp z
          subst zz
          cases h
          rcases U.ge c with u | u
          · exact .inl (by rw [u])
          · exact .inr (Bef.pre u).cons
        · rw [if_neg z] at h
          rcases T.ge h with t | t
          · exact absurd (T.eq.mpr t) z
          · exact .inr (t.app _ _).cons
end
end Ev

set_option Elab.async false
set_option linter.all false
set_option maxRecDepth 100000
set_option maxHeartbeats 0
set_option autoImplicit false
noncomputable section
namespace G
open PySem PySem.Spec PyProof.Rows L2 Ev
def top (i : Nat) : Stmt := PySem.Challenge.pw_chainclaims_k81_alike_deeds_known_by_han.main.body.getD i (.Pass ⟨0, 0, 0, 0⟩)
def mth (i j : Nat) : Stmt := match top i with
  | .ClassDef _ _ _ b _ _ _ _ _ _ _ => b.getD j (.Pass ⟨0, 0, 0, 0⟩)
  | s => s
abbrev st0 : Stmt := top 11
def d0 : He.DefD := ⟨("is_name", none), "is_name", "is_name", defArgs st0, defBody st0, defScope st0, [], []⟩
abbrev st1 : Stmt := top 12
def d1 : He.DefD := ⟨("is_term", none), "is_term", "is_term", defArgs st1, defBody st1, defScope st1, [], []⟩
abbrev st2 : Stmt := top 13
def d2 : He.DefD := ⟨("is_sized", none), "is_sized", "is_sized", defArgs st2, defBody st2, defScope st2, [], []⟩
abbrev st3 : Stmt := top 14
def d3 : He.DefD := ⟨("are_rising", none), "are_rising", "are_rising", defArgs st3, defBody st3, defScope st3, [], []⟩
abbrev st4 : Stmt := top 15
def d4 : He.DefD := ⟨("is_pair_of_terms", none), "is_pair_of_terms", "is_pair_of_terms", defArgs st4, defBody st4, defScope st4, [], []⟩
abbrev st5 : Stmt := top 16
def d5 : He.DefD := ⟨("are_names", none), "are_names", "are_names", defArgs st5, defBody st5, defScope st5, [], []⟩
abbrev st6 : Stmt := top 17
def d6 : He.DefD := ⟨("without_doubles", none), "without_doubles", "without_doubles", defArgs st6, defBody st6, defScope st6, [], []⟩
abbrev st7 : Stmt := top 26
def d7 : He.DefD := ⟨("is_atom", none), "is_atom", "is_atom", defArgs st7, defBody st7, defScope st7, [], []⟩
abbrev st8 : Stmt := top 27
def d8 : He.DefD := ⟨("are_facts", none), "are_facts", "are_facts", defArgs st8, defBody st8, defScope st8, [], []⟩
abbrev st9 : Stmt := top 28
def d9 : He.DefD := ⟨("are_atoms", none), "are_atoms", "are_atoms", defArgs st9, defBody st9, defScope st9, [], []⟩
abbrev st10 : Stmt := top 29
def d10 : He.DefD := ⟨("terms_told", none), "terms_told", "terms_told", defArgs st10, defBody st10, defScope st10, [], []⟩
abbrev st11 : Stmt := top 30
def d11 : He.DefD := ⟨("raw_names", none), "raw_names", "raw_names", defArgs st11, defBody st11, defScope st11, [], []⟩
abbrev st12 : Stmt := top 31
def d12 : He.DefD := ⟨("is_claim", none), "is_claim", "is_claim", defArgs st12, defBody st12, defScope st12, [], []⟩
abbrev st13 : Stmt := top 32
def d13 : He.DefD := ⟨("check_claim", none), "check_claim", "check_claim", defArgs st13, defBody st13, defScope st13, [], []⟩
abbrev st14 : Stmt := top 36
def d14 : He.DefD := ⟨("check_names", none), "check_names", "check_names", defArgs st14, defBody st14, defScope st14, [], []⟩
abbrev st15 : Stmt := top 37
def d15 : He.DefD := ⟨("raw_partings", none), "raw_partings", "raw_partings", defArgs st15, defBody st15, defScope st15, [], []⟩
abbrev st16 : Stmt := top 38
def d16 : He.DefD := ⟨("raw_classes_many", none), "raw_classes_many", "raw_classes_many", defArgs st16, defBody st16, defScope st16, [], []⟩
abbrev st17 : Stmt := top 39
def d17 : He.DefD := ⟨("class_table", none), "class_table", "class_table", defArgs st17, defBody st17, defScope st17, [], []⟩
abbrev st18 : Stmt := top 40
def d18 : He.DefD := ⟨("keeps_by", none), "keeps_by", "keeps_by", defArgs st18, defBody st18, defScope st18, [], []⟩
abbrev st19 : Stmt := top 41
def d19 : He.DefD := ⟨("live_by", none), "live_by", "live_by", defArgs st19, defBody st19, defScope st19, [], []⟩
abbrev st20 : Stmt := top 42
def d20 : He.DefD := ⟨("dead_by", none), "dead_by", "dead_by", defArgs st20, defBody st20, defScope st20, [], []⟩
abbrev st21 : Stmt := top 46
def d21 : He.DefD := ⟨("heap_by", none), "heap_by", "heap_by", defArgs st21, defBody st21, defScope st21, [], []⟩
abbrev st22 : Stmt := top 47
def d22 : He.DefD := ⟨("edges_by", none), "edges_by", "edges_by", defArgs st22, defBody st22, defScope st22, [], []⟩
abbrev st23 : Stmt := top 49
def d23 : He.DefD := ⟨("live_partings", none), "live_partings", "live_partings", defArgs st23, defBody st23, defScope st23, [], []⟩
abbrev st24 : Stmt := top 64
def d24 : He.DefD := ⟨("is_test", none), "is_test", "is_test", defArgs st24, defBody st24, defScope st24, [], []⟩
abbrev st25 : Stmt := top 65
def d25 : He.DefD := ⟨("is_plain_deed", none), "is_plain_deed", "is_plain_deed", defArgs st25, defBody st25, defScope st25, [], []⟩
abbrev st26 : Stmt := top 66
def d26 : He.DefD := ⟨("has_deed_form", none), "has_deed_form", "has_deed_form", defArgs st26, defBody st26, defScope st26, [], []⟩
abbrev st27 : Stmt := top 67
def d27 : He.DefD := ⟨("lists_within", none), "lists_within", "lists_within", defArgs st27, defBody st27, defScope st27, [], []⟩
abbrev st28 : Stmt := top 68
def d28 : He.DefD := ⟨("has_shape", none), "has_shape", "has_shape", defArgs st28, defBody st28, defScope st28, [], []⟩
abbrev st29 : Stmt := top 69
def d29 : He.DefD := ⟨("all_deeds", none), "all_deeds", "all_deeds", defArgs st29, defBody st29, defScope st29, [], []⟩
abbrev st30 : Stmt := top 70
def d30 : He.DefD := ⟨("terms_of", none), "terms_of", "terms_of", defArgs st30, defBody st30, defScope st30, [], []⟩
abbrev st31 : Stmt := top 71
def d31 : He.DefD := ⟨("raw_used", none), "raw_used", "raw_used", defArgs st31, defBody st31, defScope st31, [], []⟩
abbrev st32 : Stmt := top 72
def d32 : He.DefD := ⟨("is_program", none), "is_program", "is_program", defArgs st32, defBody st32, defScope st32, [], []⟩
abbrev st33 : Stmt := top 73
def d33 : He.DefD := ⟨("are_straight", none), "are_straight", "are_straight", defArgs st33, defBody st33, defScope st33, [], []⟩
abbrev st34 : Stmt := top 76
def d34 : He.DefD := ⟨("raw_pictures", none), "raw_pictures", "raw_pictures", defArgs st34, defBody st34, defScope st34, [], []⟩
abbrev st35 : Stmt := mth 78 0
def d35 : He.DefD := ⟨("Track", some "__init__"), "__init__", "Track.__init__", defArgs st35, defBody st35, defScope st35, [], []⟩
abbrev st36 : Stmt := mth 78 1
def d36 : He.DefD := ⟨("Track", some "twin"), "twin", "Track.twin", defArgs st36, defBody st36, defScope st36, [], []⟩
abbrev st37 : Stmt := mth 78 2
def d37 : He.DefD := ⟨("Track", some "node_of"), "node_of", "Track.node_of", defArgs st37, defBody st37, defScope st37, [], []⟩
abbrev st38 : Stmt := mth 78 3
def d38 : He.DefD := ⟨("Track", some "fresh_node"), "fresh_node", "Track.fresh_node", defArgs st38, defBody st38, defScope st38, [], []⟩
abbrev st39 : Stmt := mth 78 4
def d39 : He.DefD := ⟨("Track", some "set_both"), "set_both", "Track.set_both", defArgs st39, defBody st39, defScope st39, [], []⟩
abbrev st40 : Stmt := mth 78 5
def d40 : He.DefD := ⟨("Track", some "picture"), "picture", "Track.picture", defArgs st40, defBody st40, defScope st40, [], []⟩
abbrev st41 : Stmt := top 79
def d41 : He.DefD := ⟨("opened_tracks", none), "opened_tracks", "opened_tracks", defArgs st41, defBody st41, defScope st41, [], []⟩
abbrev st42 : Stmt := top 80
def d42 : He.DefD := ⟨("new_tracks", none), "new_tracks", "new_tracks", defArgs st42, defBody st42, defScope st42, [], []⟩
abbrev st43 : Stmt := top 81
def d43 : He.DefD := ⟨("done_tracks", none), "done_tracks", "done_tracks", defArgs st43, defBody st43, defScope st43, [], []⟩
abbrev st44 : Stmt := top 83
def d44 : He.DefD := ⟨("edges_of", none), "edges_of", "edges_of", defArgs st44, defBody st44, defScope st44, [], []⟩
abbrev st45 : Stmt := top 84
def d45 : He.DefD := ⟨("first_state", none), "first_state", "first_state", defArgs st45, defBody st45, defScope st45, [], []⟩
abbrev st46 : Stmt := top 86
def d46 : He.DefD := ⟨("past_ifs", none), "past_ifs", "past_ifs", defArgs st46, defBody st46, defScope st46, [], []⟩
abbrev st47 : Stmt := top 91
def d47 : He.DefD := ⟨("split_tracks", none), "split_tracks", "split_tracks", defArgs st47, defBody st47, defScope st47, [], []⟩
abbrev st48 : Stmt := top 92
def d48 : He.DefD := ⟨("needed_node", none), "needed_node", "needed_node", defArgs st48, defBody st48, defScope st48, [], []⟩
abbrev st49 : Stmt := top 93
def d49 : He.DefD := ⟨("all_ways", none), "all_ways", "all_ways", defArgs st49, defBody st49, defScope st49, [], []⟩
abbrev st50 : Stmt := top 94
def d50 : He.DefD := ⟨("begun_again", none), "begun_again", "begun_again", defArgs st50, defBody st50, defScope st50, [], []⟩
abbrev st51 : Stmt := top 95
def d51 : He.DefD := ⟨("refined_edges", none), "refined_edges", "refined_edges", defArgs st51, defBody st51, defScope st51, [], []⟩
abbrev st52 : Stmt := top 96
def d52 : He.DefD := ⟨("are_ends_alike", none), "are_ends_alike", "are_ends_alike", defArgs st52, defBody st52, defScope st52, [], []⟩
abbrev st53 : Stmt := top 97
def d53 : He.DefD := ⟨("raw_alike_deeds", none), "raw_alike_deeds", "raw_alike_deeds", defArgs st53, defBody st53, defScope st53, [], []⟩
abbrev st54 : Stmt := top 98
def d54 : He.DefD := ⟨("check_both", none), "check_both", "check_both", defArgs st54, defBody st54, defScope st54, [], []⟩
abbrev st55 : Stmt := top 99
def d55 : He.DefD := ⟨("alike_deeds", none), "alike_deeds", "alike_deeds", defArgs st55, defBody st55, defScope st55, [], []⟩
abbrev st56 : Stmt := top 100
def d56 : He.DefD := ⟨("needless_deeds", none), "needless_deeds", "needless_deeds", defArgs st56, defBody st56, defScope st56, [], []⟩
abbrev st57 : Stmt := top 102
def d57 : He.DefD := ⟨("_law_hand", none), "_law_hand", "_law_hand", defArgs st57, defBody st57, defScope st57, [], []⟩
abbrev st58 : Stmt := top 103
def d58 : He.DefD := ⟨("_law_draw", none), "_law_draw", "_law_draw", defArgs st58, defBody st58, defScope st58, [], []⟩
abbrev st59 : Stmt := top 104
def d59 : He.DefD := ⟨("_law_any", none), "_law_any", "_law_any", defArgs st59, defBody st59, defScope st59, [], []⟩
abbrev st60 : Stmt := top 105
def d60 : He.DefD := ⟨("_law_pair", none), "_law_pair", "_law_pair", defArgs st60, defBody st60, defScope st60, [], []⟩
abbrev st61 : Stmt := top 106
def d61 : He.DefD := ⟨("_law_cases", none), "_law_cases", "_law_cases", defArgs st61, defBody st61, defScope st61, [], []⟩
abbrev st62 : Stmt := top 107
def d62 : He.DefD := ⟨("law", none), "law", "law", defArgs st62, defBody st62, defScope st62, [], []⟩
def fn0 : List He.DefD := [d0, d1, d2, d3, d4, d5, d6, d7, d8, d9, d10, d11, d12, d13, d14, d15, d16, d17, d18, d19, d20, d21, d22, d23, d24, d25, d26, d27, d28, d29]
def fn1 : List He.DefD := [d30, d31, d32, d33, d34, d35, d36, d37, d38, d39, d40, d41, d42, d43, d44, d45, d46, d47, d48, d49, d50, d51, d52, d53, d54, d55, d56, d57, d58, d59]
def fn2 : List He.DefD := [d60, d61, d62]
def fn : List He.DefD := fn0 ++ fn1 ++ fn2
def s_w0 : Str := ⟨#[97, 98, 99, 100, 101, 102, 103, 104, 105, 106, 107, 108, 109, 110, 111, 112, 113, 114, 115, 116, 117, 118, 119, 120, 121, 122]⟩
theorem e_w0 : ("abcdefghijklmnopqrstuvwxyz" : Str) = s_w0 := by decide +kernel
def s_w1 : Str := ⟨#[110, 105, 108]⟩
theorem e_w1 : ("nil" : Str) = s_w1 := by decide +kernel
def s_w2 : Str := ⟨#[99, 104, 97, 105, 110]⟩
theorem e_w2 : ("chain" : Str) = s_w2 := by decide +kernel
def s_w3 : Str := ⟨#[116, 119, 105, 99, 101]⟩
theorem e_w3 : ("twice" : Str) = s_w3 := by decide +kernel
def s_w4 : Str := ⟨#[111, 110, 101]⟩
theorem e_w4 : ("one" : Str) = s_w4 := by decide +kernel
def s_w5 : Str := ⟨#[110, 101, 119]⟩
theorem e_w5 : ("new" : Str) = s_w5 := by decide +kernel
def s_w6 : Str := ⟨#[111, 116, 104, 101, 114]⟩
theorem e_w6 : ("other" : Str) = s_w6 := by decide +kernel
def s_w7 : Str := ⟨#[115, 97, 109, 101]⟩
theorem e_w7 : ("same" : Str) = s_w7 := by decide +kernel
def s_w8 : Str := ⟨#[114, 101, 97, 100]⟩
theorem e_w8 : ("read" : Str) = s_w8 := by decide +kernel
def s_w9 : Str := ⟨#[102, 114, 101, 101]⟩
theorem e_w9 : ("free" : Str) = s_w9 := by decide +kernel
def s_w10 : Str := ⟨#[119, 104, 105, 108, 101]⟩
theorem e_w10 : ("while" : Str) = s_w10 := by decide +kernel
def s_w11 : Str := ⟨#[105, 102]⟩
theorem e_w11 : ("if" : Str) = s_w11 := by decide +kernel
def s_w12 : Str := ⟨#[99, 101, 108, 108]⟩
theorem e_w12 : ("cell" : Str) = s_w12 := by decide +kernel
def s_w13 : Str := ⟨#[119, 114, 105, 116, 101]⟩
theorem e_w13 : ("write" : Str) = s_w13 := by decide +kernel
def s_w14 : Str := ⟨#[108, 101, 116]⟩
theorem e_w14 : ("let" : Str) = s_w14 := by decide +kernel
def s_w15 : Str := ⟨#[97, 108, 105, 107, 101]⟩
theorem e_w15 : ("alike" : Str) = s_w15 := by decide +kernel
def s_w16 : Str := ⟨#[97, 112, 97, 114, 116]⟩
theorem e_w16 : ("apart" : Str) = s_w16 := by decide +kernel
def s_w17 : Str := ⟨#[112]⟩
theorem e_w17 : ("p" : Str) = s_w17 := by decide +kernel
def s_w18 : Str := ⟨#[114]⟩
theorem e_w18 : ("r" : Str) = s_w18 := by decide +kernel
def s_w19 : Str := ⟨#[113]⟩
theorem e_w19 : ("q" : Str) = s_w19 := by decide +kernel
def s_w20 : Str := ⟨#[99]⟩
theorem e_w20 : ("c" : Str) = s_w20 := by decide +kernel
def s_w21 : Str := ⟨#[97]⟩
theorem e_w21 : ("a" : Str) = s_w21 := by decide +kernel
def s_w22 : Str := ⟨#[98]⟩
theorem e_w22 : ("b" : Str) = s_w22 := by decide +kernel
def s_w23 : Str := ⟨#[121]⟩
theorem e_w23 : ("y" : Str) = s_w23 := by decide +kernel
def s_w24 : Str := ⟨#[120]⟩
theorem e_w24 : ("x" : Str) = s_w24 := by decide +kernel
def s_w25 : Str := ⟨#[122]⟩
theorem e_w25 : ("z" : Str) = s_w25 := by decide +kernel
def fa0 : List He.Fa := [.str "NIL" "nil", .glo "BOUND_WORDS", .str "LETTERS" "abcdefghijklmnopqrstuvwxyz", .int "MOST_LETTERS" 8, .str "CELL" "cell", .str "CHAIN" "chain", .glo "ATOM_WORDS", .int "MOST_PAIRS" 15, .int "MOST_ATOMS" 6, .int "MOST_CHAINS" 4, .int "MOST_CLAIM_NAMES" 5, .str "NIL_WORD" "nil", .str "TWICE" "twice", .str "ONE_CELL" "one", .str "NEW_PLACE" "new", .str "LET" "let", .str "READ" "read", .str "WRITE" "write", .str "NEW" "new", .str "FREE" "free", .str "IF" "if", .str "WHILE" "while", .str "SAME" "same", .str "OTHER" "other", .glo "PLAIN_DEEDS", .int "MOST_DEEDS" 40, .int "MOST_DEEP" 5, .int "MOST_PROGRAM_NAMES" 5, .int "MOST_NODES" 50, .str "ALIKE_WORD" "alike"]
def fa1 : List He.Fa := [.str "APART_WORD" "apart", .int "MOST_BOTH" 1000, .glo "is_name", .glo "is_term", .glo "is_sized", .glo "are_rising", .glo "is_pair_of_terms", .glo "are_names", .glo "without_doubles", .glo "is_atom", .glo "are_facts", .glo "are_atoms", .glo "terms_told", .glo "raw_names", .glo "is_claim", .glo "check_claim", .glo "check_names", .glo "raw_partings", .glo "raw_classes_many", .glo "class_table", .glo "keeps_by", .glo "live_by", .glo "dead_by", .glo "heap_by", .glo "edges_by", .glo "live_partings", .glo "is_test", .glo "is_plain_deed", .glo "has_deed_form", .glo "lists_within"]
def fa2 : List He.Fa := [.glo "has_shape", .glo "all_deeds", .glo "terms_of", .glo "raw_used", .glo "is_program", .glo "are_straight", .glo "raw_pictures", .glo "opened_tracks", .glo "new_tracks", .glo "done_tracks", .glo "edges_of", .glo "first_state", .glo "past_ifs", .glo "split_tracks", .glo "needed_node", .glo "all_ways", .glo "begun_again", .glo "refined_edges", .glo "are_ends_alike", .glo "raw_alike_deeds", .glo "check_both", .glo "alike_deeds", .glo "needless_deeds", .glo "_law_hand", .glo "_law_draw", .glo "_law_any", .glo "_law_pair", .glo "_law_cases", .glo "law", .free "ValueError"]
def fa3 : List He.Fa := [.free "abs", .free "all", .free "any", .free "dict", .free "enumerate", .free "int", .free "isinstance", .free "len", .free "list", .free "max", .free "range", .free "sorted", .free "str", .free "tuple", .free "zip", .glo "Track", .cls "Track", .noat "Track" "most", .noat "Track" "many", .noat "Track" "first_names", .noat "Track" "first_edges", .noat "Track" "now_names", .noat "Track" "now_edges", .noat "Track" "now_bare", .noat "Track" "news_met", .mkr "Track", .meth "Track" "twin", .meth "Track" "node_of", .meth "Track" "fresh_node", .meth "Track" "set_both"]
def fa4 : List He.Fa := [.meth "Track" "picture"]
def fa : List He.Fa := fa0 ++ fa1 ++ fa2 ++ fa3 ++ fa4
def t_BOUND_WORDS : List Str := ["nil", "new", "free", "if", "else", "while", "keep", "emp"]
def u_BOUND_WORDS : List Str := [⟨#[110, 105, 108]⟩, ⟨#[110, 101, 119]⟩, ⟨#[102, 114, 101, 101]⟩, ⟨#[105, 102]⟩, ⟨#[101, 108, 115, 101]⟩, ⟨#[119, 104, 105, 108, 101]⟩, ⟨#[107, 101, 101, 112]⟩, ⟨#[101, 109, 112]⟩]
theorem tu_BOUND_WORDS : t_BOUND_WORDS = u_BOUND_WORDS := by decide +kernel
def t_ATOM_WORDS : List Str := ["cell", "chain"]
def u_ATOM_WORDS : List Str := [⟨#[99, 101, 108, 108]⟩, ⟨#[99, 104, 97, 105, 110]⟩]
theorem tu_ATOM_WORDS : t_ATOM_WORDS = u_ATOM_WORDS := by decide +kernel
def t_PLAIN_DEEDS : List Str := ["let", "read", "write", "new", "free"]
def u_PLAIN_DEEDS : List Str := [⟨#[108, 101, 116]⟩, ⟨#[114, 101, 97, 100]⟩, ⟨#[119, 114, 105, 116, 101]⟩, ⟨#[110, 101, 119]⟩, ⟨#[102, 114, 101, 101]⟩]
theorem tu_PLAIN_DEEDS : t_PLAIN_DEEDS = u_PLAIN_DEEDS := by decide +kernel
def exB (K : PySem.W.Frag) : Bool := tupP K "BOUND_WORDS" t_BOUND_WORDS && tupP K "ATOM_WORDS" t_ATOM_WORDS && tupP K "PLAIN_DEEDS" t_PLAIN_DEEDS
structure Hd (K : PySem.W.Frag) (mg : Str → Option Value) : Prop where
  ex : ∃ h : Heap, K.In h ∧ h.Ns mainGlobals mg
  c : He.SaysD fa fn K
  t : exB K = true
section
variable {P : Program} {w : World} {K : PySem.W.Frag} {mg : Str → Option Value} {base : Heap}
theorem q_NIL (Z : Hd K mg) : ∃ t, mg "NIL" = some (.str "nil" t) := by
  obtain ⟨h, KX, G⟩ := Z.ex
  exact He.str_ok KX G (Z.c.fact 0 (f := .str "NIL" "nil") rfl)
theorem q_BOUND_WORDS (Z : Hd K mg) : mg "BOUND_WORDS" = some (.ref (He.ga K "BOUND_WORDS")) := by
  obtain ⟨h, KX, G⟩ := Z.ex
  exact He.glo_ok KX G (Z.c.fact 1 (f := .glo "BOUND_WORDS") rfl)
theorem q_LETTERS (Z : Hd K mg) : ∃ t, mg "LETTERS" = some (.str "abcdefghijklmnopqrstuvwxyz" t) := by
  obtain ⟨h, KX, G⟩ := Z.ex
  exact He.str_ok KX G (Z.c.fact 2 (f := .str "LETTERS" "abcdefghijklmnopqrstuvwxyz") rfl)
theorem q_MOST_LETTERS (Z : Hd K mg) : ∃ t, mg "MOST_LETTERS" = some (.int 8 t) := by
  obtain ⟨h, KX, G⟩ := Z.ex
  exact He.int_ok KX G (Z.c.fact 3 (f := .int "MOST_LETTERS" 8) rfl)
theorem q_CELL (Z : Hd K mg) : ∃ t, mg "CELL" = some (.str "cell" t) := by
  obtain ⟨h, KX, G⟩ := Z.ex
  exact He.str_ok KX G (Z.c.fact 4 (f := .str "CELL" "cell") rfl)
theorem q_CHAIN (Z : Hd K mg) : ∃ t, mg "CHAIN" = some (.str "chain" t) := by
  obtain ⟨h, KX, G⟩ := Z.ex
  exact He.str_ok KX G (Z.c.fact 5 (f := .str "CHAIN" "chain") rfl)
theorem q_ATOM_WORDS (Z : Hd K mg) : mg "ATOM_WORDS" = some (.ref (He.ga K "ATOM_WORDS")) := by
  obtain ⟨h, KX, G⟩ := Z.ex
  exact He.glo_ok KX G (Z.c.fact 6 (f := .glo "ATOM_WORDS") rfl)
theorem q_MOST_PAIRS (Z : Hd K mg) : ∃ t, mg "MOST_PAIRS" = some (.int 15 t) := by
  obtain ⟨h, KX, G⟩ := Z.ex
  exact He.int_ok KX G (Z.c.fact 7 (f := .int "MOST_PAIRS" 15) rfl)
theorem q_MOST_ATOMS (Z : Hd K mg) : ∃ t, mg "MOST_ATOMS" = some (.int 6 t) := by
  obtain ⟨h, KX, G⟩ := Z.ex
  exact He.int_ok KX G (Z.c.fact 8 (f := .int "MOST_ATOMS" 6) rfl)
theorem q_MOST_CHAINS (Z : Hd K mg) : ∃ t, mg "MOST_CHAINS" = some (.int 4 t) := by
  obtain ⟨h, KX, G⟩ := Z.ex
  exact He.int_ok KX G (Z.c.fact 9 (f := .int "MOST_CHAINS" 4) rfl)
theorem q_MOST_CLAIM_NAMES (Z : Hd K mg) : ∃ t, mg "MOST_CLAIM_NAMES" = some (.int 5 t) := by
  obtain ⟨h, KX, G⟩ := Z.ex
  exact He.int_ok KX G (Z.c.fact 10 (f := .int "MOST_CLAIM_NAMES" 5) rfl)
theorem q_NIL_WORD (Z : Hd K mg) : ∃ t, mg "NIL_WORD" = some (.str "nil" t) := by
  obtain ⟨h, KX, G⟩ := Z.ex
  exact He.str_ok KX G (Z.c.fact 11 (f := .str "NIL_WORD" "nil") rfl)
theorem q_TWICE (Z : Hd K mg) : ∃ t, mg "TWICE" = some (.str "twice" t) := by
  obtain ⟨h, KX, G⟩ := Z.ex
  exact He.str_ok KX G (Z.c.fact 12 (f := .str "TWICE" "twice") rfl)
theorem q_ONE_CELL (Z : Hd K mg) : ∃ t, mg "ONE_CELL" = some (.str "one" t) := by
  obtain ⟨h, KX, G⟩ := Z.ex
  exact He.str_ok KX G (Z.c.fact 13 (f := .str "ONE_CELL" "one") rfl)
theorem q_NEW_PLACE (Z : Hd K mg) : ∃ t, mg "NEW_PLACE" = some (.str "new" t) := by
  obtain ⟨h, KX, G⟩ := Z.ex
  exact He.str_ok KX G (Z.c.fact 14 (f := .str "NEW_PLACE" "new") rfl)
theorem q_LET (Z : Hd K mg) : ∃ t, mg "LET" = some (.str "let" t) := by
  obtain ⟨h, KX, G⟩ := Z.ex
  exact He.str_ok KX G (Z.c.fact 15 (f := .str "LET" "let") rfl)
theorem q_READ (Z : Hd K mg) : ∃ t, mg "READ" = some (.str "read" t) := by
  obtain ⟨h, KX, G⟩ := Z.ex
  exact He.str_ok KX G (Z.c.fact 16 (f := .str "READ" "read") rfl)
theorem q_WRITE (Z : Hd K mg) : ∃ t, mg "WRITE" = some (.str "write" t) := by
  obtain ⟨h, KX, G⟩ := Z.ex
  exact He.str_ok KX G (Z.c.fact 17 (f := .str "WRITE" "write") rfl)
theorem q_NEW (Z : Hd K mg) : ∃ t, mg "NEW" = some (.str "new" t) := by
  obtain ⟨h, KX, G⟩ := Z.ex
  exact He.str_ok KX G (Z.c.fact 18 (f := .str "NEW" "new") rfl)
theorem q_FREE (Z : Hd K mg) : ∃ t, mg "FREE" = some (.str "free" t) := by
  obtain ⟨h, KX, G⟩ := Z.ex
  exact He.str_ok KX G (Z.c.fact 19 (f := .str "FREE" "free") rfl)
theorem q_IF (Z : Hd K mg) : ∃ t, mg "IF" = some (.str "if" t) := by
  obtain ⟨h, KX, G⟩ := Z.ex
  exact He.str_ok KX G (Z.c.fact 20 (f := .str "IF" "if") rfl)
theorem q_WHILE (Z : Hd K mg) : ∃ t, mg "WHILE" = some (.str "while" t) := by
  obtain ⟨h, KX, G⟩ := Z.ex
  exact He.str_ok KX G (Z.c.fact 21 (f := .str "WHILE" "while") rfl)
theorem q_SAME (Z : Hd K mg) : ∃ t, mg "SAME" = some (.str "same" t) := by
  obtain ⟨h, KX, G⟩ := Z.ex
  exact He.str_ok KX G (Z.c.fact 22 (f := .str "SAME" "same") rfl)
theorem q_OTHER (Z : Hd K mg) : ∃ t, mg "OTHER" = some (.str "other" t) := by
  obtain ⟨h, KX, G⟩ := Z.ex
  exact He.str_ok KX G (Z.c.fact 23 (f := .str "OTHER" "other") rfl)
theorem q_PLAIN_DEEDS (Z : Hd K mg) : mg "PLAIN_DEEDS" = some (.ref (He.ga K "PLAIN_DEEDS")) := by
  obtain ⟨h, KX, G⟩ := Z.ex
  exact He.glo_ok KX G (Z.c.fact 24 (f := .glo "PLAIN_DEEDS") rfl)
theorem q_MOST_DEEDS (Z : Hd K mg) : ∃ t, mg "MOST_DEEDS" = some (.int 40 t) := by
  obtain ⟨h, KX, G⟩ := Z.ex
  exact He.int_ok KX G (Z.c.fact 25 (f := .int "MOST_DEEDS" 40) rfl)
theorem q_MOST_DEEP (Z : Hd K mg) : ∃ t, mg "MOST_DEEP" = some (.int 5 t) := by
  obtain ⟨h, KX, G⟩ := Z.ex
  exact He.int_ok KX G (Z.c.fact 26 (f := .int "MOST_DEEP" 5) rfl)
theorem q_MOST_PROGRAM_NAMES (Z : Hd K mg) : ∃ t, mg "MOST_PROGRAM_NAMES" = some (.int 5 t) := by
  obtain ⟨h, KX, G⟩ := Z.ex
  exact He.int_ok KX G (Z.c.fact 27 (f := .int "MOST_PROGRAM_NAMES" 5) rfl)
theorem q_MOST_NODES (Z : Hd K mg) : ∃ t, mg "MOST_NODES" = some (.int 50 t) := by
  obtain ⟨h, KX, G⟩ := Z.ex
  exact He.int_ok KX G (Z.c.fact 28 (f := .int "MOST_NODES" 50) rfl)
theorem q_ALIKE_WORD (Z : Hd K mg) : ∃ t, mg "ALIKE_WORD" = some (.str "alike" t) := by
  obtain ⟨h, KX, G⟩ := Z.ex
  exact He.str_ok KX G (Z.c.fact 29 (f := .str "ALIKE_WORD" "alike") rfl)
theorem q_APART_WORD (Z : Hd K mg) : ∃ t, mg "APART_WORD" = some (.str "apart" t) := by
  obtain ⟨h, KX, G⟩ := Z.ex
  exact He.str_ok KX G (Z.c.fact 30 (f := .str "APART_WORD" "apart") rfl)
theorem q_MOST_BOTH (Z : Hd K mg) : ∃ t, mg "MOST_BOTH" = some (.int 1000 t) := by
  obtain ⟨h, KX, G⟩ := Z.ex
  exact He.int_ok KX G (Z.c.fact 31 (f := .int "MOST_BOTH" 1000) rfl)
theorem q_d_is_name (Z : Hd K mg) : mg "is_name" = some (.ref (He.ga K "is_name")) := by
  obtain ⟨h, KX, G⟩ := Z.ex
  exact He.glo_ok KX G (Z.c.fact 32 (f := .glo "is_name") rfl)
theorem q_d_is_term (Z : Hd K mg) : mg "is_term" = some (.ref (He.ga K "is_term")) := by
  obtain ⟨h, KX, G⟩ := Z.ex
  exact He.glo_ok KX G (Z.c.fact 33 (f := .glo "is_term") rfl)
theorem q_d_is_sized (Z : Hd K mg) : mg "is_sized" = some (.ref (He.ga K "is_sized")) := by
  obtain ⟨h, KX, G⟩ := Z.ex
  exact He.glo_ok KX G (Z.c.fact 34 (f := .glo "is_sized") rfl)
theorem q_d_are_rising (Z : Hd K mg) : mg "are_rising" = some (.ref (He.ga K "are_rising")) := by
  obtain ⟨h, KX, G⟩ := Z.ex
  exact He.glo_ok KX G (Z.c.fact 35 (f := .glo "are_rising") rfl)
theorem q_d_is_pair_of_terms (Z : Hd K mg) : mg "is_pair_of_terms" = some (.ref (He.ga K "is_pair_of_terms")) := by
  obtain ⟨h, KX, G⟩ := Z.ex
  exact He.glo_ok KX G (Z.c.fact 36 (f := .glo "is_pair_of_terms") rfl)
theorem q_d_are_names (Z : Hd K mg) : mg "are_names" = some (.ref (He.ga K "are_names")) := by
  obtain ⟨h, KX, G⟩ := Z.ex
  exact He.glo_ok KX G (Z.c.fact 37 (f := .glo "are_names") rfl)
theorem q_d_without_doubles (Z : Hd K mg) : mg "without_doubles" = some (.ref (He.ga K "without_doubles")) := by
  obtain ⟨h, KX, G⟩ := Z.ex
  exact He.glo_ok KX G (Z.c.fact 38 (f := .glo "without_doubles") rfl)
theorem q_d_is_atom (Z : Hd K mg) : mg "is_atom" = some (.ref (He.ga K "is_atom")) := by
  obtain ⟨h, KX, G⟩ := Z.ex
  exact He.glo_ok KX G (Z.c.fact 39 (f := .glo "is_atom") rfl)
theorem q_d_are_facts (Z : Hd K mg) : mg "are_facts" = some (.ref (He.ga K "are_facts")) := by
  obtain ⟨h, KX, G⟩ := Z.ex
  exact He.glo_ok KX G (Z.c.fact 40 (f := .glo "are_facts") rfl)
theorem q_d_are_atoms (Z : Hd K mg) : mg "are_atoms" = some (.ref (He.ga K "are_atoms")) := by
  obtain ⟨h, KX, G⟩ := Z.ex
  exact He.glo_ok KX G (Z.c.fact 41 (f := .glo "are_atoms") rfl)
theorem q_d_terms_told (Z : Hd K mg) : mg "terms_told" = some (.ref (He.ga K "terms_told")) := by
  obtain ⟨h, KX, G⟩ := Z.ex
  exact He.glo_ok KX G (Z.c.fact 42 (f := .glo "terms_told") rfl)
theorem q_d_raw_names (Z : Hd K mg) : mg "raw_names" = some (.ref (He.ga K "raw_names")) := by
  obtain ⟨h, KX, G⟩ := Z.ex
  exact He.glo_ok KX G (Z.c.fact 43 (f := .glo "raw_names") rfl)
theorem q_d_is_claim (Z : Hd K mg) : mg "is_claim" = some (.ref (He.ga K "is_claim")) := by
  obtain ⟨h, KX, G⟩ := Z.ex
  exact He.glo_ok KX G (Z.c.fact 44 (f := .glo "is_claim") rfl)
theorem q_d_check_claim (Z : Hd K mg) : mg "check_claim" = some (.ref (He.ga K "check_claim")) := by
  obtain ⟨h, KX, G⟩ := Z.ex
  exact He.glo_ok KX G (Z.c.fact 45 (f := .glo "check_claim") rfl)
theorem q_d_check_names (Z : Hd K mg) : mg "check_names" = some (.ref (He.ga K "check_names")) := by
  obtain ⟨h, KX, G⟩ := Z.ex
  exact He.glo_ok KX G (Z.c.fact 46 (f := .glo "check_names") rfl)
theorem q_d_raw_partings (Z : Hd K mg) : mg "raw_partings" = some (.ref (He.ga K "raw_partings")) := by
  obtain ⟨h, KX, G⟩ := Z.ex
  exact He.glo_ok KX G (Z.c.fact 47 (f := .glo "raw_partings") rfl)
theorem q_d_raw_classes_many (Z : Hd K mg) : mg "raw_classes_many" = some (.ref (He.ga K "raw_classes_many")) := by
  obtain ⟨h, KX, G⟩ := Z.ex
  exact He.glo_ok KX G (Z.c.fact 48 (f := .glo "raw_classes_many") rfl)
theorem q_d_class_table (Z : Hd K mg) : mg "class_table" = some (.ref (He.ga K "class_table")) := by
  obtain ⟨h, KX, G⟩ := Z.ex
  exact He.glo_ok KX G (Z.c.fact 49 (f := .glo "class_table") rfl)
theorem q_d_keeps_by (Z : Hd K mg) : mg "keeps_by" = some (.ref (He.ga K "keeps_by")) := by
  obtain ⟨h, KX, G⟩ := Z.ex
  exact He.glo_ok KX G (Z.c.fact 50 (f := .glo "keeps_by") rfl)
theorem q_d_live_by (Z : Hd K mg) : mg "live_by" = some (.ref (He.ga K "live_by")) := by
  obtain ⟨h, KX, G⟩ := Z.ex
  exact He.glo_ok KX G (Z.c.fact 51 (f := .glo "live_by") rfl)
theorem q_d_dead_by (Z : Hd K mg) : mg "dead_by" = some (.ref (He.ga K "dead_by")) := by
  obtain ⟨h, KX, G⟩ := Z.ex
  exact He.glo_ok KX G (Z.c.fact 52 (f := .glo "dead_by") rfl)
theorem q_d_heap_by (Z : Hd K mg) : mg "heap_by" = some (.ref (He.ga K "heap_by")) := by
  obtain ⟨h, KX, G⟩ := Z.ex
  exact He.glo_ok KX G (Z.c.fact 53 (f := .glo "heap_by") rfl)
theorem q_d_edges_by (Z : Hd K mg) : mg "edges_by" = some (.ref (He.ga K "edges_by")) := by
  obtain ⟨h, KX, G⟩ := Z.ex
  exact He.glo_ok KX G (Z.c.fact 54 (f := .glo "edges_by") rfl)
theorem q_d_live_partings (Z : Hd K mg) : mg "live_partings" = some (.ref (He.ga K "live_partings")) := by
  obtain ⟨h, KX, G⟩ := Z.ex
  exact He.glo_ok KX G (Z.c.fact 55 (f := .glo "live_partings") rfl)
theorem q_d_is_test (Z : Hd K mg) : mg "is_test" = some (.ref (He.ga K "is_test")) := by
  obtain ⟨h, KX, G⟩ := Z.ex
  exact He.glo_ok KX G (Z.c.fact 56 (f := .glo "is_test") rfl)
theorem q_d_is_plain_deed (Z : Hd K mg) : mg "is_plain_deed" = some (.ref (He.ga K "is_plain_deed")) := by
  obtain ⟨h, KX, G⟩ := Z.ex
  exact He.glo_ok KX G (Z.c.fact 57 (f := .glo "is_plain_deed") rfl)
theorem q_d_has_deed_form (Z : Hd K mg) : mg "has_deed_form" = some (.ref (He.ga K "has_deed_form")) := by
  obtain ⟨h, KX, G⟩ := Z.ex
  exact He.glo_ok KX G (Z.c.fact 58 (f := .glo "has_deed_form") rfl)
theorem q_d_lists_within (Z : Hd K mg) : mg "lists_within" = some (.ref (He.ga K "lists_within")) := by
  obtain ⟨h, KX, G⟩ := Z.ex
  exact He.glo_ok KX G (Z.c.fact 59 (f := .glo "lists_within") rfl)
theorem q_d_has_shape (Z : Hd K mg) : mg "has_shape" = some (.ref (He.ga K "has_shape")) := by
  obtain ⟨h, KX, G⟩ := Z.ex
  exact He.glo_ok KX G (Z.c.fact 60 (f := .glo "has_shape") rfl)
theorem q_d_all_deeds (Z : Hd K mg) : mg "all_deeds" = some (.ref (He.ga K "all_deeds")) := by
  obtain ⟨h, KX, G⟩ := Z.ex
  exact He.glo_ok KX G (Z.c.fact 61 (f := .glo "all_deeds") rfl)
theorem q_d_terms_of (Z : Hd K mg) : mg "terms_of" = some (.ref (He.ga K "terms_of")) := by
  obtain ⟨h, KX, G⟩ := Z.ex
  exact He.glo_ok KX G (Z.c.fact 62 (f := .glo "terms_of") rfl)
theorem q_d_raw_used (Z : Hd K mg) : mg "raw_used" = some (.ref (He.ga K "raw_used")) := by
  obtain ⟨h, KX, G⟩ := Z.ex
  exact He.glo_ok KX G (Z.c.fact 63 (f := .glo "raw_used") rfl)
theorem q_d_is_program (Z : Hd K mg) : mg "is_program" = some (.ref (He.ga K "is_program")) := by
  obtain ⟨h, KX, G⟩ := Z.ex
  exact He.glo_ok KX G (Z.c.fact 64 (f := .glo "is_program") rfl)
theorem q_d_are_straight (Z : Hd K mg) : mg "are_straight" = some (.ref (He.ga K "are_straight")) := by
  obtain ⟨h, KX, G⟩ := Z.ex
  exact He.glo_ok KX G (Z.c.fact 65 (f := .glo "are_straight") rfl)
theorem q_d_raw_pictures (Z : Hd K mg) : mg "raw_pictures" = some (.ref (He.ga K "raw_pictures")) := by
  obtain ⟨h, KX, G⟩ := Z.ex
  exact He.glo_ok KX G (Z.c.fact 66 (f := .glo "raw_pictures") rfl)
theorem q_d_opened_tracks (Z : Hd K mg) : mg "opened_tracks" = some (.ref (He.ga K "opened_tracks")) := by
  obtain ⟨h, KX, G⟩ := Z.ex
  exact He.glo_ok KX G (Z.c.fact 67 (f := .glo "opened_tracks") rfl)
theorem q_d_new_tracks (Z : Hd K mg) : mg "new_tracks" = some (.ref (He.ga K "new_tracks")) := by
  obtain ⟨h, KX, G⟩ := Z.ex
  exact He.glo_ok KX G (Z.c.fact 68 (f := .glo "new_tracks") rfl)
theorem q_d_done_tracks (Z : Hd K mg) : mg "done_tracks" = some (.ref (He.ga K "done_tracks")) := by
  obtain ⟨h, KX, G⟩ := Z.ex
  exact He.glo_ok KX G (Z.c.fact 69 (f := .glo "done_tracks") rfl)
theorem q_d_edges_of (Z : Hd K mg) : mg "edges_of" = some (.ref (He.ga K "edges_of")) := by
  obtain ⟨h, KX, G⟩ := Z.ex
  exact He.glo_ok KX G (Z.c.fact 70 (f := .glo "edges_of") rfl)
theorem q_d_first_state (Z : Hd K mg) : mg "first_state" = some (.ref (He.ga K "first_state")) := by
  obtain ⟨h, KX, G⟩ := Z.ex
  exact He.glo_ok KX G (Z.c.fact 71 (f := .glo "first_state") rfl)
theorem q_d_past_ifs (Z : Hd K mg) : mg "past_ifs" = some (.ref (He.ga K "past_ifs")) := by
  obtain ⟨h, KX, G⟩ := Z.ex
  exact He.glo_ok KX G (Z.c.fact 72 (f := .glo "past_ifs") rfl)
theorem q_d_split_tracks (Z : Hd K mg) : mg "split_tracks" = some (.ref (He.ga K "split_tracks")) := by
  obtain ⟨h, KX, G⟩ := Z.ex
  exact He.glo_ok KX G (Z.c.fact 73 (f := .glo "split_tracks") rfl)
theorem q_d_needed_node (Z : Hd K mg) : mg "needed_node" = some (.ref (He.ga K "needed_node")) := by
  obtain ⟨h, KX, G⟩ := Z.ex
  exact He.glo_ok KX G (Z.c.fact 74 (f := .glo "needed_node") rfl)
theorem q_d_all_ways (Z : Hd K mg) : mg "all_ways" = some (.ref (He.ga K "all_ways")) := by
  obtain ⟨h, KX, G⟩ := Z.ex
  exact He.glo_ok KX G (Z.c.fact 75 (f := .glo "all_ways") rfl)
theorem q_d_begun_again (Z : Hd K mg) : mg "begun_again" = some (.ref (He.ga K "begun_again")) := by
  obtain ⟨h, KX, G⟩ := Z.ex
  exact He.glo_ok KX G (Z.c.fact 76 (f := .glo "begun_again") rfl)
theorem q_d_refined_edges (Z : Hd K mg) : mg "refined_edges" = some (.ref (He.ga K "refined_edges")) := by
  obtain ⟨h, KX, G⟩ := Z.ex
  exact He.glo_ok KX G (Z.c.fact 77 (f := .glo "refined_edges") rfl)
theorem q_d_are_ends_alike (Z : Hd K mg) : mg "are_ends_alike" = some (.ref (He.ga K "are_ends_alike")) := by
  obtain ⟨h, KX, G⟩ := Z.ex
  exact He.glo_ok KX G (Z.c.fact 78 (f := .glo "are_ends_alike") rfl)
theorem q_d_raw_alike_deeds (Z : Hd K mg) : mg "raw_alike_deeds" = some (.ref (He.ga K "raw_alike_deeds")) := by
  obtain ⟨h, KX, G⟩ := Z.ex
  exact He.glo_ok KX G (Z.c.fact 79 (f := .glo "raw_alike_deeds") rfl)
theorem q_d_check_both (Z : Hd K mg) : mg "check_both" = some (.ref (He.ga K "check_both")) := by
  obtain ⟨h, KX, G⟩ := Z.ex
  exact He.glo_ok KX G (Z.c.fact 80 (f := .glo "check_both") rfl)
theorem q_d_alike_deeds (Z : Hd K mg) : mg "alike_deeds" = some (.ref (He.ga K "alike_deeds")) := by
  obtain ⟨h, KX, G⟩ := Z.ex
  exact He.glo_ok KX G (Z.c.fact 81 (f := .glo "alike_deeds") rfl)
theorem q_d_needless_deeds (Z : Hd K mg) : mg "needless_deeds" = some (.ref (He.ga K "needless_deeds")) := by
  obtain ⟨h, KX, G⟩ := Z.ex
  exact He.glo_ok KX G (Z.c.fact 82 (f := .glo "needless_deeds") rfl)
theorem q_d__law_hand (Z : Hd K mg) : mg "_law_hand" = some (.ref (He.ga K "_law_hand")) := by
  obtain ⟨h, KX, G⟩ := Z.ex
  exact He.glo_ok KX G (Z.c.fact 83 (f := .glo "_law_hand") rfl)
theorem q_d__law_draw (Z : Hd K mg) : mg "_law_draw" = some (.ref (He.ga K "_law_draw")) := by
  obtain ⟨h, KX, G⟩ := Z.ex
  exact He.glo_ok KX G (Z.c.fact 84 (f := .glo "_law_draw") rfl)
theorem q_d__law_any (Z : Hd K mg) : mg "_law_any" = some (.ref (He.ga K "_law_any")) := by
  obtain ⟨h, KX, G⟩ := Z.ex
  exact He.glo_ok KX G (Z.c.fact 85 (f := .glo "_law_any") rfl)
theorem q_d__law_pair (Z : Hd K mg) : mg "_law_pair" = some (.ref (He.ga K "_law_pair")) := by
  obtain ⟨h, KX, G⟩ := Z.ex
  exact He.glo_ok KX G (Z.c.fact 86 (f := .glo "_law_pair") rfl)
theorem q_d__law_cases (Z : Hd K mg) : mg "_law_cases" = some (.ref (He.ga K "_law_cases")) := by
  obtain ⟨h, KX, G⟩ := Z.ex
  exact He.glo_ok KX G (Z.c.fact 87 (f := .glo "_law_cases") rfl)
theorem q_d_law (Z : Hd K mg) : mg "law" = some (.ref (He.ga K "law")) := by
  obtain ⟨h, KX, G⟩ := Z.ex
  exact He.glo_ok KX G (Z.c.fact 88 (f := .glo "law") rfl)
theorem q_ValueError (Z : Hd K mg) : mg "ValueError" = none := by
  obtain ⟨h, KX, G⟩ := Z.ex
  exact He.free_ok KX G (Z.c.fact 89 (f := .free "ValueError") rfl)
theorem q_abs (Z : Hd K mg) : mg "abs" = none := by
  obtain ⟨h, KX, G⟩ := Z.ex
  exact He.free_ok KX G (Z.c.fact 90 (f := .free "abs") rfl)
theorem q_all (Z : Hd K mg) : mg "all" = none := by
  obtain ⟨h, KX, G⟩ := Z.ex
  exact He.free_ok KX G (Z.c.fact 91 (f := .free "all") rfl)
theorem q_any (Z : Hd K mg) : mg "any" = none := by
  obtain ⟨h, KX, G⟩ := Z.ex
  exact He.free_ok KX G (Z.c.fact 92 (f := .free "any") rfl)
theorem q_dict (Z : Hd K mg) : mg "dict" = none := by
  obtain ⟨h, KX, G⟩ := Z.ex
  exact He.free_ok KX G (Z.c.fact 93 (f := .free "dict") rfl)
theorem q_enumerate (Z : Hd K mg) : mg "enumerate" = none := by
  obtain ⟨h, KX, G⟩ := Z.ex
  exact He.free_ok KX G (Z.c.fact 94 (f := .free "enumerate") rfl)
theorem q_int (Z : Hd K mg) : mg "int" = none := by
  obtain ⟨h, KX, G⟩ := Z.ex
  exact He.free_ok KX G (Z.c.fact 95 (f := .free "int") rfl)
theorem q_isinstance (Z : Hd K mg) : mg "isinstance" = none := by
  obtain ⟨h, KX, G⟩ := Z.ex
  exact He.free_ok KX G (Z.c.fact 96 (f := .free "isinstance") rfl)
theorem q_len (Z : Hd K mg) : mg "len" = none := by
  obtain ⟨h, KX, G⟩ := Z.ex
  exact He.free_ok KX G (Z.c.fact 97 (f := .free "len") rfl)
theorem q_list (Z : Hd K mg) : mg "list" = none := by
  obtain ⟨h, KX, G⟩ := Z.ex
  exact He.free_ok KX G (Z.c.fact 98 (f := .free "list") rfl)
theorem q_max (Z : Hd K mg) : mg "max" = none := by
  obtain ⟨h, KX, G⟩ := Z.ex
  exact He.free_ok KX G (Z.c.fact 99 (f := .free "max") rfl)
theorem q_range (Z : Hd K mg) : mg "range" = none := by
  obtain ⟨h, KX, G⟩ := Z.ex
  exact He.free_ok KX G (Z.c.fact 100 (f := .free "range") rfl)
theorem q_sorted (Z : Hd K mg) : mg "sorted" = none := by
  obtain ⟨h, KX, G⟩ := Z.ex
  exact He.free_ok KX G (Z.c.fact 101 (f := .free "sorted") rfl)
theorem q_str (Z : Hd K mg) : mg "str" = none := by
  obtain ⟨h, KX, G⟩ := Z.ex
  exact He.free_ok KX G (Z.c.fact 102 (f := .free "str") rfl)
theorem q_tuple (Z : Hd K mg) : mg "tuple" = none := by
  obtain ⟨h, KX, G⟩ := Z.ex
  exact He.free_ok KX G (Z.c.fact 103 (f := .free "tuple") rfl)
theorem q_zip (Z : Hd K mg) : mg "zip" = none := by
  obtain ⟨h, KX, G⟩ := Z.ex
  exact He.free_ok KX G (Z.c.fact 104 (f := .free "zip") rfl)
theorem q_c_Track (Z : Hd K mg) : mg "Track" = some (.ref (He.ga K "Track")) := by
  obtain ⟨h, KX, G⟩ := Z.ex
  exact He.glo_ok KX G (Z.c.fact 105 (f := .glo "Track") rfl)
theorem q_k_Track (Z : Hd K mg) : Cls K (He.ga K "Track") := He.cls_ok (Z.c.fact 106 (f := .cls "Track") rfl)
theorem q_a_Track_most (Z : Hd K mg) : NoAttr K (He.ga K "Track") "most" := He.noat_ok (Z.c.fact 107 (f := .noat "Track" "most") rfl)
theorem q_a_Track_many (Z : Hd K mg) : NoAttr K (He.ga K "Track") "many" := He.noat_ok (Z.c.fact 108 (f := .noat "Track" "many") rfl)
theorem q_a_Track_first_names (Z : Hd K mg) : NoAttr K (He.ga K "Track") "first_names" := He.noat_ok (Z.c.fact 109 (f := .noat "Track" "first_names") rfl)
theorem q_a_Track_first_edges (Z : Hd K mg) : NoAttr K (He.ga K "Track") "first_edges" := He.noat_ok (Z.c.fact 110 (f := .noat "Track" "first_edges") rfl)
theorem q_a_Track_now_names (Z : Hd K mg) : NoAttr K (He.ga K "Track") "now_names" := He.noat_ok (Z.c.fact 111 (f := .noat "Track" "now_names") rfl)
theorem q_a_Track_now_edges (Z : Hd K mg) : NoAttr K (He.ga K "Track") "now_edges" := He.noat_ok (Z.c.fact 112 (f := .noat "Track" "now_edges") rfl)
theorem q_a_Track_now_bare (Z : Hd K mg) : NoAttr K (He.ga K "Track") "now_bare" := He.noat_ok (Z.c.fact 113 (f := .noat "Track" "now_bare") rfl)
theorem q_a_Track_news_met (Z : Hd K mg) : NoAttr K (He.ga K "Track") "news_met" := He.noat_ok (Z.c.fact 114 (f := .noat "Track" "news_met") rfl)
theorem q_k_Track_init (Z : Hd K mg) : Mk K (He.ga K "Track") (He.ma K (He.ga K "Track") "__init__") := He.mkr_ok (Z.c.fact 115 (f := .mkr "Track") rfl)
theorem q_k_Track_twin (Z : Hd K mg) : Meth K (He.ga K "Track") "twin" (He.ma K (He.ga K "Track") "twin") := He.meth_ok (Z.c.fact 116 (f := .meth "Track" "twin") rfl)
theorem q_k_Track_node_of (Z : Hd K mg) : Meth K (He.ga K "Track") "node_of" (He.ma K (He.ga K "Track") "node_of") := He.meth_ok (Z.c.fact 117 (f := .meth "Track" "node_of") rfl)
theorem q_k_Track_fresh_node (Z : Hd K mg) : Meth K (He.ga K "Track") "fresh_node" (He.ma K (He.ga K "Track") "fresh_node") := He.meth_ok (Z.c.fact 118 (f := .meth "Track" "fresh_node") rfl)
theorem q_k_Track_set_both (Z : Hd K mg) : Meth K (He.ga K "Track") "set_both" (He.ma K (He.ga K "Track") "set_both") := He.meth_ok (Z.c.fact 119 (f := .meth "Track" "set_both") rfl)
theorem q_k_Track_picture (Z : Hd K mg) : Meth K (He.ga K "Track") "picture" (He.ma K (He.ga K "Track") "picture") := He.meth_ok (Z.c.fact 120 (f := .meth "Track" "picture") rfl)
theorem q_BOUND_WORDS_t (Z : Hd K mg) (H : Hp) : SqP K H (He.ga K "BOUND_WORDS") (t_BOUND_WORDS.map V.str) := by
  have e : tupP K "BOUND_WORDS" t_BOUND_WORDS = true := by
    have z := Z.t
    unfold exB at z
    simp only [Bool.and_eq_true] at z
    exact z.1.1
  exact tupP_ok e H
theorem q_ATOM_WORDS_t (Z : Hd K mg) (H : Hp) : SqP K H (He.ga K "ATOM_WORDS") (t_ATOM_WORDS.map V.str) := by
  have e : tupP K "ATOM_WORDS" t_ATOM_WORDS = true := by
    have z := Z.t
    unfold exB at z
    simp only [Bool.and_eq_true] at z
    exact z.1.2
  exact tupP_ok e H
theorem q_PLAIN_DEEDS_t (Z : Hd K mg) (H : Hp) : SqP K H (He.ga K "PLAIN_DEEDS") (t_PLAIN_DEEDS.map V.str) := by
  have e : tupP K "PLAIN_DEEDS" t_PLAIN_DEEDS = true := by
    have z := Z.t
    unfold exB at z
    simp only [Bool.and_eq_true] at z
    exact z.2
  exact tupP_ok e H
end
def fldL : List Str := ["most", "many", "first_names", "first_edges", "now_names", "now_edges", "now_bare", "news_met"]
def clsL : List Str := ["Track"]
def Nc (K : PySem.W.Frag) : Cn := ⟨K, fun c => clsL.getD c "", fun f => fldL.getD f "", 8, fun _ _ _ _ _ => True⟩
theorem fldL_nd : fldL.Nodup := by decide +kernel
theorem fldL_ne : (fldL.all fun x => !decide (x = ("" : Str))) = true := by decide +kernel
theorem f_0 (K : PySem.W.Frag) : FldOk (Nc K) 0 := ⟨(by decide : 0 < 8), fun g e => fld_inj fldL_nd fldL_ne (by decide : 0 < fldL.length) g e⟩
theorem f_1 (K : PySem.W.Frag) : FldOk (Nc K) 1 := ⟨(by decide : 1 < 8), fun g e => fld_inj fldL_nd fldL_ne (by decide : 1 < fldL.length) g e⟩
theorem f_2 (K : PySem.W.Frag) : FldOk (Nc K) 2 := ⟨(by decide : 2 < 8), fun g e => fld_inj fldL_nd fldL_ne (by decide : 2 < fldL.length) g e⟩
theorem f_3 (K : PySem.W.Frag) : FldOk (Nc K) 3 := ⟨(by decide : 3 < 8), fun g e => fld_inj fldL_nd fldL_ne (by decide : 3 < fldL.length) g e⟩
theorem f_4 (K : PySem.W.Frag) : FldOk (Nc K) 4 := ⟨(by decide : 4 < 8), fun g e => fld_inj fldL_nd fldL_ne (by decide : 4 < fldL.length) g e⟩
theorem f_5 (K : PySem.W.Frag) : FldOk (Nc K) 5 := ⟨(by decide : 5 < 8), fun g e => fld_inj fldL_nd fldL_ne (by decide : 5 < fldL.length) g e⟩
theorem f_6 (K : PySem.W.Frag) : FldOk (Nc K) 6 := ⟨(by decide : 6 < 8), fun g e => fld_inj fldL_nd fldL_ne (by decide : 6 < fldL.length) g e⟩
theorem f_7 (K : PySem.W.Frag) : FldOk (Nc K) 7 := ⟨(by decide : 7 < 8), fun g e => fld_inj fldL_nd fldL_ne (by decide : 7 < fldL.length) g e⟩
theorem n_0 (K : PySem.W.Frag) (g : Nat) : (Nc K).fld g ≠ ("__init__" : Str) := fld_ne (by decide +kernel) (by decide +kernel) g
theorem n_1 (K : PySem.W.Frag) (g : Nat) : (Nc K).fld g ≠ ("twin" : Str) := fld_ne (by decide +kernel) (by decide +kernel) g
theorem n_2 (K : PySem.W.Frag) (g : Nat) : (Nc K).fld g ≠ ("node_of" : Str) := fld_ne (by decide +kernel) (by decide +kernel) g
theorem n_3 (K : PySem.W.Frag) (g : Nat) : (Nc K).fld g ≠ ("fresh_node" : Str) := fld_ne (by decide +kernel) (by decide +kernel) g
theorem n_4 (K : PySem.W.Frag) (g : Nat) : (Nc K).fld g ≠ ("set_both" : Str) := fld_ne (by decide +kernel) (by decide +kernel) g
theorem n_5 (K : PySem.W.Frag) (g : Nat) : (Nc K).fld g ≠ ("picture" : Str) := fld_ne (by decide +kernel) (by decide +kernel) g
def methT (c m : Nat) : Option Nat := match c, m with
  | 0, 0 => some 35
  | 0, 1 => some 36
  | 0, 2 => some 37
  | 0, 3 => some 38
  | 0, 4 => some 39
  | 0, 5 => some 40
  | _, _ => none
def initT (c : Nat) : Nat := match c with
  | 0 => 35
  | _ => 0
theorem m_0 {T : Tab} (e : T.meth = methT) (c f : Nat) (h : T.meth c 0 = some f) : c = 0 ∧ f = 35 := by
  rw [e] at h
  cases c with
  | zero =>
    cases h
    exact ⟨rfl, rfl⟩
  | succ c => cases h
theorem m_1 {T : Tab} (e : T.meth = methT) (c f : Nat) (h : T.meth c 1 = some f) : c = 0 ∧ f = 36 := by
  rw [e] at h
  cases c with
  | zero =>
    cases h
    exact ⟨rfl, rfl⟩
  | succ c => cases h
theorem m_2 {T : Tab} (e : T.meth = methT) (c f : Nat) (h : T.meth c 2 = some f) : c = 0 ∧ f = 37 := by
  rw [e] at h
  cases c with
  | zero =>
    cases h
    exact ⟨rfl, rfl⟩
  | succ c => cases h
theorem m_3 {T : Tab} (e : T.meth = methT) (c f : Nat) (h : T.meth c 3 = some f) : c = 0 ∧ f = 38 := by
  rw [e] at h
  cases c with
  | zero =>
    cases h
    exact ⟨rfl, rfl⟩
  | succ c => cases h
theorem m_4 {T : Tab} (e : T.meth = methT) (c f : Nat) (h : T.meth c 4 = some f) : c = 0 ∧ f = 39 := by
  rw [e] at h
  cases c with
  | zero =>
    cases h
    exact ⟨rfl, rfl⟩
  | succ c => cases h
theorem m_5 {T : Tab} (e : T.meth = methT) (c f : Nat) (h : T.meth c 5 = some f) : c = 0 ∧ f = 40 := by
  rw [e] at h
  cases c with
  | zero =>
    cases h
    exact ⟨rfl, rfl⟩
  | succ c => cases h
def nameL : List (Option Str) := [some ("is_name" : Str), some ("is_term" : Str), some ("is_sized" : Str), some ("are_rising" : Str), some ("is_pair_of_terms" : Str), some ("are_names" : Str), some ("without_doubles" : Str), some ("is_atom" : Str), some ("are_facts" : Str), some ("are_atoms" : Str), some ("terms_told" : Str), some ("raw_names" : Str), some ("is_claim" : Str), some ("check_claim" : Str), some ("check_names" : Str), some ("raw_partings" : Str), some ("raw_classes_many" : Str), some ("class_table" : Str), some ("keeps_by" : Str), some ("live_by" : Str), some ("dead_by" : Str), some ("heap_by" : Str), some ("edges_by" : Str), some ("live_partings" : Str), some ("is_test" : Str), some ("is_plain_deed" : Str), some ("has_deed_form" : Str), some ("lists_within" : Str), some ("has_shape" : Str), some ("all_deeds" : Str), some ("terms_of" : Str), some ("raw_used" : Str), some ("is_program" : Str), some ("are_straight" : Str), some ("raw_pictures" : Str), none, none, none, none, none, none, some ("opened_tracks" : Str), some ("new_tracks" : Str), some ("done_tracks" : Str), some ("edges_of" : Str), some ("first_state" : Str), some ("past_ifs" : Str), some ("split_tracks" : Str), some ("needed_node" : Str), some ("all_ways" : Str), some ("begun_again" : Str), some ("refined_edges" : Str), some ("are_ends_alike" : Str), some ("raw_alike_deeds" : Str), some ("check_both" : Str), some ("alike_deeds" : Str), some ("needless_deeds" : Str), some ("_law_hand" : Str), some ("_law_draw" : Str), some ("_law_any" : Str), some ("_law_pair" : Str), some ("_law_cases" : Str), some ("law" : Str)]
def nameAt (n : Nat) : Option Str := (nameL[n]?).join
def methAt (n : Nat) : Option (Nat × Str) := match n with
  | 36 => some (0, "twin")
  | 37 => some (0, "node_of")
  | 38 => some (0, "fresh_node")
  | 39 => some (0, "set_both")
  | 40 => some (0, "picture")
  | _ => none
abbrev CallsG (P : Program) (w : World) (K : PySem.W.Frag) (mg : Str → Option Value) (base : Heap) (T : Tab) (k : Nat) : Prop := CallsOk P w K mg base (Nc K) T k nameAt methAt 1 methT
theorem bo_abs : bootBuiltins "abs" = some (.builtin "abs") := by decide +kernel
theorem bo_all : bootBuiltins "all" = some (.builtin "all") := by decide +kernel
theorem bo_any : bootBuiltins "any" = some (.builtin "any") := by decide +kernel
theorem bo_dict : bootBuiltins "dict" = some (.type "dict") := by decide +kernel
theorem bo_int : bootBuiltins "int" = some (.type "int") := by decide +kernel
theorem bo_len : bootBuiltins "len" = some (.builtin "len") := by decide +kernel
theorem bo_list : bootBuiltins "list" = some (.type "list") := by decide +kernel
theorem bo_max : bootBuiltins "max" = some (.builtin "max") := by decide +kernel
theorem bo_sorted : bootBuiltins "sorted" = some (.builtin "sorted") := by decide +kernel
theorem bo_tuple : bootBuiltins "tuple" = some (.type "tuple") := by decide +kernel
-- DEFS
/-- is_name: thing sign -/
def b0 (T : Tab) : FS :=
 (sSeq (sIf (tOrA (tNotA (tValA (cIsi .str (cSlot 0)))) (tOrA (tNotA (tValA (cChn .le .le (cCst (.int 1)) (cBlt .len (aCons (cSlot 0) aNil)) (cCst (.int 8))))) (tCmpA .isin (cSlot 0) (cCst (.tup (u_BOUND_WORDS.map .str))))))
 (sSeq (sRet (cCst (.bl false)))
 sNil)
 sNil)
 (sSeq (sRet (cBlt .all1 (aCons (cLcm [1] (.nm 1) (iValA (cSlot 0)) tYesA (cCmp .isin (cSlot 1) (cCst (.str s_w0)))) aNil)))
 sNil))
/-- is_term: thing -/
def b1 (T : Tab) : FS :=
 (sSeq (sRet (cOr (cCall T true 0 (aCons (cSlot 0) aNil)) (cAnd (cIsi .str (cSlot 0)) (cCmp .eq (cSlot 0) (cCst (.str s_w1))))))
 sNil)
/-- is_sized: thing least most -/
def b2 (T : Tab) : FS :=
 (sSeq (sRet (cAnd (cIsi .tup (cSlot 0)) (cChn .le .le (cSlot 1) (cBlt .len (aCons (cSlot 0) aNil)) (cSlot 2))))
 sNil)
/-- are_rising: things at -/
def b3 (T : Tab) : FS :=
 (sSeq (sRet (cBlt .all1 (aCons (cLcm [1] (.nm 1) (iRng1A (cBin .sub (cBlt .len (aCons (cSlot 0) aNil)) (cCst (.int 1)))) tYesA (cCmp .lt (cIdx (cSlot 0) (cSlot 1)) (cIdx (cSlot 0) (cBin .add (cSlot 1) (cCst (.int 1)))))) aNil)))
 sNil)
/-- is_pair_of_terms: thing -/
def b4 (T : Tab) : FS :=
 (sSeq (sRet (cAnd (cCall T true 2 (aCons (cSlot 0) (aCons (cCst (.int 2)) (aCons (cCst (.int 2)) aNil)))) (cAnd (cCall T true 1 (aCons (cIdx (cSlot 0) (cCst (.int 0))) aNil)) (cCall T true 1 (aCons (cIdx (cSlot 0) (cCst (.int 1))) aNil)))))
 sNil)
/-- are_names: thing most one -/
def b5 (T : Tab) : FS :=
 (sSeq (sRet (cAnd (cCall T true 2 (aCons (cSlot 0) (aCons (cCst (.int 0)) (aCons (cSlot 1) aNil)))) (cAnd (cBlt .all1 (aCons (cLcm [2] (.nm 2) (iValA (cSlot 0)) tYesA (cCall T true 0 (aCons (cSlot 2) aNil))) aNil)) (cCall T true 3 (aCons (cSlot 0) aNil)))))
 sNil)
/-- without_doubles: things found one -/
def b6 (T : Tab) : FS :=
 (sSeq (sAsg (.nm 1) (cLst aNil))
 (sSeq (sFor (.nm 2) (iValA (cBlt .sorted1 (aCons (cSlot 0) aNil)))
 (sSeq (sIf (tOrA (tCmpA .eq (cBlt .len (aCons (cSlot 1) aNil)) (cCst (.int 0))) (tCmpA .ne (cIdx (cSlot 1) (cCst (.int (-1)))) (cSlot 2)))
 (sSeq (sExp (cBm .append (cSlot 1) (aCons (cSlot 2) aNil)))
 sNil)
 sNil)
 sNil))
 (sSeq (sRet (cBlt .tuple1 (aCons (cSlot 1) aNil)))
 sNil)))
/-- is_atom: thing -/
def b7 (T : Tab) : FS :=
 (sSeq (sIf (tOrA (tNotA (tValA (cCall T true 2 (aCons (cSlot 0) (aCons (cCst (.int 3)) (aCons (cCst (.int 3)) aNil)))))) (tOrA (tNotA (tValA (cIsi .str (cIdx (cSlot 0) (cCst (.int 0)))))) (tCmpA .notin (cIdx (cSlot 0) (cCst (.int 0))) (cCst (.tup (u_ATOM_WORDS.map .str))))))
 (sSeq (sRet (cCst (.bl false)))
 sNil)
 sNil)
 (sSeq (sRet (cAnd (cCall T true 1 (aCons (cIdx (cSlot 0) (cCst (.int 1))) aNil)) (cCall T true 1 (aCons (cIdx (cSlot 0) (cCst (.int 2))) aNil))))
 sNil))
/-- are_facts: thing pair -/
def b8 (T : Tab) : FS :=
 (sSeq (sIf (tOrA (tNotA (tValA (cCall T true 2 (aCons (cSlot 0) (aCons (cCst (.int 0)) (aCons (cCst (.int 15)) aNil)))))) (tNotA (tValA (cBlt .all1 (aCons (cLcm [1] (.nm 1) (iValA (cSlot 0)) tYesA (cCall T true 4 (aCons (cSlot 1) aNil))) aNil)))))
 (sSeq (sRet (cCst (.bl false)))
 sNil)
 sNil)
 (sSeq (sRet (cAnd (cBlt .all1 (aCons (cLcm [1] (.nm 1) (iValA (cSlot 0)) tYesA (cCmp .lt (cIdx (cSlot 1) (cCst (.int 0))) (cIdx (cSlot 1) (cCst (.int 1))))) aNil)) (cCall T true 3 (aCons (cSlot 0) aNil))))
 sNil))
/-- are_atoms: thing one -/
def b9 (T : Tab) : FS :=
 (sSeq (sIf (tOrA (tNotA (tValA (cCall T true 2 (aCons (cSlot 0) (aCons (cCst (.int 0)) (aCons (cCst (.int 6)) aNil)))))) (tNotA (tValA (cBlt .all1 (aCons (cLcm [1] (.nm 1) (iValA (cSlot 0)) tYesA (cCall T true 7 (aCons (cSlot 1) aNil))) aNil)))))
 (sSeq (sRet (cCst (.bl false)))
 sNil)
 sNil)
 (sSeq (sIf (tCmpA .gt (cBlt .len (aCons (cLcm [1] (.nm 1) (iValA (cSlot 0)) (tCmpA .eq (cIdx (cSlot 1) (cCst (.int 0))) (cCst (.str s_w2))) (cSlot 1)) aNil)) (cCst (.int 4)))
 (sSeq (sRet (cCst (.bl false)))
 sNil)
 sNil)
 (sSeq (sRet (cCmp .eq (cBlt .list1 (aCons (cSlot 0) aNil)) (cBlt .sorted1 (aCons (cSlot 0) aNil))))
 sNil)))
/-- terms_told: equals unlikes atoms found pair atom -/
def b10 (T : Tab) : FS :=
 (sSeq (sAsg (.nm 3) (cLst aNil))
 (sSeq (sFor (.nm 4) (iValA (cBin .add (cSlot 0) (cSlot 1)))
 (sSeq (sExp (cBm .extend (cSlot 3) (aCons (cBlt .list1 (aCons (cSlot 4) aNil)) aNil)))
 sNil))
 (sSeq (sFor (.nm 5) (iValA (cSlot 2))
 (sSeq (sExp (cBm .extend (cSlot 3) (aCons (cBlt .list1 (aCons (cSlc (cSlot 5) (oSome (cCst (.int 1))) oNone) aNil)) aNil)))
 sNil))
 (sSeq (sRet (cSlot 3))
 sNil))))
/-- raw_names: claim term -/
def b11 (T : Tab) : FS :=
 (sSeq (sRet (cCall T true 6 (aCons (cLcm [1] (.nm 1) (iValA (cCall T false 10 (aCons (cIdx (cSlot 0) (cCst (.int 0))) (aCons (cIdx (cSlot 0) (cCst (.int 1))) (aCons (cIdx (cSlot 0) (cCst (.int 2))) aNil))))) (tCmpA .ne (cSlot 1) (cCst (.str s_w1))) (cSlot 1)) aNil)))
 sNil)
/-- is_claim: thing -/
def b12 (T : Tab) : FS :=
 (sSeq (sIf (tOrA (tNotA (tValA (cCall T true 2 (aCons (cSlot 0) (aCons (cCst (.int 3)) (aCons (cCst (.int 3)) aNil)))))) (tOrA (tNotA (tValA (cCall T true 8 (aCons (cIdx (cSlot 0) (cCst (.int 0))) aNil)))) (tOrA (tNotA (tValA (cCall T true 8 (aCons (cIdx (cSlot 0) (cCst (.int 1))) aNil)))) (tNotA (tValA (cCall T true 9 (aCons (cIdx (cSlot 0) (cCst (.int 2))) aNil)))))))
 (sSeq (sRet (cCst (.bl false)))
 sNil)
 sNil)
 (sSeq (sRet (cCmp .le (cBlt .len (aCons (cCall T true 11 (aCons (cSlot 0) aNil)) aNil)) (cCst (.int 5))))
 sNil))
/-- check_claim: thing -/
def b13 (T : Tab) : FS :=
 (sSeq (sIf (tNotA (tValA (cCall T true 12 (aCons (cSlot 0) aNil))))
 (sSeq sNever
 sNil)
 sNil)
 sNil)
/-- check_names: names -/
def b14 (T : Tab) : FS :=
 (sSeq (sIf (tNotA (tValA (cCall T true 5 (aCons (cSlot 0) (aCons (cCst (.int 5)) aNil)))))
 (sSeq sNever
 sNil)
 sNil)
 sNil)
/-- raw_partings: many found turn longer row number -/
def b15 (T : Tab) : FS :=
 (sSeq (sAsg (.nm 1) (cLst (aCons (cTup (aCons (cCst (.int 0)) aNil)) aNil)))
 (sSeq (sFor (.nm 2) (iRng1A (cSlot 0))
 (sSeq (sAsg (.nm 3) (cLst aNil))
 (sSeq (sFor (.nm 4) (iValA (cSlot 1))
 (sSeq (sExp (cBm .extend (cSlot 3) (aCons (cLcm [5] (.nm 5) (iRng1A (cBin .add (cBlt .max1 (aCons (cSlot 4) aNil)) (cCst (.int 2)))) tYesA (cBin .add (cSlot 4) (cTup (aCons (cSlot 5) aNil)))) aNil)))
 sNil))
 (sSeq (sAsg (.nm 1) (cSlot 3))
 sNil))))
 (sSeq (sRet (cSlot 1))
 sNil)))
/-- raw_classes_many: parting -/
def b16 (T : Tab) : FS :=
 (sSeq (sRet (cBin .add (cBlt .max1 (aCons (cSlot 0) aNil)) (cCst (.int 1))))
 sNil)
/-- class_table: names parting found -/
def b17 (T : Tab) : FS :=
 (sSeq (sAsg (.nm 2) (cBlt .dictZ (aCons (cSlot 0) (aCons (cSlc (cSlot 1) (oSome (cCst (.int 1))) oNone) aNil))))
 (sSeq (sSetI (cSlot 2) (cCst (.str s_w1)) (cCst (.int 0)))
 (sSeq (sRet (cSlot 2))
 sNil)))
/-- keeps_by: claim table x y -/
def b18 (T : Tab) : FS :=
 (sSeq (sIf (tNotA (tValA (cBlt .all1 (aCons (cLcm [2, 3] (.tp (.tcons (.nm 2) (.tcons (.nm 3) .tnil))) (iValA (cIdx (cSlot 0) (cCst (.int 0)))) tYesA (cCmp .eq (cIdx (cSlot 1) (cSlot 2)) (cIdx (cSlot 1) (cSlot 3)))) aNil))))
 (sSeq (sRet (cCst (.bl false)))
 sNil)
 sNil)
 (sSeq (sRet (cNot (cBlt .any1 (aCons (cLcm [2, 3] (.tp (.tcons (.nm 2) (.tcons (.nm 3) .tnil))) (iValA (cIdx (cSlot 0) (cCst (.int 1)))) tYesA (cCmp .eq (cIdx (cSlot 1) (cSlot 2)) (cIdx (cSlot 1) (cSlot 3)))) aNil))))
 sNil))
/-- live_by: claim table found number word x y -/
def b19 (T : Tab) : FS :=
 (sSeq (sAsg (.nm 2) (cLst aNil))
 (sSeq (sFor (.tp (.tcons (.nm 3) (.tcons (.tp (.tcons (.nm 4) (.tcons (.nm 5) (.tcons (.nm 6) .tnil)))) .tnil))) (iEnmA (cIdx (cSlot 0) (cCst (.int 2))))
 (sSeq (sIf (tOrA (tCmpA .ne (cSlot 4) (cCst (.str s_w2))) (tCmpA .ne (cIdx (cSlot 1) (cSlot 5)) (cIdx (cSlot 1) (cSlot 6))))
 (sSeq (sExp (cBm .append (cSlot 2) (aCons (cSlot 3) aNil)))
 sNil)
 sNil)
 sNil))
 (sSeq (sRet (cSlot 2))
 sNil)))
/-- dead_by: claim table live i at j -/
def b20 (T : Tab) : FS :=
 (sSeq (sAsg (.nm 2) (cCall T false 19 (aCons (cSlot 0) (aCons (cSlot 1) aNil))))
 (sSeq (sFor (.nm 3) (iValA (cSlot 2))
 (sSeq (sIf (tCmpA .eq (cIdx (cSlot 1) (cIdx (cIdx (cIdx (cSlot 0) (cCst (.int 2))) (cSlot 3)) (cCst (.int 1)))) (cCst (.int 0)))
 (sSeq (sRet (cTup (aCons (cCst (.str s_w1)) (aCons (cSlot 3) aNil))))
 sNil)
 sNil)
 sNil))
 (sSeq (sFor (.tp (.tcons (.nm 4) (.tcons (.nm 3) .tnil))) (iEnmA (cSlot 2))
 (sSeq (sFor (.nm 5) (iValA (cSlc (cSlot 2) (oSome (cBin .add (cSlot 4) (cCst (.int 1)))) oNone))
 (sSeq (sIf (tCmpA .eq (cIdx (cSlot 1) (cIdx (cIdx (cIdx (cSlot 0) (cCst (.int 2))) (cSlot 3)) (cCst (.int 1)))) (cIdx (cSlot 1) (cIdx (cIdx (cIdx (cSlot 0) (cCst (.int 2))) (cSlot 5)) (cCst (.int 1)))))
 (sSeq (sRet (cTup (aCons (cCst (.str s_w3)) (aCons (cSlot 3) (aCons (cSlot 5) aNil)))))
 sNil)
 sNil)
 sNil))
 sNil))
 (sSeq (sRet (cCst .non))
 sNil))))
/-- heap_by: edges row first_new cells at new begin word end told middle -/
def b21 (T : Tab) : FS :=
 (sSeq (sPar [3, 4, 5] (aCons (cLst aNil) (aCons (cCst (.int 0)) (aCons (cSlot 2) aNil))))
 (sSeq (sFor (.tp (.tcons (.nm 6) (.tcons (.nm 7) (.tcons (.nm 8) .tnil)))) (iValA (cSlot 0))
 (sSeq (sIf (tCmpA .ne (cSlot 7) (cCst (.str s_w2)))
 (sSeq (sExp (cBm .append (cSlot 3) (aCons (cTup (aCons (cSlot 6) (aCons (cSlot 8) aNil))) aNil)))
 (sSeq sCont
 sNil))
 sNil)
 (sSeq (sAsg (.nm 9) (cIdx (cSlot 1) (cSlot 4)))
 (sSeq (sAug 4 .add (cCst (.int 1)))
 (sSeq (sIf (tCmpA .eq (cSlot 9) (cCst (.str s_w4)))
 (sSeq (sExp (cBm .append (cSlot 3) (aCons (cTup (aCons (cSlot 6) (aCons (cSlot 8) aNil))) aNil)))
 sNil)
 (sSeq (sAsg (.nm 10) (cIfe (tCmpA .eq (cSlot 9) (cCst (.str s_w5))) (cSlot 5) (cSlot 9)))
 (sSeq (sAug 5 .add (cBlt .int1 (aCons (cCmp .eq (cSlot 9) (cCst (.str s_w5))) aNil)))
 (sSeq (sExp (cBm .extend (cSlot 3) (aCons (cLst (aCons (cTup (aCons (cSlot 6) (aCons (cSlot 10) aNil))) (aCons (cTup (aCons (cSlot 10) (aCons (cSlot 8) aNil))) aNil))) aNil)))
 sNil))))
 sNil)))))
 (sSeq (sRet (cBlt .tuple1 (aCons (cBlt .sorted1 (aCons (cSlot 3) aNil)) aNil)))
 sNil)))
/-- edges_by: claim table i -/
def b22 (T : Tab) : FS :=
 (sSeq (sRet (cLcm [2] (.nm 2) (iValA (cCall T false 19 (aCons (cSlot 0) (aCons (cSlot 1) aNil)))) tYesA (cTup (aCons (cIdx (cSlot 1) (cIdx (cIdx (cIdx (cSlot 0) (cCst (.int 2))) (cSlot 2)) (cCst (.int 1)))) (aCons (cIdx (cIdx (cIdx (cSlot 0) (cCst (.int 2))) (cSlot 2)) (cCst (.int 0))) (aCons (cIdx (cSlot 1) (cIdx (cIdx (cIdx (cSlot 0) (cCst (.int 2))) (cSlot 2)) (cCst (.int 2)))) aNil))))))
 sNil)
/-- live_partings: one names found parting table -/
def b23 (T : Tab) : FS :=
 (sSeq (sAsg (.nm 2) (cLst aNil))
 (sSeq (sFor (.nm 3) (iValA (cCall T false 15 (aCons (cBlt .len (aCons (cSlot 1) aNil)) aNil)))
 (sSeq (sAsg (.nm 4) (cCall T false 17 (aCons (cSlot 1) (aCons (cSlot 3) aNil))))
 (sSeq (sIf (tValA (cCall T false 18 (aCons (cSlot 0) (aCons (cSlot 4) aNil))))
 (sSeq (sExp (cBm .append (cSlot 2) (aCons (cTup (aCons (cSlot 3) (aCons (cSlot 4) aNil))) aNil)))
 sNil)
 sNil)
 sNil)))
 (sSeq (sRet (cSlot 2))
 sNil)))
/-- is_test: thing -/
def b24 (T : Tab) : FS :=
 (sSeq (sIf (tOrA (tNotA (tValA (cCall T true 2 (aCons (cSlot 0) (aCons (cCst (.int 3)) (aCons (cCst (.int 3)) aNil)))))) (tOrA (tNotA (tValA (cIsi .str (cIdx (cSlot 0) (cCst (.int 0)))))) (tCmpA .notin (cIdx (cSlot 0) (cCst (.int 0))) (cTup (aCons (cCst (.str s_w7)) (aCons (cCst (.str s_w6)) aNil))))))
 (sSeq (sRet (cCst (.bl false)))
 sNil)
 sNil)
 (sSeq (sRet (cAnd (cCall T true 1 (aCons (cIdx (cSlot 0) (cCst (.int 1))) aNil)) (cAnd (cCall T true 1 (aCons (cIdx (cSlot 0) (cCst (.int 2))) aNil)) (cCmp .ne (cIdx (cSlot 0) (cCst (.int 1))) (cIdx (cSlot 0) (cCst (.int 2)))))))
 sNil))
/-- is_plain_deed: thing -/
def b25 (T : Tab) : FS :=
 (sSeq (sIf (tOrA (tNotA (tValA (cIsi .tup (cSlot 0)))) (tOrA (tCmpA .lt (cBlt .len (aCons (cSlot 0) aNil)) (cCst (.int 2))) (tNotA (tValA (cIsi .str (cIdx (cSlot 0) (cCst (.int 0))))))))
 (sSeq (sRet (cCst (.bl false)))
 sNil)
 sNil)
 (sSeq (sIf (tCmpA .eq (cIdx (cSlot 0) (cCst (.int 0))) (cCst (.str s_w9)))
 (sSeq (sRet (cAnd (cCmp .eq (cBlt .len (aCons (cSlot 0) aNil)) (cCst (.int 2))) (cCall T true 0 (aCons (cIdx (cSlot 0) (cCst (.int 1))) aNil))))
 sNil)
 sNil)
 (sSeq (sIf (tOrA (tCmpA .notin (cIdx (cSlot 0) (cCst (.int 0))) (cCst (.tup (u_PLAIN_DEEDS.map .str)))) (tOrA (tCmpA .ne (cBlt .len (aCons (cSlot 0) aNil)) (cCst (.int 3))) (tNotA (tValA (cCall T true 0 (aCons (cIdx (cSlot 0) (cCst (.int 1))) aNil))))))
 (sSeq (sRet (cCst (.bl false)))
 sNil)
 sNil)
 (sSeq (sRet (cIfe (tCmpA .eq (cIdx (cSlot 0) (cCst (.int 0))) (cCst (.str s_w8))) (cCall T true 0 (aCons (cIdx (cSlot 0) (cCst (.int 2))) aNil)) (cCall T true 1 (aCons (cIdx (cSlot 0) (cCst (.int 2))) aNil))))
 sNil))))
/-- has_deed_form: thing -/
def b26 (T : Tab) : FS :=
 (sSeq (sIf (tValA (cCall T true 25 (aCons (cSlot 0) aNil)))
 (sSeq (sRet (cCst (.bl true)))
 sNil)
 sNil)
 (sSeq (sIf (tOrA (tNotA (tValA (cCall T true 2 (aCons (cSlot 0) (aCons (cCst (.int 4)) (aCons (cCst (.int 4)) aNil)))))) (tOrA (tNotA (tValA (cIsi .str (cIdx (cSlot 0) (cCst (.int 0)))))) (tCmpA .notin (cIdx (cSlot 0) (cCst (.int 0))) (cTup (aCons (cCst (.str s_w11)) (aCons (cCst (.str s_w10)) aNil))))))
 (sSeq (sRet (cCst (.bl false)))
 sNil)
 sNil)
 (sSeq (sIf (tOrA (tNotA (tValA (cCall T true 24 (aCons (cIdx (cSlot 0) (cCst (.int 1))) aNil)))) (tNotA (tValA (cIsi .tup (cIdx (cSlot 0) (cCst (.int 3)))))))
 (sSeq (sRet (cCst (.bl false)))
 sNil)
 sNil)
 (sSeq (sRet (cIfe (tCmpA .eq (cIdx (cSlot 0) (cCst (.int 0))) (cCst (.str s_w10))) (cCall T true 12 (aCons (cIdx (cSlot 0) (cCst (.int 2))) aNil)) (cIsi .tup (cIdx (cSlot 0) (cCst (.int 2))))))
 sNil))))
/-- lists_within: deed -/
def b27 (T : Tab) : FS :=
 (sSeq (sIf (tCmpA .eq (cIdx (cSlot 0) (cCst (.int 0))) (cCst (.str s_w11)))
 (sSeq (sRet (cLst (aCons (cIdx (cSlot 0) (cCst (.int 2))) (aCons (cIdx (cSlot 0) (cCst (.int 3))) aNil))))
 sNil)
 sNil)
 (sSeq (sRet (cIfe (tCmpA .eq (cIdx (cSlot 0) (cCst (.int 0))) (cCst (.str s_w10))) (cLst (aCons (cIdx (cSlot 0) (cCst (.int 3))) aNil)) (cLst aNil)))
 sNil))
/-- has_shape: thing many waiting one deeds deep is_in_if inner -/
def b28 (T : Tab) : FS :=
 (sSeq (sIf (tNotA (tValA (cIsi .tup (cSlot 0))))
 (sSeq (sRet (cCst (.bl false)))
 sNil)
 sNil)
 (sSeq (sPar [1, 2] (aCons (cCst (.int 0)) (aCons (cLst (aCons (cTup (aCons (cSlot 0) (aCons (cCst (.int 1)) (aCons (cCst (.bl false)) aNil)))) aNil)) aNil)))
 (sSeq (loopW (tCmpA .gt (cBlt .len (aCons (cSlot 2) aNil)) (cCst (.int 0)))
 (sSeq (sAsg (.tp (.tcons (.nm 4) (.tcons (.nm 5) (.tcons (.nm 6) .tnil)))) (cBm .pop0 (cSlot 2) aNil))
 (sSeq (sAug 1 .add (cBlt .len (aCons (cSlot 4) aNil)))
 (sSeq (sIf (tOrA (tCmpA .gt (cSlot 1) (cCst (.int 40))) (tOrA (tCmpA .gt (cSlot 5) (cCst (.int 5))) (tNotA (tValA (cBlt .all1 (aCons (cLcm [3] (.nm 3) (iValA (cSlot 4)) tYesA (cCall T true 26 (aCons (cSlot 3) aNil))) aNil))))))
 (sSeq (sRet (cCst (.bl false)))
 sNil)
 sNil)
 (sSeq (sIf (tAndA (tValA (cSlot 6)) (tValA (cBlt .any1 (aCons (cLcm [3] (.nm 3) (iValA (cSlot 4)) tYesA (cCmp .eq (cIdx (cSlot 3) (cCst (.int 0))) (cCst (.str s_w10)))) aNil))))
 (sSeq (sRet (cCst (.bl false)))
 sNil)
 sNil)
 (sSeq (sFor (.nm 3) (iValA (cSlot 4))
 (sSeq (sExp (cBm .extend (cSlot 2) (aCons (cLcm [7] (.nm 7) (iValA (cCall T false 27 (aCons (cSlot 3) aNil))) tYesA (cTup (aCons (cSlot 7) (aCons (cBin .add (cSlot 5) (cCst (.int 1))) (aCons (cOr (cSlot 6) (cCmp .eq (cIdx (cSlot 3) (cCst (.int 0))) (cCst (.str s_w11)))) aNil))))) aNil)))
 sNil))
 sNil))))) T.fuel)
 (sSeq (sRet (cCst (.bl true)))
 sNil))))
/-- all_deeds: deeds found waiting one -/
def b29 (T : Tab) : FS :=
 (sSeq (sPar [1, 2] (aCons (cLst aNil) (aCons (cLst (aCons (cSlot 0) aNil)) aNil)))
 (sSeq (loopW (tCmpA .gt (cBlt .len (aCons (cSlot 2) aNil)) (cCst (.int 0)))
 (sSeq (sFor (.nm 3) (iValA (cBm .pop0 (cSlot 2) aNil))
 (sSeq (sExp (cBm .append (cSlot 1) (aCons (cSlot 3) aNil)))
 (sSeq (sExp (cBm .extend (cSlot 2) (aCons (cCall T false 27 (aCons (cSlot 3) aNil)) aNil)))
 sNil)))
 sNil) T.fuel)
 (sSeq (sRet (cSlot 1))
 sNil)))
/-- terms_of: deed found -/
def b30 (T : Tab) : FS :=
 (sSeq (sIf (tCmpA .notin (cIdx (cSlot 0) (cCst (.int 0))) (cTup (aCons (cCst (.str s_w11)) (aCons (cCst (.str s_w10)) aNil))))
 (sSeq (sRet (cBlt .list1 (aCons (cSlc (cSlot 0) (oSome (cCst (.int 1))) oNone) aNil)))
 sNil)
 sNil)
 (sSeq (sAsg (.nm 1) (cBlt .list1 (aCons (cSlc (cIdx (cSlot 0) (cCst (.int 1))) (oSome (cCst (.int 1))) oNone) aNil)))
 (sSeq (sRet (cIfe (tCmpA .eq (cIdx (cSlot 0) (cCst (.int 0))) (cCst (.str s_w10))) (cBin .add (cSlot 1) (cCall T false 10 (aCons (cIdx (cIdx (cSlot 0) (cCst (.int 2))) (cCst (.int 0))) (aCons (cIdx (cIdx (cSlot 0) (cCst (.int 2))) (cCst (.int 1))) (aCons (cIdx (cIdx (cSlot 0) (cCst (.int 2))) (cCst (.int 2))) aNil))))) (cSlot 1)))
 sNil)))
/-- raw_used: deeds found one term -/
def b31 (T : Tab) : FS :=
 (sSeq (sAsg (.nm 1) (cLst aNil))
 (sSeq (sFor (.nm 2) (iValA (cCall T false 29 (aCons (cSlot 0) aNil)))
 (sSeq (sExp (cBm .extend (cSlot 1) (aCons (cLcm [3] (.nm 3) (iValA (cCall T false 30 (aCons (cSlot 2) aNil))) (tCmpA .ne (cSlot 3) (cCst (.str s_w1))) (cSlot 3)) aNil)))
 sNil))
 (sSeq (sRet (cCall T true 6 (aCons (cSlot 1) aNil)))
 sNil)))
/-- is_program: thing -/
def b32 (T : Tab) : FS :=
 (sSeq (sRet (cAnd (cCall T true 28 (aCons (cSlot 0) aNil)) (cCmp .le (cBlt .len (aCons (cCall T true 31 (aCons (cSlot 0) aNil)) aNil)) (cCst (.int 5)))))
 sNil)
/-- are_straight: thing one -/
def b33 (T : Tab) : FS :=
 (sSeq (sRet (cAnd (cCall T true 32 (aCons (cSlot 0) aNil)) (cNot (cBlt .any1 (aCons (cLcm [1] (.nm 1) (iValA (cCall T false 29 (aCons (cSlot 0) aNil))) tYesA (cCmp .eq (cIdx (cSlot 1) (cCst (.int 0))) (cCst (.str s_w10)))) aNil)))))
 sNil)
/-- raw_pictures: claim names found parting table edges -/
def b34 (T : Tab) : FS :=
 (sSeq (sAsg (.nm 2) (cLst aNil))
 (sSeq (sFor (.tp (.tcons (.nm 3) (.tcons (.nm 4) .tnil))) (iValA (cCall T false 23 (aCons (cSlot 0) (aCons (cSlot 1) aNil))))
 (sSeq (sIf (tCmpA .isN (cCall T false 20 (aCons (cSlot 0) (aCons (cSlot 4) aNil))) (cCst .non))
 (sSeq (sAsg (.nm 5) (cBlt .tuple1 (aCons (cBlt .sorted1 (aCons (cCall T false 22 (aCons (cSlot 0) (aCons (cSlot 4) aNil))) aNil)) aNil)))
 (sSeq (sExp (cBm .append (cSlot 2) (aCons (cTup (aCons (cCall T true 16 (aCons (cSlot 3) aNil)) (aCons (cBlt .tupleZ (aCons (cSlot 1) (aCons (cSlc (cSlot 3) (oSome (cCst (.int 1))) oNone) aNil))) (aCons (cSlot 5) (aCons (cTup aNil) aNil))))) aNil)))
 sNil))
 sNil)
 sNil))
 (sSeq (sRet (cSlot 2))
 sNil)))
/-- Track.__init__: self picture many names edges bare node begin word end -/
def b35 (T : Tab) : FS :=
 (sSeq (sAsg (.tp (.tcons (.nm 2) (.tcons (.nm 3) (.tcons (.nm 4) (.tcons (.nm 5) .tnil))))) (cSlot 1))
 (sSeq (sSetF 1 (cSlot 0) (cSlot 2))
 (sSeq (sSetF 2 (cSlot 0) (cBlt .dict1 (aCons (cSlot 3) aNil)))
 (sSeq (sSetF 3 (cSlot 0) (cDcm [7, 8, 9] (.tp (.tcons (.nm 7) (.tcons (.nm 8) (.tcons (.nm 9) .tnil)))) (iValA (cSlot 4)) tYesA (cSlot 7) (cTup (aCons (cSlot 8) (aCons (cSlot 9) aNil)))))
 (sSeq (sSetF 4 (cSlot 0) (cBlt .dict1 (aCons (cSlot 3) aNil)))
 (sSeq (sSetF 5 (cSlot 0) (cBlt .dict1 (aCons (cFld 3 (cSlot 0)) aNil)))
 (sSeq (sSetF 6 (cSlot 0) (cDcm [6] (.nm 6) (iValA (cSlot 5)) tYesA (cSlot 6) (cCst (.bl true))))
 (sSeq (sSetF 7 (cSlot 0) (cLst aNil))
 sNil))))))))
/-- Track.twin: self found -/
def b36 (T : Tab) : FS :=
 (sSeq (sAsg (.nm 1) (cMk T 0 (aCons (cTup (aCons (cFld 1 (cSlot 0)) (aCons (cTup aNil) (aCons (cTup aNil) (aCons (cTup aNil) aNil))))) aNil)))
 (sSeq (sSetF 2 (cSlot 1) (cBlt .dict1 (aCons (cFld 2 (cSlot 0)) aNil)))
 (sSeq (sSetF 3 (cSlot 1) (cBlt .dict1 (aCons (cFld 3 (cSlot 0)) aNil)))
 (sSeq (sSetF 4 (cSlot 1) (cBlt .dict1 (aCons (cFld 4 (cSlot 0)) aNil)))
 (sSeq (sSetF 5 (cSlot 1) (cBlt .dict1 (aCons (cFld 5 (cSlot 0)) aNil)))
 (sSeq (sSetF 6 (cSlot 1) (cBlt .dict1 (aCons (cFld 6 (cSlot 0)) aNil)))
 (sSeq (sSetF 7 (cSlot 1) (cBlt .list1 (aCons (cFld 7 (cSlot 0)) aNil)))
 (sSeq (sRet (cSlot 1))
 sNil))))))))
/-- Track.node_of: self term -/
def b37 (T : Tab) : FS :=
 (sSeq (sRet (cIfe (tCmpA .eq (cSlot 1) (cCst (.str s_w1))) (cCst (.int 0)) (cIdx (cFld 4 (cSlot 0)) (cSlot 1))))
 sNil)
/-- Track.fresh_node: self -/
def b38 (T : Tab) : FS :=
 (sSeq (sIf (tCmpA .eq (cFld 1 (cSlot 0)) (cCst (.int 50)))
 (sSeq sNever
 sNil)
 sNil)
 (sSeq (sAugF 1 .add (cSlot 0) (cCst (.int 1)))
 (sSeq (sRet (cBin .sub (cFld 1 (cSlot 0)) (cCst (.int 1))))
 sNil)))
/-- Track.set_both: self node edge -/
def b39 (T : Tab) : FS :=
 (sSeq (sSetI (cFld 3 (cSlot 0)) (cSlot 1) (cSlot 2))
 (sSeq (sSetI (cFld 5 (cSlot 0)) (cSlot 1) (cSlot 2))
 sNil))
/-- Track.picture: self names edges name node -/
def b40 (T : Tab) : FS :=
 (sSeq (sAsg (.nm 1) (cBlt .tuple1 (aCons (cLcm [3] (.nm 3) (iValA (cBlt .sorted1 (aCons (cFld 4 (cSlot 0)) aNil))) tYesA (cTup (aCons (cSlot 3) (aCons (cIdx (cFld 4 (cSlot 0)) (cSlot 3)) aNil)))) aNil)))
 (sSeq (sAsg (.nm 2) (cBlt .tuple1 (aCons (cLcm [4] (.nm 4) (iValA (cBlt .sorted1 (aCons (cFld 5 (cSlot 0)) aNil))) tYesA (cBin .add (cTup (aCons (cSlot 4) aNil)) (cIdx (cFld 5 (cSlot 0)) (cSlot 4)))) aNil)))
 (sSeq (sRet (cTup (aCons (cFld 1 (cSlot 0)) (aCons (cSlot 1) (aCons (cSlot 2) (aCons (cBlt .tuple1 (aCons (cBlt .sorted1 (aCons (cFld 6 (cSlot 0)) aNil)) aNil)) aNil))))))
 sNil)))
/-- opened_tracks: track node fresh found place word end one other more -/
def b41 (T : Tab) : FS :=
 (sSeq (sAsg (.tp (.tcons (.nm 5) (.tcons (.nm 6) .tnil))) (cIdx (cFld 5 (cSlot 0)) (cSlot 1)))
 (sSeq (sIf (tCmpA .eq (cSlot 5) (cCst (.str s_w12)))
 (sSeq (sRet (cLst (aCons (cSlot 0) aNil)))
 sNil)
 sNil)
 (sSeq (sPar [7, 8] (aCons (cUm T 1 (cSlot 0) aNil) (aCons (cUm T 1 (cSlot 0) aNil) aNil)))
 (sSeq (sExp (cUm T 4 (cSlot 7) (aCons (cSlot 1) (aCons (cTup (aCons (cCst (.str s_w12)) (aCons (cSlot 6) aNil))) aNil))))
 (sSeq (sAsg (.nm 2) (cUm T 3 (cSlot 8) aNil))
 (sSeq (sExp (cUm T 4 (cSlot 8) (aCons (cSlot 1) (aCons (cTup (aCons (cCst (.str s_w12)) (aCons (cSlot 2) aNil))) aNil))))
 (sSeq (sExp (cUm T 4 (cSlot 8) (aCons (cSlot 2) (aCons (cTup (aCons (cCst (.str s_w2)) (aCons (cSlot 6) aNil))) aNil))))
 (sSeq (sAsg (.nm 3) (cLst (aCons (cSlot 7) (aCons (cSlot 8) aNil))))
 (sSeq (sFor (.nm 4) (iRng2A (cCst (.int 1)) (cFld 1 (cSlot 0)))
 (sSeq (sIf (tAndA (tCmpA .notin (cSlot 4) (cFld 5 (cSlot 0))) (tAndA (tCmpA .notin (cSlot 4) (cFld 6 (cSlot 0))) (tCmpA .ne (cSlot 4) (cSlot 6))))
 (sSeq (sAsg (.nm 9) (cUm T 1 (cSlot 0) aNil))
 (sSeq (sExp (cUm T 4 (cSlot 9) (aCons (cSlot 1) (aCons (cTup (aCons (cCst (.str s_w12)) (aCons (cSlot 4) aNil))) aNil))))
 (sSeq (sExp (cUm T 4 (cSlot 9) (aCons (cSlot 4) (aCons (cTup (aCons (cCst (.str s_w2)) (aCons (cSlot 6) aNil))) aNil))))
 (sSeq (sExp (cBm .append (cSlot 3) (aCons (cSlot 9) aNil)))
 sNil))))
 sNil)
 sNil))
 (sSeq (sRet (cSlot 3))
 sNil))))))))))
/-- new_tracks: track deed rows target fresh one place -/
def b42 (T : Tab) : FS :=
 (sSeq (sPar [3, 4] (aCons (cUm T 2 (cSlot 0) (aCons (cIdx (cSlot 1) (cCst (.int 2))) aNil)) (aCons (cUm T 1 (cSlot 0) aNil) aNil)))
 (sSeq (sAsg (.nm 2) (cLst (aCons (cTup (aCons (cSlot 4) (aCons (cUm T 3 (cSlot 4) aNil) aNil))) aNil)))
 (sSeq (sExp (cBm .extend (cSlot 2) (aCons (cLcm [6] (.nm 6) (iRng2A (cCst (.int 1)) (cFld 1 (cSlot 0))) (tCmpA .notin (cSlot 6) (cFld 5 (cSlot 0))) (cTup (aCons (cUm T 1 (cSlot 0) aNil) (aCons (cSlot 6) aNil)))) aNil)))
 (sSeq (sFor (.tp (.tcons (.nm 5) (.tcons (.nm 6) .tnil))) (iValA (cSlot 2))
 (sSeq (sSetI (cFld 5 (cSlot 5)) (cSlot 6) (cTup (aCons (cCst (.str s_w12)) (aCons (cSlot 3) aNil))))
 (sSeq (sExp (cBm .dpop2 (cFld 6 (cSlot 5)) (aCons (cSlot 6) (aCons (cCst .non) aNil))))
 (sSeq (sSetI (cFld 4 (cSlot 5)) (cIdx (cSlot 1) (cCst (.int 1))) (cSlot 6))
 (sSeq (sExp (cBm .append (cFld 7 (cSlot 5)) (aCons (cSlot 6) aNil)))
 sNil)))))
 (sSeq (sRet (cLcm [5, 6] (.tp (.tcons (.nm 5) (.tcons (.nm 6) .tnil))) (iValA (cSlot 2)) tYesA (cSlot 5)))
 sNil)))))
/-- done_tracks: track deed node found some one -/
def b43 (T : Tab) : FS :=
 (sSeq (sIf (tCmpA .eq (cIdx (cSlot 1) (cCst (.int 0))) (cCst (.str s_w14)))
 (sSeq (sAsg (.nm 5) (cUm T 1 (cSlot 0) aNil))
 (sSeq (sSetI (cFld 4 (cSlot 5)) (cIdx (cSlot 1) (cCst (.int 1))) (cUm T 2 (cSlot 0) (aCons (cIdx (cSlot 1) (cCst (.int 2))) aNil)))
 (sSeq (sRet (cLst (aCons (cSlot 5) aNil)))
 sNil)))
 sNil)
 (sSeq (sIf (tCmpA .eq (cIdx (cSlot 1) (cCst (.int 0))) (cCst (.str s_w5)))
 (sSeq (sRet (cCall T false 42 (aCons (cSlot 0) (aCons (cSlot 1) aNil))))
 sNil)
 sNil)
 (sSeq (sAsg (.nm 2) (cUm T 2 (cSlot 0) (aCons (cIfe (tCmpA .eq (cIdx (cSlot 1) (cCst (.int 0))) (cCst (.str s_w8))) (cIdx (cSlot 1) (cCst (.int 2))) (cIdx (cSlot 1) (cCst (.int 1)))) aNil)))
 (sSeq (sIf (tCmpA .notin (cSlot 2) (cFld 5 (cSlot 0)))
 (sSeq (sRet (cCst .non))
 sNil)
 sNil)
 (sSeq (sAsg (.nm 3) (cLst aNil))
 (sSeq (sFor (.nm 4) (iValA (cCall T false 41 (aCons (cSlot 0) (aCons (cSlot 2) aNil))))
 (sSeq (sAsg (.nm 5) (cUm T 1 (cSlot 4) aNil))
 (sSeq (sIf (tCmpA .eq (cIdx (cSlot 1) (cCst (.int 0))) (cCst (.str s_w8)))
 (sSeq (sSetI (cFld 4 (cSlot 5)) (cIdx (cSlot 1) (cCst (.int 1))) (cIdx (cIdx (cFld 5 (cSlot 5)) (cSlot 2)) (cCst (.int 1))))
 sNil)
 (sSeq (sIf (tCmpA .eq (cIdx (cSlot 1) (cCst (.int 0))) (cCst (.str s_w13)))
 (sSeq (sSetI (cFld 5 (cSlot 5)) (cSlot 2) (cTup (aCons (cCst (.str s_w12)) (aCons (cUm T 2 (cSlot 5) (aCons (cIdx (cSlot 1) (cCst (.int 2))) aNil)) aNil))))
 sNil)
 (sSeq (sExp (cBm .dpop1 (cFld 5 (cSlot 5)) (aCons (cSlot 2) aNil)))
 (sSeq (sSetI (cFld 6 (cSlot 5)) (cSlot 2) (cCst (.bl true)))
 sNil)))
 sNil))
 (sSeq (sExp (cBm .append (cSlot 3) (aCons (cSlot 5) aNil)))
 sNil))))
 (sSeq (sRet (cSlot 3))
 sNil)))))))
/-- edges_of: table node -/
def b44 (T : Tab) : FS :=
 (sSeq (sRet (cLcm [1] (.nm 1) (iValA (cBlt .sorted1 (aCons (cSlot 0) aNil))) tYesA (cBin .add (cTup (aCons (cSlot 1) aNil)) (cIdx (cSlot 0) (cSlot 1)))))
 sNil)
/-- first_state: track row stack name -/
def b45 (T : Tab) : FS :=
 (sSeq (sAsg (.nm 2) (cBlt .tuple1 (aCons (cLcm [3] (.nm 3) (iValA (cBlt .sorted1 (aCons (cFld 2 (cSlot 0)) aNil))) tYesA (cTup (aCons (cSlot 3) (aCons (cIdx (cFld 2 (cSlot 0)) (cSlot 3)) aNil)))) aNil)))
 (sSeq (sRet (cTup (aCons (cSlot 2) (aCons (cCall T false 21 (aCons (cCall T false 44 (aCons (cFld 3 (cSlot 0)) aNil)) (aCons (cSlot 1) (aCons (cFld 1 (cSlot 0)) aNil)))) aNil))))
 sNil))
/-- past_ifs: track todo is_like way deed where at one -/
def b46 (T : Tab) : FS :=
 (sSeq (loopW (tAndA (tCmpA .gt (cBlt .len (aCons (cSlot 1) aNil)) (cCst (.int 0))) (tCmpA .eq (cIdx (cIdx (cIdx (cSlot 1) (cCst (.int 0))) (cCst (.int 0))) (cCst (.int 0))) (cCst (.str s_w11))))
 (sSeq (sAsg (.tp (.tcons (.nm 4) (.tcons (.nm 5) .tnil))) (cIdx (cSlot 1) (cCst (.int 0))))
 (sSeq (sAsg (.nm 2) (cCmp .eq (cUm T 2 (cSlot 0) (aCons (cIdx (cIdx (cSlot 4) (cCst (.int 1))) (cCst (.int 1))) aNil)) (cUm T 2 (cSlot 0) (aCons (cIdx (cIdx (cSlot 4) (cCst (.int 1))) (cCst (.int 2))) aNil))))
 (sSeq (sAsg (.nm 3) (cIfe (tCmpA .eq (cSlot 2) (cCmp .eq (cIdx (cIdx (cSlot 4) (cCst (.int 1))) (cCst (.int 0))) (cCst (.str s_w7)))) (cCst (.int 0)) (cCst (.int 1))))
 (sSeq (sAsg (.nm 1) (cBin .add (cLcm [6, 7] (.tp (.tcons (.nm 6) (.tcons (.nm 7) .tnil))) (iEnmA (cIdx (cSlot 4) (cBin .add (cCst (.int 2)) (cSlot 3)))) tYesA (cTup (aCons (cSlot 7) (aCons (cBin .add (cSlot 5) (cTup (aCons (cSlot 3) (aCons (cSlot 6) aNil)))) aNil)))) (cSlc (cSlot 1) (oSome (cCst (.int 1))) oNone)))
 sNil)))) T.fuel)
 (sSeq (sRet (cSlot 1))
 sNil))
/-- split_tracks: track node found begin bare word end one -/
def b47 (T : Tab) : FS :=
 (sSeq (sAsg (.nm 2) (cLst aNil))
 (sSeq (sFor (.nm 3) (iValA (cBlt .sorted1 (aCons (cFld 5 (cSlot 0)) aNil)))
 (sSeq (sAsg (.tp (.tcons (.nm 5) (.tcons (.nm 6) .tnil))) (cIdx (cFld 5 (cSlot 0)) (cSlot 3)))
 (sSeq (sIf (tAndA (tCmpA .eq (cSlot 5) (cCst (.str s_w2))) (tCmpA .ne (cSlot 6) (cSlot 1)))
 (sSeq (sAsg (.nm 7) (cUm T 1 (cSlot 0) aNil))
 (sSeq (sExp (cUm T 4 (cSlot 7) (aCons (cSlot 3) (aCons (cTup (aCons (cCst (.str s_w2)) (aCons (cSlot 1) aNil))) aNil))))
 (sSeq (sExp (cUm T 4 (cSlot 7) (aCons (cSlot 1) (aCons (cTup (aCons (cCst (.str s_w2)) (aCons (cSlot 6) aNil))) aNil))))
 (sSeq (sExp (cBm .append (cSlot 2) (aCons (cSlot 7) aNil)))
 sNil))))
 sNil)
 sNil)))
 (sSeq (sAsg (.nm 4) (cUm T 1 (cSlot 0) aNil))
 (sSeq (sSetI (cFld 6 (cSlot 4)) (cSlot 1) (cCst (.bl true)))
 (sSeq (sRet (cTup (aCons (cSlot 2) (aCons (cSlot 4) aNil))))
 sNil)))))
/-- needed_node: track deed -/
def b48 (T : Tab) : FS :=
 (sSeq (sIf (tCmpA .notin (cIdx (cSlot 1) (cCst (.int 0))) (cTup (aCons (cCst (.str s_w8)) (aCons (cCst (.str s_w13)) (aCons (cCst (.str s_w9)) aNil)))))
 (sSeq (sRet (cCst .non))
 sNil)
 sNil)
 (sSeq (sRet (cUm T 2 (cSlot 0) (aCons (cIfe (tCmpA .eq (cIdx (cSlot 1) (cCst (.int 0))) (cCst (.str s_w8))) (cIdx (cSlot 1) (cCst (.int 2))) (cIdx (cSlot 1) (cCst (.int 1)))) aNil)))
 sNil))
/-- all_ways: track deeds waiting found todo here node later some bare at deed one -/
def b49 (T : Tab) : FS :=
 (sSeq (sPar [2, 3] (aCons (cLst (aCons (cTup (aCons (cSlot 0) (aCons (cLcm [10, 11] (.tp (.tcons (.nm 10) (.tcons (.nm 11) .tnil))) (iEnmA (cSlot 1)) tYesA (cTup (aCons (cSlot 11) (aCons (cTup (aCons (cSlot 10) aNil)) aNil)))) aNil))) aNil)) (aCons (cLst aNil) aNil)))
 (sSeq (loopW (tCmpA .gt (cBlt .len (aCons (cSlot 2) aNil)) (cCst (.int 0)))
 (sSeq (sAsg (.tp (.tcons (.nm 5) (.tcons (.nm 4) .tnil))) (cBm .pop0 (cSlot 2) aNil))
 (sSeq (sAsg (.nm 4) (cCall T false 46 (aCons (cSlot 5) (aCons (cSlot 4) aNil))))
 (sSeq (sIf (tCmpA .eq (cBlt .len (aCons (cSlot 4) aNil)) (cCst (.int 0)))
 (sSeq (sExp (cBm .append (cSlot 3) (aCons (cTup (aCons (cSlot 5) (aCons (cCst (.bl false)) aNil))) aNil)))
 sNil)
 (sSeq (sAsg (.nm 6) (cCall T false 48 (aCons (cSlot 5) (aCons (cIdx (cIdx (cSlot 4) (cCst (.int 0))) (cCst (.int 0))) aNil))))
 (sSeq (sIf (tOrA (tCmpA .isN (cSlot 6) (cCst .non)) (tCmpA .isin (cSlot 6) (cFld 5 (cSlot 5))))
 (sSeq (sAsg (.nm 7) (cCall T false 43 (aCons (cSlot 5) (aCons (cIdx (cIdx (cSlot 4) (cCst (.int 0))) (cCst (.int 0))) aNil))))
 (sSeq (sExp (cBm .extend (cSlot 2) (aCons (cLcm [12] (.nm 12) (iValA (cRev (cSlot 7))) tYesA (cTup (aCons (cSlot 12) (aCons (cSlc (cSlot 4) (oSome (cCst (.int 1))) oNone) aNil)))) aNil)))
 sNil))
 (sSeq (sIf (tOrA (tCmpA .eq (cSlot 6) (cCst (.int 0))) (tCmpA .isin (cSlot 6) (cFld 6 (cSlot 5))))
 (sSeq (sExp (cBm .append (cSlot 3) (aCons (cTup (aCons (cSlot 5) (aCons (cCst (.bl true)) aNil))) aNil)))
 sNil)
 (sSeq (sAsg (.tp (.tcons (.nm 8) (.tcons (.nm 9) .tnil))) (cCall T false 47 (aCons (cSlot 5) (aCons (cSlot 6) aNil))))
 (sSeq (sExp (cBm .extend (cSlot 2) (aCons (cLcm [12] (.nm 12) (iValA (cRev (cSlot 8))) tYesA (cTup (aCons (cSlot 12) (aCons (cSlot 4) aNil)))) aNil)))
 (sSeq (sExp (cBm .append (cSlot 3) (aCons (cTup (aCons (cSlot 9) (aCons (cCst (.bl true)) aNil))) aNil)))
 sNil))))
 sNil))
 sNil)))
 (sSeq (sIf (tCmpA .gt (cBin .add (cBlt .len (aCons (cSlot 3) aNil)) (cBlt .len (aCons (cSlot 2) aNil))) (cCst (.int 1000)))
 (sSeq sNever
 sNil)
 sNil)
 sNil)))) T.fuel)
 (sSeq (sRet (cSlot 3))
 sNil)))
/-- begun_again: track names edges firsts bare edge name node -/
def b50 (T : Tab) : FS :=
 (sSeq (sAsg (.nm 1) (cBlt .tuple1 (aCons (cLcm [6] (.nm 6) (iValA (cBlt .sorted1 (aCons (cFld 2 (cSlot 0)) aNil))) tYesA (cTup (aCons (cSlot 6) (aCons (cIdx (cFld 2 (cSlot 0)) (cSlot 6)) aNil)))) aNil)))
 (sSeq (sAsg (.nm 2) (cBlt .tuple1 (aCons (cLcm [7] (.nm 7) (iValA (cBlt .sorted1 (aCons (cFld 3 (cSlot 0)) aNil))) tYesA (cBin .add (cTup (aCons (cSlot 7) aNil)) (cIdx (cFld 3 (cSlot 0)) (cSlot 7)))) aNil)))
 (sSeq (sAsg (.nm 3) (cDcm [5] (.nm 5) (iValA (cSlot 2)) tYesA (cIdx (cSlot 5) (cCst (.int 0))) (cCst (.bl true))))
 (sSeq (sAsg (.nm 4) (cBlt .tuple1 (aCons (cLcm [7] (.nm 7) (iValA (cBlt .sorted1 (aCons (cFld 6 (cSlot 0)) aNil))) (tCmpA .notin (cSlot 7) (cSlot 3)) (cSlot 7)) aNil)))
 (sSeq (sRet (cMk T 0 (aCons (cTup (aCons (cFld 1 (cSlot 0)) (aCons (cSlot 1) (aCons (cSlot 2) (aCons (cSlot 4) aNil))))) aNil)))
 sNil)))))
/-- refined_edges: track other node found known edge -/
def b51 (T : Tab) : FS :=
 (sSeq (sPar [3, 4] (aCons (cBlt .dict1 (aCons (cFld 5 (cSlot 0)) aNil)) (aCons (cFld 3 (cSlot 0)) aNil)))
 (sSeq (sFor (.nm 2) (iValA (cBlt .sorted1 (aCons (cFld 3 (cSlot 1)) aNil)))
 (sSeq (sAsg (.nm 5) (cIdx (cFld 3 (cSlot 1)) (cSlot 2)))
 (sSeq (sIf (tOrA (tCmpA .notin (cSlot 2) (cSlot 4)) (tCmpA .ne (cIdx (cSlot 4) (cSlot 2)) (cSlot 5)))
 (sSeq (sSetI (cSlot 3) (cSlot 2) (cSlot 5))
 sNil)
 sNil)
 sNil)))
 (sSeq (sRet (cSlot 3))
 sNil)))
/-- are_ends_alike: one is_wrong other is_other_wrong -/
def b52 (T : Tab) : FS :=
 (sSeq (sIf (tOrA (tValA (cSlot 1)) (tValA (cSlot 3)))
 (sSeq (sRet (cAnd (cSlot 1) (cSlot 3)))
 sNil)
 sNil)
 (sSeq (sRet (cAnd (cCmp .eq (cFld 4 (cSlot 0)) (cFld 4 (cSlot 2))) (cCmp .eq (cCall T false 51 (aCons (cSlot 0) (aCons (cSlot 2) aNil))) (cFld 5 (cSlot 2)))))
 sNil))
/-- raw_alike_deeds: begin one other names many picture track is_wrong last is_last_wrong -/
def b53 (T : Tab) : FS :=
 (sSeq (sAsg (.nm 4) (cCst (.int 0)))
 (sSeq (sFor (.nm 5) (iValA (cCall T false 34 (aCons (cSlot 0) (aCons (cSlot 3) aNil))))
 (sSeq (sFor (.tp (.tcons (.nm 6) (.tcons (.nm 7) .tnil))) (iValA (cCall T false 49 (aCons (cMk T 0 (aCons (cSlot 5) aNil)) (aCons (cSlot 1) aNil))))
 (sSeq (sFor (.tp (.tcons (.nm 8) (.tcons (.nm 9) .tnil))) (iValA (cCall T false 49 (aCons (cCall T false 50 (aCons (cSlot 6) aNil)) (aCons (cSlot 2) aNil))))
 (sSeq (sAug 4 .add (cCst (.int 1)))
 (sSeq (sIf (tCmpA .gt (cSlot 4) (cCst (.int 1000)))
 (sSeq sNever
 sNil)
 sNil)
 (sSeq (sIf (tNotA (tValA (cCall T false 52 (aCons (cSlot 6) (aCons (cSlot 7) (aCons (cSlot 8) (aCons (cSlot 9) aNil)))))))
 (sSeq (sRet (cTup (aCons (cCst (.str s_w16)) (aCons (cCall T false 45 (aCons (cSlot 8) (aCons (cBin .mul (cTup (aCons (cCst (.str s_w4)) aNil)) (cBlt .len (aCons (cFld 3 (cSlot 8)) aNil))) aNil))) aNil))))
 sNil)
 sNil)
 sNil))))
 sNil))
 sNil))
 (sSeq (sRet (cTup (aCons (cCst (.str s_w15)) (aCons (cSlot 4) aNil))))
 sNil)))
/-- check_both: begin one other names deeds name deed -/
def b54 (T : Tab) : FS :=
 (sSeq (sExp (cCall T true 13 (aCons (cSlot 0) aNil)))
 (sSeq (sFor (.nm 4) (iValA (cTup (aCons (cSlot 1) (aCons (cSlot 2) aNil))))
 (sSeq (sIf (tOrA (tNotA (tValA (cCall T true 33 (aCons (cSlot 4) aNil)))) (tValA (cBlt .any1 (aCons (cLcm [6] (.nm 6) (iValA (cCall T false 29 (aCons (cSlot 4) aNil))) tYesA (cCmp .eq (cIdx (cSlot 6) (cCst (.int 0))) (cCst (.str s_w5)))) aNil))))
 (sSeq sNever
 sNil)
 sNil)
 sNil))
 (sSeq (sExp (cCall T true 14 (aCons (cSlot 3) aNil)))
 (sSeq (sIf (tNotA (tValA (cBlt .all1 (aCons (cLcm [5] (.nm 5) (iValA (cBin .add (cBin .add (cCall T true 11 (aCons (cSlot 0) aNil)) (cCall T true 31 (aCons (cSlot 1) aNil))) (cCall T true 31 (aCons (cSlot 2) aNil)))) tYesA (cCmp .isin (cSlot 5) (cSlot 3))) aNil))))
 (sSeq sNever
 sNil)
 sNil)
 sNil))))
/-- alike_deeds: begin one other names -/
def b55 (T : Tab) : FS :=
 (sSeq (sExp (cCall T true 54 (aCons (cSlot 0) (aCons (cSlot 1) (aCons (cSlot 2) (aCons (cSlot 3) aNil))))))
 (sSeq (sRet (cCall T true 53 (aCons (cSlot 0) (aCons (cSlot 1) (aCons (cSlot 2) (aCons (cSlot 3) aNil))))))
 sNil))
/-- needless_deeds: begin deeds names found at -/
def b56 (T : Tab) : FS :=
 (sSeq (sExp (cCall T true 54 (aCons (cSlot 0) (aCons (cSlot 1) (aCons (cSlot 1) (aCons (cSlot 2) aNil))))))
 (sSeq (sAsg (.nm 3) (cLst aNil))
 (sSeq (sFor (.nm 4) (iRng1A (cBlt .len (aCons (cSlot 1) aNil)))
 (sSeq (sIf (tCmpA .eq (cIdx (cCall T true 53 (aCons (cSlot 0) (aCons (cSlot 1) (aCons (cBin .add (cSlc (cSlot 1) oNone (oSome (cSlot 4))) (cSlc (cSlot 1) (oSome (cBin .add (cSlot 4) (cCst (.int 1)))) oNone)) (aCons (cSlot 2) aNil))))) (cCst (.int 0))) (cCst (.str s_w15)))
 (sSeq (sExp (cBm .append (cSlot 3) (aCons (cSlot 4) aNil)))
 sNil)
 sNil)
 sNil))
 (sSeq (sRet (cBlt .tuple1 (aCons (cSlot 3) aNil)))
 sNil))))
/-- _law_hand: script cells_own digit_own -/
def b57 (T : Tab) : FS :=
 (sSeq (sAsg (.nm 1) (cLcm [2] (.nm 2) (iValA (cSlc (cSlot 0) oNone (oSome (cCst (.int 63))))) tYesA (cBlt .abs1 (aCons (cBlt .int1 (aCons (cSlot 2) aNil)) aNil))))
 (sSeq (sRet (cLst (aCons (cSlot 1) (aCons (cCst (.int 0)) (aCons (cCst (.int 0)) (aCons (cBin .add (cCst (.int 5531)) (cBin .mul (cCst (.int 7)) (cBlt .len (aCons (cSlot 1) aNil)))) (aCons (cCst (.int 0)) aNil)))))))
 sNil))
/-- _law_draw: hand below number digit_own digit -/
def b58 (T : Tab) : FS :=
 (sSeq (sIf (tAndA (tCmpA .eq (cIdx (cSlot 0) (cCst (.int 2))) (cCst (.int 0))) (tCmpA .lt (cIdx (cSlot 0) (cCst (.int 1))) (cBlt .len (aCons (cIdx (cSlot 0) (cCst (.int 0))) aNil))))
 (sSeq (sAsg (.nm 3) (cIdx (cIdx (cSlot 0) (cCst (.int 0))) (cIdx (cSlot 0) (cCst (.int 1)))))
 (sSeq (sSetI (cSlot 0) (cCst (.int 1)) (cBin .add (cIdx (cSlot 0) (cCst (.int 1))) (cCst (.int 1))))
 (sSeq (sSetI (cSlot 0) (cCst (.int 3)) (cBin .mod (cBlt .int1 (aCons (cBin .add (cBin .add (cBin .mul (cIdx (cSlot 0) (cCst (.int 3))) (cCst (.int 69621))) (cBin .mul (cSlot 3) (cCst (.int 40692)))) (cCst (.int 31))) aNil)) (cCst (.int 2147483629))))
 (sSeq (sIf (tCmpA .ge (cSlot 3) (cBin .pow (cCst (.int 10)) (cCst (.int 18))))
 (sSeq (sSetI (cSlot 0) (cCst (.int 2)) (cSlot 3))
 sNil)
 sNil)
 sNil))))
 sNil)
 (sSeq (sIf (tCmpA .gt (cIdx (cSlot 0) (cCst (.int 2))) (cCst (.int 0)))
 (sSeq (sAsg (.nm 4) (cBin .mod (cBlt .int1 (aCons (cIdx (cSlot 0) (cCst (.int 2))) aNil)) (cSlot 1)))
 (sSeq (sSetI (cSlot 0) (cCst (.int 2)) (cBin .fdiv (cIdx (cSlot 0) (cCst (.int 2))) (cSlot 1)))
 (sSeq (sRet (cSlot 4))
 sNil)))
 sNil)
 (sSeq (sSetI (cSlot 0) (cCst (.int 4)) (cBin .add (cIdx (cSlot 0) (cCst (.int 4))) (cCst (.int 1))))
 (sSeq (sAsg (.nm 2) (cBin .mod (cBlt .int1 (aCons (cBin .mul (cBlt .int1 (aCons (cBin .add (cIdx (cSlot 0) (cCst (.int 3))) (cBin .mul (cCst (.int 7919)) (cIdx (cSlot 0) (cCst (.int 4))))) aNil)) (cCst (.int 48271))) aNil)) (cCst (.int 2147483647))))
 (sSeq (sAsg (.nm 2) (cBin .mod (cBlt .int1 (aCons (cBin .mul (cSlot 2) (cBin .add (cBin .fdiv (cSlot 2) (cCst (.int 1009))) (cCst (.int 69621)))) aNil)) (cCst (.int 2147483647))))
 (sSeq (sAsg (.nm 2) (cBin .mod (cBlt .int1 (aCons (cBin .mul (cSlot 2) (cBin .add (cBin .fdiv (cSlot 2) (cCst (.int 2003))) (cCst (.int 40014)))) aNil)) (cCst (.int 2147483563))))
 (sSeq (sRet (cBin .mod (cBlt .int1 (aCons (cBin .fdiv (cSlot 2) (cCst (.int 16))) aNil)) (cSlot 1)))
 sNil)))))))
/-- _law_any: hand some -/
def b59 (T : Tab) : FS :=
 (sSeq (sRet (cIdx (cSlot 1) (cCall T false 58 (aCons (cSlot 0) (aCons (cBlt .len (aCons (cSlot 1) aNil)) aNil)))))
 sNil)
/-- _law_pair: one other -/
def b60 (T : Tab) : FS :=
 (sSeq (sRet (cIfe (tCmpA .lt (cSlot 0) (cSlot 1)) (cTup (aCons (cSlot 0) (aCons (cSlot 1) aNil))) (cTup (aCons (cSlot 1) (aCons (cSlot 0) aNil)))))
 sNil)
/-- _law_cases: x y z two chain some none cell -/
def b61 (T : Tab) : FS :=
 (sSeq (sPar [6, 7] (aCons (cTup (aCons (cTup aNil) (aCons (cTup aNil) (aCons (cTup aNil) aNil)))) (aCons (cTup (aCons (cTup aNil) (aCons (cTup aNil) (aCons (cTup (aCons (cTup (aCons (cCst (.str s_w12)) (aCons (cSlot 0) (aCons (cCst (.str s_w1)) aNil)))) aNil)) aNil)))) aNil)))
 (sSeq (sAsg (.nm 3) (cTup (aCons (cTup aNil) (aCons (cTup aNil) (aCons (cBlt .tuple1 (aCons (cBlt .sorted1 (aCons (cLst (aCons (cTup (aCons (cCst (.str s_w12)) (aCons (cSlot 0) (aCons (cCst (.str s_w1)) aNil)))) (aCons (cTup (aCons (cCst (.str s_w12)) (aCons (cSlot 1) (aCons (cCst (.str s_w1)) aNil)))) aNil))) aNil)) aNil)) aNil)))))
 (sSeq (sAsg (.nm 4) (cTup (aCons (cTup aNil) (aCons (cTup (aCons (cCall T true 60 (aCons (cSlot 0) (aCons (cCst (.str s_w1)) aNil))) aNil)) (aCons (cTup (aCons (cTup (aCons (cCst (.str s_w2)) (aCons (cSlot 0) (aCons (cCst (.str s_w1)) aNil)))) aNil)) aNil)))))
 (sSeq (sAsg (.nm 5) (cLst (aCons (cTup (aCons (cSlot 6) (aCons (cTup (aCons (cTup (aCons (cCst (.str s_w14)) (aCons (cSlot 0) (aCons (cSlot 1) aNil)))) (aCons (cTup (aCons (cCst (.str s_w14)) (aCons (cSlot 2) (aCons (cCst (.str s_w1)) aNil)))) aNil))) (aCons (cTup (aCons (cTup (aCons (cCst (.str s_w14)) (aCons (cSlot 2) (aCons (cCst (.str s_w1)) aNil)))) (aCons (cTup (aCons (cCst (.str s_w14)) (aCons (cSlot 0) (aCons (cSlot 1) aNil)))) aNil))) (aCons (cCst (.bl true)) aNil))))) aNil)))
 (sSeq (sExp (cBm .append (cSlot 5) (aCons (cTup (aCons (cSlot 6) (aCons (cTup (aCons (cTup (aCons (cCst (.str s_w14)) (aCons (cSlot 0) (aCons (cSlot 1) aNil)))) aNil)) (aCons (cTup (aCons (cTup (aCons (cCst (.str s_w14)) (aCons (cSlot 1) (aCons (cSlot 0) aNil)))) aNil)) (aCons (cCst (.bl false)) aNil))))) aNil)))
 (sSeq (sExp (cBm .append (cSlot 5) (aCons (cTup (aCons (cSlot 7) (aCons (cTup (aCons (cTup (aCons (cCst (.str s_w13)) (aCons (cSlot 0) (aCons (cSlot 1) aNil)))) (aCons (cTup (aCons (cCst (.str s_w13)) (aCons (cSlot 0) (aCons (cSlot 2) aNil)))) aNil))) (aCons (cTup (aCons (cTup (aCons (cCst (.str s_w13)) (aCons (cSlot 0) (aCons (cSlot 2) aNil)))) aNil)) (aCons (cCst (.bl true)) aNil))))) aNil)))
 (sSeq (sExp (cBm .append (cSlot 5) (aCons (cTup (aCons (cSlot 7) (aCons (cTup (aCons (cTup (aCons (cCst (.str s_w13)) (aCons (cSlot 0) (aCons (cSlot 1) aNil)))) (aCons (cTup (aCons (cCst (.str s_w8)) (aCons (cSlot 2) (aCons (cSlot 0) aNil)))) aNil))) (aCons (cTup (aCons (cTup (aCons (cCst (.str s_w13)) (aCons (cSlot 0) (aCons (cSlot 1) aNil)))) (aCons (cTup (aCons (cCst (.str s_w14)) (aCons (cSlot 2) (aCons (cSlot 1) aNil)))) aNil))) (aCons (cCst (.bl true)) aNil))))) aNil)))
 (sSeq (sExp (cBm .append (cSlot 5) (aCons (cTup (aCons (cSlot 6) (aCons (cTup (aCons (cTup (aCons (cCst (.str s_w13)) (aCons (cSlot 0) (aCons (cSlot 1) aNil)))) aNil)) (aCons (cTup aNil) (aCons (cCst (.bl false)) aNil))))) aNil)))
 (sSeq (sExp (cBm .append (cSlot 5) (aCons (cTup (aCons (cSlot 6) (aCons (cTup (aCons (cTup (aCons (cCst (.str s_w9)) (aCons (cSlot 0) aNil))) aNil)) (aCons (cTup (aCons (cTup (aCons (cCst (.str s_w8)) (aCons (cSlot 1) (aCons (cSlot 0) aNil)))) aNil)) (aCons (cCst (.bl true)) aNil))))) aNil)))
 (sSeq (sExp (cBm .append (cSlot 5) (aCons (cTup (aCons (cSlot 7) (aCons (cTup (aCons (cTup (aCons (cCst (.str s_w9)) (aCons (cSlot 0) aNil))) (aCons (cTup (aCons (cCst (.str s_w9)) (aCons (cSlot 0) aNil))) aNil))) (aCons (cTup (aCons (cTup (aCons (cCst (.str s_w9)) (aCons (cSlot 0) aNil))) (aCons (cTup (aCons (cCst (.str s_w8)) (aCons (cSlot 1) (aCons (cSlot 0) aNil)))) aNil))) (aCons (cCst (.bl true)) aNil))))) aNil)))
 (sSeq (sExp (cBm .append (cSlot 5) (aCons (cTup (aCons (cSlot 3) (aCons (cTup (aCons (cTup (aCons (cCst (.str s_w13)) (aCons (cSlot 0) (aCons (cSlot 2) aNil)))) (aCons (cTup (aCons (cCst (.str s_w13)) (aCons (cSlot 1) (aCons (cSlot 2) aNil)))) aNil))) (aCons (cTup (aCons (cTup (aCons (cCst (.str s_w13)) (aCons (cSlot 1) (aCons (cSlot 2) aNil)))) (aCons (cTup (aCons (cCst (.str s_w13)) (aCons (cSlot 0) (aCons (cSlot 2) aNil)))) aNil))) (aCons (cCst (.bl true)) aNil))))) aNil)))
 (sSeq (sExp (cBm .append (cSlot 5) (aCons (cTup (aCons (cSlot 3) (aCons (cTup (aCons (cTup (aCons (cCst (.str s_w8)) (aCons (cSlot 2) (aCons (cSlot 0) aNil)))) aNil)) (aCons (cTup (aCons (cTup (aCons (cCst (.str s_w8)) (aCons (cSlot 2) (aCons (cSlot 1) aNil)))) aNil)) (aCons (cCst (.bl true)) aNil))))) aNil)))
 (sSeq (sExp (cBm .append (cSlot 5) (aCons (cTup (aCons (cSlot 4) (aCons (cTup (aCons (cTup (aCons (cCst (.str s_w8)) (aCons (cSlot 1) (aCons (cSlot 0) aNil)))) (aCons (cTup (aCons (cCst (.str s_w14)) (aCons (cSlot 2) (aCons (cSlot 1) aNil)))) aNil))) (aCons (cTup (aCons (cTup (aCons (cCst (.str s_w8)) (aCons (cSlot 2) (aCons (cSlot 0) aNil)))) (aCons (cTup (aCons (cCst (.str s_w14)) (aCons (cSlot 1) (aCons (cSlot 2) aNil)))) aNil))) (aCons (cCst (.bl true)) aNil))))) aNil)))
 (sSeq (sExp (cBm .append (cSlot 5) (aCons (cTup (aCons (cSlot 4) (aCons (cTup (aCons (cTup (aCons (cCst (.str s_w8)) (aCons (cSlot 1) (aCons (cSlot 0) aNil)))) (aCons (cTup (aCons (cCst (.str s_w8)) (aCons (cSlot 1) (aCons (cSlot 1) aNil)))) aNil))) (aCons (cTup (aCons (cTup (aCons (cCst (.str s_w8)) (aCons (cSlot 1) (aCons (cSlot 0) aNil)))) aNil)) (aCons (cCst (.bl false)) aNil))))) aNil)))
 (sSeq (sExp (cBm .append (cSlot 5) (aCons (cTup (aCons (cSlot 6) (aCons (cTup (aCons (cTup (aCons (cCst (.str s_w11)) (aCons (cTup (aCons (cCst (.str s_w7)) (aCons (cSlot 0) (aCons (cSlot 1) aNil)))) (aCons (cTup (aCons (cTup (aCons (cCst (.str s_w14)) (aCons (cSlot 0) (aCons (cSlot 1) aNil)))) aNil)) (aCons (cTup aNil) aNil))))) aNil)) (aCons (cTup aNil) (aCons (cCst (.bl true)) aNil))))) aNil)))
 (sSeq (sExp (cBm .append (cSlot 5) (aCons (cTup (aCons (cSlot 6) (aCons (cTup (aCons (cTup (aCons (cCst (.str s_w11)) (aCons (cTup (aCons (cCst (.str s_w6)) (aCons (cSlot 0) (aCons (cSlot 1) aNil)))) (aCons (cTup (aCons (cTup (aCons (cCst (.str s_w14)) (aCons (cSlot 0) (aCons (cSlot 1) aNil)))) aNil)) (aCons (cTup aNil) aNil))))) aNil)) (aCons (cTup (aCons (cTup (aCons (cCst (.str s_w14)) (aCons (cSlot 0) (aCons (cSlot 1) aNil)))) aNil)) (aCons (cCst (.bl true)) aNil))))) aNil)))
 (sSeq (sRet (cSlot 5))
 sNil)))))))))))))))))
/-- law: script hand names never cell some x y z begin one other is_like pair heard -/
def b62 (T : Tab) : FS :=
 (sSeq (sAsg (.nm 1) (cCall T false 57 (aCons (cSlot 0) aNil)))
 (sSeq (sAsg (.tp (.tcons (.nm 6) (.tcons (.nm 7) (.tcons (.nm 8) .tnil)))) (cCall T false 59 (aCons (cSlot 1) (aCons (cLst (aCons (cTup (aCons (cCst (.str s_w24)) (aCons (cCst (.str s_w23)) (aCons (cCst (.str s_w25)) aNil)))) (aCons (cTup (aCons (cCst (.str s_w25)) (aCons (cCst (.str s_w24)) (aCons (cCst (.str s_w23)) aNil)))) (aCons (cTup (aCons (cCst (.str s_w22)) (aCons (cCst (.str s_w21)) (aCons (cCst (.str s_w20)) aNil)))) (aCons (cTup (aCons (cCst (.str s_w19)) (aCons (cCst (.str s_w18)) (aCons (cCst (.str s_w17)) aNil)))) aNil))))) aNil))))
 (sSeq (sAsg (.nm 2) (cBlt .tuple1 (aCons (cBlt .sorted1 (aCons (cLst (aCons (cSlot 6) (aCons (cSlot 7) (aCons (cSlot 8) aNil)))) aNil)) aNil)))
 (sSeq (sFor (.tp (.tcons (.nm 9) (.tcons (.nm 10) (.tcons (.nm 11) (.tcons (.nm 12) .tnil))))) (iValA (cCall T false 61 (aCons (cSlot 6) (aCons (cSlot 7) (aCons (cSlot 8) aNil)))))
 (sSeq (sFor (.nm 13) (iValA (cLst (aCons (cTup (aCons (cSlot 10) (aCons (cSlot 11) aNil))) (aCons (cTup (aCons (cSlot 11) (aCons (cSlot 10) aNil))) aNil))))
 (sSeq (sAsg (.nm 14) (cCall T true 55 (aCons (cSlot 9) (aCons (cIdx (cSlot 13) (cCst (.int 0))) (aCons (cIdx (cSlot 13) (cCst (.int 1))) (aCons (cSlot 2) aNil))))))
 (sSeq (sIf (tCmpA .ne (cIdx (cSlot 14) (cCst (.int 0))) (cIfe (tValA (cSlot 12)) (cCst (.str s_w15)) (cCst (.str s_w16))))
 (sSeq (sRet (cCst (.bl false)))
 sNil)
 sNil)
 sNil)))
 sNil))
 (sSeq (sAsg (.nm 3) (cTup (aCons (cTup aNil) (aCons (cTup aNil) (aCons (cBlt .tuple1 (aCons (cBlt .sorted1 (aCons (cLst (aCons (cTup (aCons (cCst (.str s_w12)) (aCons (cSlot 6) (aCons (cSlot 7) aNil)))) (aCons (cTup (aCons (cCst (.str s_w12)) (aCons (cSlot 6) (aCons (cSlot 8) aNil)))) aNil))) aNil)) aNil)) aNil)))))
 (sSeq (sIf (tCmpA .ne (cCall T true 55 (aCons (cSlot 3) (aCons (cTup (aCons (cTup (aCons (cCst (.str s_w9)) (aCons (cSlot 7) aNil))) aNil)) (aCons (cTup aNil) (aCons (cSlot 2) aNil))))) (cTup (aCons (cCst (.str s_w15)) (aCons (cCst (.int 0)) aNil))))
 (sSeq (sRet (cCst (.bl false)))
 sNil)
 sNil)
 (sSeq (sAsg (.nm 4) (cTup (aCons (cTup aNil) (aCons (cTup aNil) (aCons (cTup (aCons (cTup (aCons (cCst (.str s_w12)) (aCons (cSlot 6) (aCons (cCst (.str s_w1)) aNil)))) aNil)) aNil)))))
 (sSeq (sAsg (.nm 5) (cTup (aCons (cTup (aCons (cCst (.str s_w13)) (aCons (cSlot 6) (aCons (cSlot 7) aNil)))) (aCons (cTup (aCons (cCst (.str s_w14)) (aCons (cSlot 7) (aCons (cSlot 7) aNil)))) (aCons (cTup (aCons (cCst (.str s_w13)) (aCons (cSlot 6) (aCons (cSlot 8) aNil)))) aNil)))))
 (sSeq (sIf (tCmpA .ne (cCall T true 56 (aCons (cSlot 4) (aCons (cSlot 5) (aCons (cSlot 2) aNil)))) (cTup (aCons (cCst (.int 0)) (aCons (cCst (.int 1)) aNil))))
 (sSeq (sRet (cCst (.bl false)))
 sNil)
 sNil)
 (sSeq (sRet (cCmp .eq (cCall T true 56 (aCons (cTup (aCons (cTup aNil) (aCons (cTup aNil) (aCons (cTup aNil) aNil)))) (aCons (cTup (aCons (cTup (aCons (cCst (.str s_w14)) (aCons (cSlot 6) (aCons (cCst (.str s_w1)) aNil)))) (aCons (cTup (aCons (cCst (.str s_w14)) (aCons (cSlot 6) (aCons (cSlot 7) aNil)))) aNil))) (aCons (cSlot 2) aNil)))) (cTup (aCons (cCst (.int 0)) aNil))))
 sNil))))))))))
def n0 : List Str := ["thing", "sign"]
def p0 : List Str := ["thing"]
theorem sc0 : FnScope n0 p0 (defScope st0) := ⟨by kernel_rfl, by kernel_rfl, by kernel_rfl, by decide +kernel, by kernel_rfl, by decide +kernel, by decide +kernel⟩
theorem w0 {P : Program} {w : World} {K : PySem.W.Frag} {mg : Str → Option Value} {base : Heap} {T : Tab} {k : Nat} (Z : Hd K mg) (C : CallsG P w K mg base T k) {f : Addr} {cdv : Value} {A : Around} {outer : List Env} {s : Shared} {H : Hp} {E : XK} (hr : Room (k + 1) (A.deeper (envOfC "is_name" (defScope st0) s.heap.objs.size f cdv))) :
    PSs (cxOf CN0 P w K mg base n0 "is_name" (defScope st0) f cdv A outer s H E).nox (defBody st0) (tS (Nc K) (b0 T)) := by
  have hk : k ≤ k + 1 := Nat.le_succ k
  have hk2 : k + 1 ≤ k + 1 := Nat.le_refl _
  have L : Lx (Nc K) (cxOf CN0 P w K mg base n0 "is_name" (defScope st0) f cdv A outer s H E).nox := ⟨rfl, rfl, sc0.nd, (by show (A.deeper _).units + 200 < cLine; have := hr.un; omega), C8.pass0⟩
  exact
 (ss_cons (s_if (PW.pt (w_or (t_not (t_val (e_isi L .str (by rfl) (q_isinstance Z) (by rfl) (q_str Z) boot_str (e_var (pv 0))))) (w_or (t_not (t_chn L .le .le e_int (e_blt L .len nofun nofun rfl (by rfl) (q_len Z) bo_len (a_cons (e_var (pv 0)) a_nil)) (e_gint (by rfl) (q_MOST_LETTERS Z)))) (w_one_or (t_cmp L .isin (e_var (pv 0)) (e_gtupE L tu_BOUND_WORDS (by rfl) (q_BOUND_WORDS Z) (q_BOUND_WORDS_t Z)) (by first | exact nobehind _ (by decide) (by decide) | rfl | with_unfolding_all rfl))))))
 (ss_cons (s_ret e_bl)
 ss_nil)
 ss_nil)
 (ss_cons (s_ret (e_blt L .all1 nofun nofun rfl (by rfl) (q_all Z) bo_all (a_cons (e_lcm L [("sign", 1)] rfl rfl (i_any L (e_var (pv 0))) (blkOk_by (by kernel_rfl)) (fun _ _ _ _ _ => (g_name (pg_name (i := 1) (Ld.blk L _ _ _ _ _).nd (by rfl) (by first | exact Or.inl rfl | exact Or.inr rfl)))) (fun _ _ _ _ _ => ts_nil) (fun _ _ _ _ _ => (e_cmp (Ld.blk L _ _ _ _ _) .isin (e_var (pv 1)) (e_gstrE e_w0 (by rfl) (q_LETTERS Z)) (by first | exact nobehind _ (by decide) (by decide) | rfl | with_unfolding_all rfl)))) a_nil)))
 ss_nil))
def n1 : List Str := ["thing"]
def p1 : List Str := ["thing"]
theorem sc1 : FnScope n1 p1 (defScope st1) := ⟨by kernel_rfl, by kernel_rfl, by kernel_rfl, by decide +kernel, by kernel_rfl, by decide +kernel, by decide +kernel⟩
theorem w1 {P : Program} {w : World} {K : PySem.W.Frag} {mg : Str → Option Value} {base : Heap} {T : Tab} {k : Nat} (Z : Hd K mg) (C : CallsG P w K mg base T k) {f : Addr} {cdv : Value} {A : Around} {outer : List Env} {s : Shared} {H : Hp} {E : XK} (hr : Room (k + 1) (A.deeper (envOfC "is_term" (defScope st1) s.heap.objs.size f cdv))) :
    PSs (cxOf CN0 P w K mg base n1 "is_term" (defScope st1) f cdv A outer s H E).nox (defBody st1) (tS (Nc K) (b1 T)) := by
  have hk : k ≤ k + 1 := Nat.le_succ k
  have hk2 : k + 1 ≤ k + 1 := Nat.le_refl _
  have L : Lx (Nc K) (cxOf CN0 P w K mg base n1 "is_term" (defScope st1) f cdv A outer s H E).nox := ⟨rfl, rfl, sc1.nd, (by show (A.deeper _).units + 200 < cLine; have := hr.un; omega), C8.pass0⟩
  exact
 (ss_cons (s_ret (e_or (e_callP (C.pure 0) rfl (C.cal 0 "is_name" rfl) hr hk (by rfl) (a_cons (e_var (pv 0)) a_nil)) (e_one (e_and (e_isi L .str (by rfl) (q_isinstance Z) (by rfl) (q_str Z) boot_str (e_var (pv 0))) (e_one (e_cmp L .eq (e_var (pv 0)) (e_gstrE e_w1 (by rfl) (q_NIL Z)) (by first | exact nobehind _ (by decide) (by decide) | rfl | with_unfolding_all rfl)))))))
 ss_nil)
def n2 : List Str := ["thing", "least", "most"]
def p2 : List Str := ["thing", "least", "most"]
theorem sc2 : FnScope n2 p2 (defScope st2) := ⟨by kernel_rfl, by kernel_rfl, by kernel_rfl, by decide +kernel, by kernel_rfl, by decide +kernel, by decide +kernel⟩
theorem w2 {P : Program} {w : World} {K : PySem.W.Frag} {mg : Str → Option Value} {base : Heap} {T : Tab} {k : Nat} (Z : Hd K mg) (C : CallsG P w K mg base T k) {f : Addr} {cdv : Value} {A : Around} {outer : List Env} {s : Shared} {H : Hp} {E : XK} (hr : Room (k + 1) (A.deeper (envOfC "is_sized" (defScope st2) s.heap.objs.size f cdv))) :
    PSs (cxOf CN0 P w K mg base n2 "is_sized" (defScope st2) f cdv A outer s H E).nox (defBody st2) (tS (Nc K) (b2 T)) := by
  have hk : k ≤ k + 1 := Nat.le_succ k
  have hk2 : k + 1 ≤ k + 1 := Nat.le_refl _
  have L : Lx (Nc K) (cxOf CN0 P w K mg base n2 "is_sized" (defScope st2) f cdv A outer s H E).nox := ⟨rfl, rfl, sc2.nd, (by show (A.deeper _).units + 200 < cLine; have := hr.un; omega), C8.pass0⟩
  exact
 (ss_cons (s_ret (e_and (e_isi L .tup (by rfl) (q_isinstance Z) (by rfl) (q_tuple Z) boot_tuple (e_var (pv 0))) (e_one (e_chn L .le .le (e_var (pv 1)) (e_blt L .len nofun nofun rfl (by rfl) (q_len Z) bo_len (a_cons (e_var (pv 0)) a_nil)) (e_var (pv 2))))))
 ss_nil)
def n3 : List Str := ["things", "at"]
def p3 : List Str := ["things"]
theorem sc3 : FnScope n3 p3 (defScope st3) := ⟨by kernel_rfl, by kernel_rfl, by kernel_rfl, by decide +kernel, by kernel_rfl, by decide +kernel, by decide +kernel⟩
theorem w3 {P : Program} {w : World} {K : PySem.W.Frag} {mg : Str → Option Value} {base : Heap} {T : Tab} {k : Nat} (Z : Hd K mg) (C : CallsG P w K mg base T k) {f : Addr} {cdv : Value} {A : Around} {outer : List Env} {s : Shared} {H : Hp} {E : XK} (hr : Room (k + 1) (A.deeper (envOfC "are_rising" (defScope st3) s.heap.objs.size f cdv))) :
    PSs (cxOf CN0 P w K mg base n3 "are_rising" (defScope st3) f cdv A outer s H E).nox (defBody st3) (tS (Nc K) (b3 T)) := by
  have hk : k ≤ k + 1 := Nat.le_succ k
  have hk2 : k + 1 ≤ k + 1 := Nat.le_refl _
  have L : Lx (Nc K) (cxOf CN0 P w K mg base n3 "are_rising" (defScope st3) f cdv A outer s H E).nox := ⟨rfl, rfl, sc3.nd, (by show (A.deeper _).units + 200 < cLine; have := hr.un; omega), C8.pass0⟩
  exact
 (ss_cons (s_ret (e_blt L .all1 nofun nofun rfl (by rfl) (q_all Z) bo_all (a_cons (e_lcm L [("at", 1)] rfl rfl (i_rng1 (by rfl) (q_range Z) (e_bin L .sub (e_blt L .len nofun nofun rfl (by rfl) (q_len Z) bo_len (a_cons (e_var (pv 0)) a_nil)) e_int)) (blkOk_by (by kernel_rfl)) (fun _ _ _ _ _ => (g_name (pg_name (i := 1) (Ld.blk L _ _ _ _ _).nd (by rfl) (by first | exact Or.inl rfl | exact Or.inr rfl)))) (fun _ _ _ _ _ => ts_nil) (fun _ _ _ _ _ => (e_cmp (Ld.blk L _ _ _ _ _) .lt (e_idx (Ld.blk L _ _ _ _ _) (e_var (pv 0)) (e_var (pv 1))) (e_idx (Ld.blk L _ _ _ _ _) (e_var (pv 0)) (e_bin (Ld.blk L _ _ _ _ _) .add (e_var (pv 1)) e_int)) (by first | exact nobehind _ (by decide) (by decide) | rfl | with_unfolding_all rfl)))) a_nil)))
 ss_nil)
def n4 : List Str := ["thing"]
def p4 : List Str := ["thing"]
theorem sc4 : FnScope n4 p4 (defScope st4) := ⟨by kernel_rfl, by kernel_rfl, by kernel_rfl, by decide +kernel, by kernel_rfl, by decide +kernel, by decide +kernel⟩
theorem w4 {P : Program} {w : World} {K : PySem.W.Frag} {mg : Str → Option Value} {base : Heap} {T : Tab} {k : Nat} (Z : Hd K mg) (C : CallsG P w K mg base T k) {f : Addr} {cdv : Value} {A : Around} {outer : List Env} {s : Shared} {H : Hp} {E : XK} (hr : Room (k + 1) (A.deeper (envOfC "is_pair_of_terms" (defScope st4) s.heap.objs.size f cdv))) :
    PSs (cxOf CN0 P w K mg base n4 "is_pair_of_terms" (defScope st4) f cdv A outer s H E).nox (defBody st4) (tS (Nc K) (b4 T)) := by
  have hk : k ≤ k + 1 := Nat.le_succ k
  have hk2 : k + 1 ≤ k + 1 := Nat.le_refl _
  have L : Lx (Nc K) (cxOf CN0 P w K mg base n4 "is_pair_of_terms" (defScope st4) f cdv A outer s H E).nox := ⟨rfl, rfl, sc4.nd, (by show (A.deeper _).units + 200 < cLine; have := hr.un; omega), C8.pass0⟩
  exact
 (ss_cons (s_ret (e_and (e_callP (C.pure 2) rfl (C.cal 2 "is_sized" rfl) hr hk (by rfl) (a_cons (e_var (pv 0)) (a_cons e_int (a_cons e_int a_nil)))) (e_and (e_callP (C.pure 1) rfl (C.cal 1 "is_term" rfl) hr hk (by rfl) (a_cons (e_idx L (e_var (pv 0)) e_int) a_nil)) (e_one (e_callP (C.pure 1) rfl (C.cal 1 "is_term" rfl) hr hk (by rfl) (a_cons (e_idx L (e_var (pv 0)) e_int) a_nil))))))
 ss_nil)
def n5 : List Str := ["thing", "most", "one"]
def p5 : List Str := ["thing", "most"]
theorem sc5 : FnScope n5 p5 (defScope st5) := ⟨by kernel_rfl, by kernel_rfl, by kernel_rfl, by decide +kernel, by kernel_rfl, by decide +kernel, by decide +kernel⟩
theorem w5 {P : Program} {w : World} {K : PySem.W.Frag} {mg : Str → Option Value} {base : Heap} {T : Tab} {k : Nat} (Z : Hd K mg) (C : CallsG P w K mg base T k) {f : Addr} {cdv : Value} {A : Around} {outer : List Env} {s : Shared} {H : Hp} {E : XK} (hr : Room (k + 1) (A.deeper (envOfC "are_names" (defScope st5) s.heap.objs.size f cdv))) :
    PSs (cxOf CN0 P w K mg base n5 "are_names" (defScope st5) f cdv A outer s H E).nox (defBody st5) (tS (Nc K) (b5 T)) := by
  have hk : k ≤ k + 1 := Nat.le_succ k
  have hk2 : k + 1 ≤ k + 1 := Nat.le_refl _
  have L : Lx (Nc K) (cxOf CN0 P w K mg base n5 "are_names" (defScope st5) f cdv A outer s H E).nox := ⟨rfl, rfl, sc5.nd, (by show (A.deeper _).units + 200 < cLine; have := hr.un; omega), C8.pass0⟩
  exact
 (ss_cons (s_ret (e_and (e_callP (C.pure 2) rfl (C.cal 2 "is_sized" rfl) hr hk (by rfl) (a_cons (e_var (pv 0)) (a_cons e_int (a_cons (e_var (pv 1)) a_nil)))) (e_and (e_blt L .all1 nofun nofun rfl (by rfl) (q_all Z) bo_all (a_cons (e_lcm L [("one", 2)] rfl rfl (i_any L (e_var (pv 0))) (blkOk_by (by kernel_rfl)) (fun _ _ _ _ _ => (g_name (pg_name (i := 2) (Ld.blk L _ _ _ _ _).nd (by rfl) (by first | exact Or.inl rfl | exact Or.inr rfl)))) (fun _ _ _ _ _ => ts_nil) (fun _ _ _ _ _ => (e_callP (C.pure 0) rfl (C.cal 0 "is_name" rfl) hr hk (by rfl) (a_cons (e_var (pv 2)) a_nil)))) a_nil)) (e_one (e_callP (C.pure 3) rfl (C.cal 3 "are_rising" rfl) hr hk (by rfl) (a_cons (e_var (pv 0)) a_nil))))))
 ss_nil)
def n6 : List Str := ["things", "found", "one"]
def p6 : List Str := ["things"]
theorem sc6 : FnScope n6 p6 (defScope st6) := ⟨by kernel_rfl, by kernel_rfl, by kernel_rfl, by decide +kernel, by kernel_rfl, by decide +kernel, by decide +kernel⟩
theorem w6 {P : Program} {w : World} {K : PySem.W.Frag} {mg : Str → Option Value} {base : Heap} {T : Tab} {k : Nat} (Z : Hd K mg) (C : CallsG P w K mg base T k) {f : Addr} {cdv : Value} {A : Around} {outer : List Env} {s : Shared} {H : Hp} {E : XK} (hr : Room (k + 1) (A.deeper (envOfC "without_doubles" (defScope st6) s.heap.objs.size f cdv))) :
    PSs (cxOf CN0 P w K mg base n6 "without_doubles" (defScope st6) f cdv A outer s H E).nox (defBody st6) (tS (Nc K) (b6 T)) := by
  have hk : k ≤ k + 1 := Nat.le_succ k
  have hk2 : k + 1 ≤ k + 1 := Nat.le_refl _
  have L : Lx (Nc K) (cxOf CN0 P w K mg base n6 "without_doubles" (defScope st6) f cdv A outer s H E).nox := ⟨rfl, rfl, sc6.nd, (by show (A.deeper _).units + 200 < cLine; have := hr.un; omega), C8.pass0⟩
  exact
 (ss_cons (s_set L 1 (by rfl) (by first | exact Or.inl rfl | exact Or.inr rfl) (e_lst a_nil))
 (ss_cons (s_for L PassesOwn.never (i_any L (e_blt L .sorted1 nofun nofun rfl (by rfl) (q_sorted Z) bo_sorted (a_cons (e_var (pv 0)) a_nil))) (g_name (pg_name (i := 2) L.nd (by rfl) (by first | exact Or.inl rfl | exact Or.inr rfl)))
 (ss_cons (s_if (PW.pt (w_or (t_cmp L .eq (e_blt L .len nofun nofun rfl (by rfl) (q_len Z) bo_len (a_cons (e_var (pv 1)) a_nil)) e_int (by first | exact nobehind _ (by decide) (by decide) | rfl | with_unfolding_all rfl)) (w_one_or (t_cmp L .ne (e_idx L (e_var (pv 1)) e_nint) (e_var (pv 2)) (by first | exact nobehind _ (by decide) (by decide) | rfl | with_unfolding_all rfl)))))
 (ss_cons (s_exp (e_bm L .append (by exact PySem.F.plainAttrs_list) (by exact PySem.F.slot_list_append) (by exact PySem.F.type_list_append) (e_var (pv 1)) (a_cons (e_var (pv 2)) a_nil)))
 ss_nil)
 ss_nil)
 ss_nil))
 (ss_cons (s_ret (e_bltT L .tuple1 nofun nofun rfl (by rfl) (q_tuple Z) bo_tuple (a_cons (e_var (pv 1)) a_nil)))
 ss_nil)))
def n7 : List Str := ["thing"]
def p7 : List Str := ["thing"]
theorem sc7 : FnScope n7 p7 (defScope st7) := ⟨by kernel_rfl, by kernel_rfl, by kernel_rfl, by decide +kernel, by kernel_rfl, by decide +kernel, by decide +kernel⟩
theorem w7 {P : Program} {w : World} {K : PySem.W.Frag} {mg : Str → Option Value} {base : Heap} {T : Tab} {k : Nat} (Z : Hd K mg) (C : CallsG P w K mg base T k) {f : Addr} {cdv : Value} {A : Around} {outer : List Env} {s : Shared} {H : Hp} {E : XK} (hr : Room (k + 1) (A.deeper (envOfC "is_atom" (defScope st7) s.heap.objs.size f cdv))) :
    PSs (cxOf CN0 P w K mg base n7 "is_atom" (defScope st7) f cdv A outer s H E).nox (defBody st7) (tS (Nc K) (b7 T)) := by
  have hk : k ≤ k + 1 := Nat.le_succ k
  have hk2 : k + 1 ≤ k + 1 := Nat.le_refl _
  have L : Lx (Nc K) (cxOf CN0 P w K mg base n7 "is_atom" (defScope st7) f cdv A outer s H E).nox := ⟨rfl, rfl, sc7.nd, (by show (A.deeper _).units + 200 < cLine; have := hr.un; omega), C8.pass0⟩
  exact
 (ss_cons (s_if (PW.pt (w_or (t_not (t_val (e_callP (C.pure 2) rfl (C.cal 2 "is_sized" rfl) hr hk (by rfl) (a_cons (e_var (pv 0)) (a_cons e_int (a_cons e_int a_nil)))))) (w_or (t_not (t_val (e_isi L .str (by rfl) (q_isinstance Z) (by rfl) (q_str Z) boot_str (e_idx L (e_var (pv 0)) e_int)))) (w_one_or (t_cmp L .notin (e_idx L (e_var (pv 0)) e_int) (e_gtupE L tu_ATOM_WORDS (by rfl) (q_ATOM_WORDS Z) (q_ATOM_WORDS_t Z)) (by first | exact nobehind _ (by decide) (by decide) | rfl | with_unfolding_all rfl))))))
 (ss_cons (s_ret e_bl)
 ss_nil)
 ss_nil)
 (ss_cons (s_ret (e_and (e_callP (C.pure 1) rfl (C.cal 1 "is_term" rfl) hr hk (by rfl) (a_cons (e_idx L (e_var (pv 0)) e_int) a_nil)) (e_one (e_callP (C.pure 1) rfl (C.cal 1 "is_term" rfl) hr hk (by rfl) (a_cons (e_idx L (e_var (pv 0)) e_int) a_nil)))))
 ss_nil))
def n8 : List Str := ["thing", "pair"]
def p8 : List Str := ["thing"]
theorem sc8 : FnScope n8 p8 (defScope st8) := ⟨by kernel_rfl, by kernel_rfl, by kernel_rfl, by decide +kernel, by kernel_rfl, by decide +kernel, by decide +kernel⟩
theorem w8 {P : Program} {w : World} {K : PySem.W.Frag} {mg : Str → Option Value} {base : Heap} {T : Tab} {k : Nat} (Z : Hd K mg) (C : CallsG P w K mg base T k) {f : Addr} {cdv : Value} {A : Around} {outer : List Env} {s : Shared} {H : Hp} {E : XK} (hr : Room (k + 1) (A.deeper (envOfC "are_facts" (defScope st8) s.heap.objs.size f cdv))) :
    PSs (cxOf CN0 P w K mg base n8 "are_facts" (defScope st8) f cdv A outer s H E).nox (defBody st8) (tS (Nc K) (b8 T)) := by
  have hk : k ≤ k + 1 := Nat.le_succ k
  have hk2 : k + 1 ≤ k + 1 := Nat.le_refl _
  have L : Lx (Nc K) (cxOf CN0 P w K mg base n8 "are_facts" (defScope st8) f cdv A outer s H E).nox := ⟨rfl, rfl, sc8.nd, (by show (A.deeper _).units + 200 < cLine; have := hr.un; omega), C8.pass0⟩
  exact
 (ss_cons (s_if (PW.pt (w_or (t_not (t_val (e_callP (C.pure 2) rfl (C.cal 2 "is_sized" rfl) hr hk (by rfl) (a_cons (e_var (pv 0)) (a_cons e_int (a_cons (e_gint (by rfl) (q_MOST_PAIRS Z)) a_nil)))))) (w_one_or (t_not (t_val (e_blt L .all1 nofun nofun rfl (by rfl) (q_all Z) bo_all (a_cons (e_lcm L [("pair", 1)] rfl rfl (i_any L (e_var (pv 0))) (blkOk_by (by kernel_rfl)) (fun _ _ _ _ _ => (g_name (pg_name (i := 1) (Ld.blk L _ _ _ _ _).nd (by rfl) (by first | exact Or.inl rfl | exact Or.inr rfl)))) (fun _ _ _ _ _ => ts_nil) (fun _ _ _ _ _ => (e_callP (C.pure 4) rfl (C.cal 4 "is_pair_of_terms" rfl) hr hk (by rfl) (a_cons (e_var (pv 1)) a_nil)))) a_nil)))))))
 (ss_cons (s_ret e_bl)
 ss_nil)
 ss_nil)
 (ss_cons (s_ret (e_and (e_blt L .all1 nofun nofun rfl (by rfl) (q_all Z) bo_all (a_cons (e_lcm L [("pair", 1)] rfl rfl (i_any L (e_var (pv 0))) (blkOk_by (by kernel_rfl)) (fun _ _ _ _ _ => (g_name (pg_name (i := 1) (Ld.blk L _ _ _ _ _).nd (by rfl) (by first | exact Or.inl rfl | exact Or.inr rfl)))) (fun _ _ _ _ _ => ts_nil) (fun _ _ _ _ _ => (e_cmp (Ld.blk L _ _ _ _ _) .lt (e_idx (Ld.blk L _ _ _ _ _) (e_var (pv 1)) e_int) (e_idx (Ld.blk L _ _ _ _ _) (e_var (pv 1)) e_int) (by first | exact nobehind _ (by decide) (by decide) | rfl | with_unfolding_all rfl)))) a_nil)) (e_one (e_callP (C.pure 3) rfl (C.cal 3 "are_rising" rfl) hr hk (by rfl) (a_cons (e_var (pv 0)) a_nil)))))
 ss_nil))
def n9 : List Str := ["thing", "one"]
def p9 : List Str := ["thing"]
theorem sc9 : FnScope n9 p9 (defScope st9) := ⟨by kernel_rfl, by kernel_rfl, by kernel_rfl, by decide +kernel, by kernel_rfl, by decide +kernel, by decide +kernel⟩
theorem w9 {P : Program} {w : World} {K : PySem.W.Frag} {mg : Str → Option Value} {base : Heap} {T : Tab} {k : Nat} (Z : Hd K mg) (C : CallsG P w K mg base T k) {f : Addr} {cdv : Value} {A : Around} {outer : List Env} {s : Shared} {H : Hp} {E : XK} (hr : Room (k + 1) (A.deeper (envOfC "are_atoms" (defScope st9) s.heap.objs.size f cdv))) :
    PSs (cxOf CN0 P w K mg base n9 "are_atoms" (defScope st9) f cdv A outer s H E).nox (defBody st9) (tS (Nc K) (b9 T)) := by
  have hk : k ≤ k + 1 := Nat.le_succ k
  have hk2 : k + 1 ≤ k + 1 := Nat.le_refl _
  have L : Lx (Nc K) (cxOf CN0 P w K mg base n9 "are_atoms" (defScope st9) f cdv A outer s H E).nox := ⟨rfl, rfl, sc9.nd, (by show (A.deeper _).units + 200 < cLine; have := hr.un; omega), C8.pass0⟩
  exact
 (ss_cons (s_if (PW.pt (w_or (t_not (t_val (e_callP (C.pure 2) rfl (C.cal 2 "is_sized" rfl) hr hk (by rfl) (a_cons (e_var (pv 0)) (a_cons e_int (a_cons (e_gint (by rfl) (q_MOST_ATOMS Z)) a_nil)))))) (w_one_or (t_not (t_val (e_blt L .all1 nofun nofun rfl (by rfl) (q_all Z) bo_all (a_cons (e_lcm L [("one", 1)] rfl rfl (i_any L (e_var (pv 0))) (blkOk_by (by kernel_rfl)) (fun _ _ _ _ _ => (g_name (pg_name (i := 1) (Ld.blk L _ _ _ _ _).nd (by rfl) (by first | exact Or.inl rfl | exact Or.inr rfl)))) (fun _ _ _ _ _ => ts_nil) (fun _ _ _ _ _ => (e_callP (C.pure 7) rfl (C.cal 7 "is_atom" rfl) hr hk (by rfl) (a_cons (e_var (pv 1)) a_nil)))) a_nil)))))))
 (ss_cons (s_ret e_bl)
 ss_nil)
 ss_nil)
 (ss_cons (s_if (t_cmp L .gt (e_blt L .len nofun nofun rfl (by rfl) (q_len Z) bo_len (a_cons (e_lcm L [("one", 1)] rfl rfl (i_any L (e_var (pv 0))) (blkOk_by (by kernel_rfl)) (fun _ _ _ _ _ => (g_name (pg_name (i := 1) (Ld.blk L _ _ _ _ _).nd (by rfl) (by first | exact Or.inl rfl | exact Or.inr rfl)))) (fun _ _ _ _ _ => (ts_one (t_cmp (Ld.blk L _ _ _ _ _) .eq (e_idx (Ld.blk L _ _ _ _ _) (e_var (pv 1)) e_int) (e_gstrE e_w2 (by rfl) (q_CHAIN Z)) (by first | exact nobehind _ (by decide) (by decide) | rfl | with_unfolding_all rfl)))) (fun _ _ _ _ _ => (e_var (pv 1)))) a_nil)) (e_gint (by rfl) (q_MOST_CHAINS Z)) (by first | exact nobehind _ (by decide) (by decide) | rfl | with_unfolding_all rfl))
 (ss_cons (s_ret e_bl)
 ss_nil)
 ss_nil)
 (ss_cons (s_ret (e_cmp L .eq (e_bltT L .list1 nofun nofun rfl (by rfl) (q_list Z) bo_list (a_cons (e_var (pv 0)) a_nil)) (e_blt L .sorted1 nofun nofun rfl (by rfl) (q_sorted Z) bo_sorted (a_cons (e_var (pv 0)) a_nil)) (by first | exact nobehind _ (by decide) (by decide) | rfl | with_unfolding_all rfl)))
 ss_nil)))
def n10 : List Str := ["equals", "unlikes", "atoms", "found", "pair", "atom"]
def p10 : List Str := ["equals", "unlikes", "atoms"]
theorem sc10 : FnScope n10 p10 (defScope st10) := ⟨by kernel_rfl, by kernel_rfl, by kernel_rfl, by decide +kernel, by kernel_rfl, by decide +kernel, by decide +kernel⟩
theorem w10 {P : Program} {w : World} {K : PySem.W.Frag} {mg : Str → Option Value} {base : Heap} {T : Tab} {k : Nat} (Z : Hd K mg) (C : CallsG P w K mg base T k) {f : Addr} {cdv : Value} {A : Around} {outer : List Env} {s : Shared} {H : Hp} {E : XK} (hr : Room (k + 1) (A.deeper (envOfC "terms_told" (defScope st10) s.heap.objs.size f cdv))) :
    PSs (cxOf CN0 P w K mg base n10 "terms_told" (defScope st10) f cdv A outer s H E).nox (defBody st10) (tS (Nc K) (b10 T)) := by
  have hk : k ≤ k + 1 := Nat.le_succ k
  have hk2 : k + 1 ≤ k + 1 := Nat.le_refl _
  have L : Lx (Nc K) (cxOf CN0 P w K mg base n10 "terms_told" (defScope st10) f cdv A outer s H E).nox := ⟨rfl, rfl, sc10.nd, (by show (A.deeper _).units + 200 < cLine; have := hr.un; omega), C8.pass0⟩
  exact
 (ss_cons (s_set L 3 (by rfl) (by first | exact Or.inl rfl | exact Or.inr rfl) (e_lst a_nil))
 (ss_cons (s_for L PassesOwn.never (i_any L (e_bin L .add (e_var (pv 0)) (e_var (pv 1)))) (g_name (pg_name (i := 4) L.nd (by rfl) (by first | exact Or.inl rfl | exact Or.inr rfl)))
 (ss_cons (s_exp (e_bm L .extend (by exact PySem.F.plainAttrs_list) (by exact PySem.F.slot_list_extend) (by exact PySem.F.type_list_extend) (e_var (pv 3)) (a_cons (e_bltT L .list1 nofun nofun rfl (by rfl) (q_list Z) bo_list (a_cons (e_var (pv 4)) a_nil)) a_nil)))
 ss_nil))
 (ss_cons (s_for L PassesOwn.never (i_any L (e_var (pv 2))) (g_name (pg_name (i := 5) L.nd (by rfl) (by first | exact Or.inl rfl | exact Or.inr rfl)))
 (ss_cons (s_exp (e_bm L .extend (by exact PySem.F.plainAttrs_list) (by exact PySem.F.slot_list_extend) (by exact PySem.F.type_list_extend) (e_var (pv 3)) (a_cons (e_bltT L .list1 nofun nofun rfl (by rfl) (q_list Z) bo_list (a_cons (e_slc L (e_var (pv 5)) (o_some e_int) o_none) a_nil)) a_nil)))
 ss_nil))
 (ss_cons (s_ret (e_var (pv 3)))
 ss_nil))))
def n11 : List Str := ["claim", "term"]
def p11 : List Str := ["claim"]
theorem sc11 : FnScope n11 p11 (defScope st11) := ⟨by kernel_rfl, by kernel_rfl, by kernel_rfl, by decide +kernel, by kernel_rfl, by decide +kernel, by decide +kernel⟩
theorem w11 {P : Program} {w : World} {K : PySem.W.Frag} {mg : Str → Option Value} {base : Heap} {T : Tab} {k : Nat} (Z : Hd K mg) (C : CallsG P w K mg base T k) {f : Addr} {cdv : Value} {A : Around} {outer : List Env} {s : Shared} {H : Hp} {E : XK} (hr : Room (k + 1) (A.deeper (envOfC "raw_names" (defScope st11) s.heap.objs.size f cdv))) :
    PSs (cxOf CN0 P w K mg base n11 "raw_names" (defScope st11) f cdv A outer s H E).nox (defBody st11) (tS (Nc K) (b11 T)) := by
  have hk : k ≤ k + 1 := Nat.le_succ k
  have hk2 : k + 1 ≤ k + 1 := Nat.le_refl _
  have L : Lx (Nc K) (cxOf CN0 P w K mg base n11 "raw_names" (defScope st11) f cdv A outer s H E).nox := ⟨rfl, rfl, sc11.nd, (by show (A.deeper _).units + 200 < cLine; have := hr.un; omega), C8.pass0⟩
  exact
 (ss_cons (s_ret (e_callP (C.pure 6) rfl (C.cal 6 "without_doubles" rfl) hr hk (by rfl) (a_cons (e_lcm L [("term", 1)] rfl rfl (i_any L (e_call (C.cal 10 "terms_told" rfl) hr hk (by rfl) (a_cons (e_idx L (e_var (pv 0)) e_int) (a_cons (e_idx L (e_var (pv 0)) e_int) (a_cons (e_idx L (e_var (pv 0)) e_int) a_nil))))) (blkOk_by (by kernel_rfl)) (fun _ _ _ _ _ => (g_name (pg_name (i := 1) (Ld.blk L _ _ _ _ _).nd (by rfl) (by first | exact Or.inl rfl | exact Or.inr rfl)))) (fun _ _ _ _ _ => (ts_one (t_cmp (Ld.blk L _ _ _ _ _) .ne (e_var (pv 1)) (e_gstrE e_w1 (by rfl) (q_NIL Z)) (by first | exact nobehind _ (by decide) (by decide) | rfl | with_unfolding_all rfl)))) (fun _ _ _ _ _ => (e_var (pv 1)))) a_nil)))
 ss_nil)
def n12 : List Str := ["thing"]
def p12 : List Str := ["thing"]
theorem sc12 : FnScope n12 p12 (defScope st12) := ⟨by kernel_rfl, by kernel_rfl, by kernel_rfl, by decide +kernel, by kernel_rfl, by decide +kernel, by decide +kernel⟩
theorem w12 {P : Program} {w : World} {K : PySem.W.Frag} {mg : Str → Option Value} {base : Heap} {T : Tab} {k : Nat} (Z : Hd K mg) (C : CallsG P w K mg base T k) {f : Addr} {cdv : Value} {A : Around} {outer : List Env} {s : Shared} {H : Hp} {E : XK} (hr : Room (k + 1) (A.deeper (envOfC "is_claim" (defScope st12) s.heap.objs.size f cdv))) :
    PSs (cxOf CN0 P w K mg base n12 "is_claim" (defScope st12) f cdv A outer s H E).nox (defBody st12) (tS (Nc K) (b12 T)) := by
  have hk : k ≤ k + 1 := Nat.le_succ k
  have hk2 : k + 1 ≤ k + 1 := Nat.le_refl _
  have L : Lx (Nc K) (cxOf CN0 P w K mg base n12 "is_claim" (defScope st12) f cdv A outer s H E).nox := ⟨rfl, rfl, sc12.nd, (by show (A.deeper _).units + 200 < cLine; have := hr.un; omega), C8.pass0⟩
  exact
 (ss_cons (s_if (PW.pt (w_or (t_not (t_val (e_callP (C.pure 2) rfl (C.cal 2 "is_sized" rfl) hr hk (by rfl) (a_cons (e_var (pv 0)) (a_cons e_int (a_cons e_int a_nil)))))) (w_or (t_not (t_val (e_callP (C.pure 8) rfl (C.cal 8 "are_facts" rfl) hr hk (by rfl) (a_cons (e_idx L (e_var (pv 0)) e_int) a_nil)))) (w_or (t_not (t_val (e_callP (C.pure 8) rfl (C.cal 8 "are_facts" rfl) hr hk (by rfl) (a_cons (e_idx L (e_var (pv 0)) e_int) a_nil)))) (w_one_or (t_not (t_val (e_callP (C.pure 9) rfl (C.cal 9 "are_atoms" rfl) hr hk (by rfl) (a_cons (e_idx L (e_var (pv 0)) e_int) a_nil)))))))))
 (ss_cons (s_ret e_bl)
 ss_nil)
 ss_nil)
 (ss_cons (s_ret (e_cmp L .le (e_blt L .len nofun nofun rfl (by rfl) (q_len Z) bo_len (a_cons (e_callP (C.pure 11) rfl (C.cal 11 "raw_names" rfl) hr hk (by rfl) (a_cons (e_var (pv 0)) a_nil)) a_nil)) (e_gint (by rfl) (q_MOST_CLAIM_NAMES Z)) (by first | exact nobehind _ (by decide) (by decide) | rfl | with_unfolding_all rfl)))
 ss_nil))
def n13 : List Str := ["thing"]
def p13 : List Str := ["thing"]
theorem sc13 : FnScope n13 p13 (defScope st13) := ⟨by kernel_rfl, by kernel_rfl, by kernel_rfl, by decide +kernel, by kernel_rfl, by decide +kernel, by decide +kernel⟩
theorem w13 {P : Program} {w : World} {K : PySem.W.Frag} {mg : Str → Option Value} {base : Heap} {T : Tab} {k : Nat} (Z : Hd K mg) (C : CallsG P w K mg base T k) {f : Addr} {cdv : Value} {A : Around} {outer : List Env} {s : Shared} {H : Hp} {E : XK} (hr : Room (k + 1) (A.deeper (envOfC "check_claim" (defScope st13) s.heap.objs.size f cdv))) :
    PSs (cxOf CN0 P w K mg base n13 "check_claim" (defScope st13) f cdv A outer s H E).nox (defBody st13) (tS (Nc K) (b13 T)) := by
  have hk : k ≤ k + 1 := Nat.le_succ k
  have hk2 : k + 1 ≤ k + 1 := Nat.le_refl _
  have L : Lx (Nc K) (cxOf CN0 P w K mg base n13 "check_claim" (defScope st13) f cdv A outer s H E).nox := ⟨rfl, rfl, sc13.nd, (by show (A.deeper _).units + 200 < cLine; have := hr.un; omega), C8.pass0⟩
  exact
 (ss_cons (s_if (t_not (t_val (e_callP (C.pure 12) rfl (C.cal 12 "is_claim" rfl) hr hk (by rfl) (a_cons (e_var (pv 0)) a_nil))))
 (ss_cons s_never
 ss_nil)
 ss_nil)
 ss_nil)
def n14 : List Str := ["names"]
def p14 : List Str := ["names"]
theorem sc14 : FnScope n14 p14 (defScope st14) := ⟨by kernel_rfl, by kernel_rfl, by kernel_rfl, by decide +kernel, by kernel_rfl, by decide +kernel, by decide +kernel⟩
theorem w14 {P : Program} {w : World} {K : PySem.W.Frag} {mg : Str → Option Value} {base : Heap} {T : Tab} {k : Nat} (Z : Hd K mg) (C : CallsG P w K mg base T k) {f : Addr} {cdv : Value} {A : Around} {outer : List Env} {s : Shared} {H : Hp} {E : XK} (hr : Room (k + 1) (A.deeper (envOfC "check_names" (defScope st14) s.heap.objs.size f cdv))) :
    PSs (cxOf CN0 P w K mg base n14 "check_names" (defScope st14) f cdv A outer s H E).nox (defBody st14) (tS (Nc K) (b14 T)) := by
  have hk : k ≤ k + 1 := Nat.le_succ k
  have hk2 : k + 1 ≤ k + 1 := Nat.le_refl _
  have L : Lx (Nc K) (cxOf CN0 P w K mg base n14 "check_names" (defScope st14) f cdv A outer s H E).nox := ⟨rfl, rfl, sc14.nd, (by show (A.deeper _).units + 200 < cLine; have := hr.un; omega), C8.pass0⟩
  exact
 (ss_cons (s_if (t_not (t_val (e_callP (C.pure 5) rfl (C.cal 5 "are_names" rfl) hr hk (by rfl) (a_cons (e_var (pv 0)) (a_cons (e_gint (by rfl) (q_MOST_CLAIM_NAMES Z)) a_nil)))))
 (ss_cons s_never
 ss_nil)
 ss_nil)
 ss_nil)
def n15 : List Str := ["many", "found", "turn", "longer", "row", "number"]
def p15 : List Str := ["many"]
theorem sc15 : FnScope n15 p15 (defScope st15) := ⟨by kernel_rfl, by kernel_rfl, by kernel_rfl, by decide +kernel, by kernel_rfl, by decide +kernel, by decide +kernel⟩
theorem w15 {P : Program} {w : World} {K : PySem.W.Frag} {mg : Str → Option Value} {base : Heap} {T : Tab} {k : Nat} (Z : Hd K mg) (C : CallsG P w K mg base T k) {f : Addr} {cdv : Value} {A : Around} {outer : List Env} {s : Shared} {H : Hp} {E : XK} (hr : Room (k + 1) (A.deeper (envOfC "raw_partings" (defScope st15) s.heap.objs.size f cdv))) :
    PSs (cxOf CN0 P w K mg base n15 "raw_partings" (defScope st15) f cdv A outer s H E).nox (defBody st15) (tS (Nc K) (b15 T)) := by
  have hk : k ≤ k + 1 := Nat.le_succ k
  have hk2 : k + 1 ≤ k + 1 := Nat.le_refl _
  have L : Lx (Nc K) (cxOf CN0 P w K mg base n15 "raw_partings" (defScope st15) f cdv A outer s H E).nox := ⟨rfl, rfl, sc15.nd, (by show (A.deeper _).units + 200 < cLine; have := hr.un; omega), C8.pass0⟩
  exact
 (ss_cons (s_set L 1 (by rfl) (by first | exact Or.inl rfl | exact Or.inr rfl) (e_lst (a_cons (e_tup (a_cons e_int a_nil)) a_nil)))
 (ss_cons (s_for L PassesOwn.never (i_rng1 (by rfl) (q_range Z) (e_var (pv 0))) (g_name (pg_name (i := 2) L.nd (by rfl) (by first | exact Or.inl rfl | exact Or.inr rfl)))
 (ss_cons (s_set L 3 (by rfl) (by first | exact Or.inl rfl | exact Or.inr rfl) (e_lst a_nil))
 (ss_cons (s_for L PassesOwn.never (i_any L (e_var (pv 1))) (g_name (pg_name (i := 4) L.nd (by rfl) (by first | exact Or.inl rfl | exact Or.inr rfl)))
 (ss_cons (s_exp (e_bm L .extend (by exact PySem.F.plainAttrs_list) (by exact PySem.F.slot_list_extend) (by exact PySem.F.type_list_extend) (e_var (pv 3)) (a_cons (e_lcm L [("number", 5)] rfl rfl (i_rng1 (by rfl) (q_range Z) (e_bin L .add (e_blt L .max1 nofun nofun rfl (by rfl) (q_max Z) bo_max (a_cons (e_var (pv 4)) a_nil)) e_int)) (blkOk_by (by kernel_rfl)) (fun _ _ _ _ _ => (g_name (pg_name (i := 5) (Ld.blk L _ _ _ _ _).nd (by rfl) (by first | exact Or.inl rfl | exact Or.inr rfl)))) (fun _ _ _ _ _ => ts_nil) (fun _ _ _ _ _ => (e_bin (Ld.blk L _ _ _ _ _) .add (e_var (pv 4)) (e_tup (a_cons (e_var (pv 5)) a_nil))))) a_nil)))
 ss_nil))
 (ss_cons (s_set L 1 (by rfl) (by first | exact Or.inl rfl | exact Or.inr rfl) (e_var (pv 3)))
 ss_nil))))
 (ss_cons (s_ret (e_var (pv 1)))
 ss_nil)))
def n16 : List Str := ["parting"]
def p16 : List Str := ["parting"]
theorem sc16 : FnScope n16 p16 (defScope st16) := ⟨by kernel_rfl, by kernel_rfl, by kernel_rfl, by decide +kernel, by kernel_rfl, by decide +kernel, by decide +kernel⟩
theorem w16 {P : Program} {w : World} {K : PySem.W.Frag} {mg : Str → Option Value} {base : Heap} {T : Tab} {k : Nat} (Z : Hd K mg) (C : CallsG P w K mg base T k) {f : Addr} {cdv : Value} {A : Around} {outer : List Env} {s : Shared} {H : Hp} {E : XK} (hr : Room (k + 1) (A.deeper (envOfC "raw_classes_many" (defScope st16) s.heap.objs.size f cdv))) :
    PSs (cxOf CN0 P w K mg base n16 "raw_classes_many" (defScope st16) f cdv A outer s H E).nox (defBody st16) (tS (Nc K) (b16 T)) := by
  have hk : k ≤ k + 1 := Nat.le_succ k
  have hk2 : k + 1 ≤ k + 1 := Nat.le_refl _
  have L : Lx (Nc K) (cxOf CN0 P w K mg base n16 "raw_classes_many" (defScope st16) f cdv A outer s H E).nox := ⟨rfl, rfl, sc16.nd, (by show (A.deeper _).units + 200 < cLine; have := hr.un; omega), C8.pass0⟩
  exact
 (ss_cons (s_ret (e_bin L .add (e_blt L .max1 nofun nofun rfl (by rfl) (q_max Z) bo_max (a_cons (e_var (pv 0)) a_nil)) e_int))
 ss_nil)
def n17 : List Str := ["names", "parting", "found"]
def p17 : List Str := ["names", "parting"]
theorem sc17 : FnScope n17 p17 (defScope st17) := ⟨by kernel_rfl, by kernel_rfl, by kernel_rfl, by decide +kernel, by kernel_rfl, by decide +kernel, by decide +kernel⟩
theorem w17 {P : Program} {w : World} {K : PySem.W.Frag} {mg : Str → Option Value} {base : Heap} {T : Tab} {k : Nat} (Z : Hd K mg) (C : CallsG P w K mg base T k) {f : Addr} {cdv : Value} {A : Around} {outer : List Env} {s : Shared} {H : Hp} {E : XK} (hr : Room (k + 1) (A.deeper (envOfC "class_table" (defScope st17) s.heap.objs.size f cdv))) :
    PSs (cxOf CN0 P w K mg base n17 "class_table" (defScope st17) f cdv A outer s H E).nox (defBody st17) (tS (Nc K) (b17 T)) := by
  have hk : k ≤ k + 1 := Nat.le_succ k
  have hk2 : k + 1 ≤ k + 1 := Nat.le_refl _
  have L : Lx (Nc K) (cxOf CN0 P w K mg base n17 "class_table" (defScope st17) f cdv A outer s H E).nox := ⟨rfl, rfl, sc17.nd, (by show (A.deeper _).units + 200 < cLine; have := hr.un; omega), C8.pass0⟩
  exact
 (ss_cons (s_set L 2 (by rfl) (by first | exact Or.inl rfl | exact Or.inr rfl) (e_dictZ L (by rfl) (q_dict Z) (by rfl) (q_zip Z) (e_var (pv 0)) (e_slc L (e_var (pv 1)) (o_some e_int) o_none)))
 (ss_cons (s_setI L (e_var (pv 2)) (e_gstrE e_w1 (by rfl) (q_NIL Z)) e_int)
 (ss_cons (s_ret (e_var (pv 2)))
 ss_nil)))
def n18 : List Str := ["claim", "table", "x", "y"]
def p18 : List Str := ["claim", "table"]
theorem sc18 : FnScope n18 p18 (defScope st18) := ⟨by kernel_rfl, by kernel_rfl, by kernel_rfl, by decide +kernel, by kernel_rfl, by decide +kernel, by decide +kernel⟩
theorem w18 {P : Program} {w : World} {K : PySem.W.Frag} {mg : Str → Option Value} {base : Heap} {T : Tab} {k : Nat} (Z : Hd K mg) (C : CallsG P w K mg base T k) {f : Addr} {cdv : Value} {A : Around} {outer : List Env} {s : Shared} {H : Hp} {E : XK} (hr : Room (k + 1) (A.deeper (envOfC "keeps_by" (defScope st18) s.heap.objs.size f cdv))) :
    PSs (cxOf CN0 P w K mg base n18 "keeps_by" (defScope st18) f cdv A outer s H E).nox (defBody st18) (tS (Nc K) (b18 T)) := by
  have hk : k ≤ k + 1 := Nat.le_succ k
  have hk2 : k + 1 ≤ k + 1 := Nat.le_refl _
  have L : Lx (Nc K) (cxOf CN0 P w K mg base n18 "keeps_by" (defScope st18) f cdv A outer s H E).nox := ⟨rfl, rfl, sc18.nd, (by show (A.deeper _).units + 200 < cLine; have := hr.un; omega), C8.pass0⟩
  exact
 (ss_cons (s_if (t_not (t_val (e_blt L .all1 nofun nofun rfl (by rfl) (q_all Z) bo_all (a_cons (e_lcm L [("x", 2), ("y", 3)] rfl rfl (i_any L (e_idx L (e_var (pv 0)) e_int)) (blkOk_by (by kernel_rfl)) (fun _ _ _ _ _ => (g_tup (Ld.blk L _ _ _ _ _) (g_cons (g_name (pg_name (i := 2) (Ld.blk L _ _ _ _ _).nd (by rfl) (by first | exact Or.inl rfl | exact Or.inr rfl))) (g_cons (g_name (pg_name (i := 3) (Ld.blk L _ _ _ _ _).nd (by rfl) (by first | exact Or.inl rfl | exact Or.inr rfl))) g_nil)))) (fun _ _ _ _ _ => ts_nil) (fun _ _ _ _ _ => (e_cmp (Ld.blk L _ _ _ _ _) .eq (e_idx (Ld.blk L _ _ _ _ _) (e_var (pv 1)) (e_var (pv 2))) (e_idx (Ld.blk L _ _ _ _ _) (e_var (pv 1)) (e_var (pv 3))) (by first | exact nobehind _ (by decide) (by decide) | rfl | with_unfolding_all rfl)))) a_nil))))
 (ss_cons (s_ret e_bl)
 ss_nil)
 ss_nil)
 (ss_cons (s_ret (e_not (e_blt L .any1 nofun nofun rfl (by rfl) (q_any Z) bo_any (a_cons (e_lcm L [("x", 2), ("y", 3)] rfl rfl (i_any L (e_idx L (e_var (pv 0)) e_int)) (blkOk_by (by kernel_rfl)) (fun _ _ _ _ _ => (g_tup (Ld.blk L _ _ _ _ _) (g_cons (g_name (pg_name (i := 2) (Ld.blk L _ _ _ _ _).nd (by rfl) (by first | exact Or.inl rfl | exact Or.inr rfl))) (g_cons (g_name (pg_name (i := 3) (Ld.blk L _ _ _ _ _).nd (by rfl) (by first | exact Or.inl rfl | exact Or.inr rfl))) g_nil)))) (fun _ _ _ _ _ => ts_nil) (fun _ _ _ _ _ => (e_cmp (Ld.blk L _ _ _ _ _) .eq (e_idx (Ld.blk L _ _ _ _ _) (e_var (pv 1)) (e_var (pv 2))) (e_idx (Ld.blk L _ _ _ _ _) (e_var (pv 1)) (e_var (pv 3))) (by first | exact nobehind _ (by decide) (by decide) | rfl | with_unfolding_all rfl)))) a_nil))))
 ss_nil))
def n19 : List Str := ["claim", "table", "found", "number", "word", "x", "y"]
def p19 : List Str := ["claim", "table"]
theorem sc19 : FnScope n19 p19 (defScope st19) := ⟨by kernel_rfl, by kernel_rfl, by kernel_rfl, by decide +kernel, by kernel_rfl, by decide +kernel, by decide +kernel⟩
theorem w19 {P : Program} {w : World} {K : PySem.W.Frag} {mg : Str → Option Value} {base : Heap} {T : Tab} {k : Nat} (Z : Hd K mg) (C : CallsG P w K mg base T k) {f : Addr} {cdv : Value} {A : Around} {outer : List Env} {s : Shared} {H : Hp} {E : XK} (hr : Room (k + 1) (A.deeper (envOfC "live_by" (defScope st19) s.heap.objs.size f cdv))) :
    PSs (cxOf CN0 P w K mg base n19 "live_by" (defScope st19) f cdv A outer s H E).nox (defBody st19) (tS (Nc K) (b19 T)) := by
  have hk : k ≤ k + 1 := Nat.le_succ k
  have hk2 : k + 1 ≤ k + 1 := Nat.le_refl _
  have L : Lx (Nc K) (cxOf CN0 P w K mg base n19 "live_by" (defScope st19) f cdv A outer s H E).nox := ⟨rfl, rfl, sc19.nd, (by show (A.deeper _).units + 200 < cLine; have := hr.un; omega), C8.pass0⟩
  exact
 (ss_cons (s_set L 2 (by rfl) (by first | exact Or.inl rfl | exact Or.inr rfl) (e_lst a_nil))
 (ss_cons (s_for L PassesOwn.never (i_enm L (by rfl) (q_enumerate Z) (e_idx L (e_var (pv 0)) e_int)) (g_tup L (g_cons (g_name (pg_name (i := 3) L.nd (by rfl) (by first | exact Or.inl rfl | exact Or.inr rfl))) (g_cons (g_tup L (g_cons (g_name (pg_name (i := 4) L.nd (by rfl) (by first | exact Or.inl rfl | exact Or.inr rfl))) (g_cons (g_name (pg_name (i := 5) L.nd (by rfl) (by first | exact Or.inl rfl | exact Or.inr rfl))) (g_cons (g_name (pg_name (i := 6) L.nd (by rfl) (by first | exact Or.inl rfl | exact Or.inr rfl))) g_nil)))) g_nil)))
 (ss_cons (s_if (PW.pt (w_or (t_cmp L .ne (e_var (pv 4)) (e_gstrE e_w2 (by rfl) (q_CHAIN Z)) (by first | exact nobehind _ (by decide) (by decide) | rfl | with_unfolding_all rfl)) (w_one_or (t_cmp L .ne (e_idx L (e_var (pv 1)) (e_var (pv 5))) (e_idx L (e_var (pv 1)) (e_var (pv 6))) (by first | exact nobehind _ (by decide) (by decide) | rfl | with_unfolding_all rfl)))))
 (ss_cons (s_exp (e_bm L .append (by exact PySem.F.plainAttrs_list) (by exact PySem.F.slot_list_append) (by exact PySem.F.type_list_append) (e_var (pv 2)) (a_cons (e_var (pv 3)) a_nil)))
 ss_nil)
 ss_nil)
 ss_nil))
 (ss_cons (s_ret (e_var (pv 2)))
 ss_nil)))
def n20 : List Str := ["claim", "table", "live", "i", "at", "j"]
def p20 : List Str := ["claim", "table"]
theorem sc20 : FnScope n20 p20 (defScope st20) := ⟨by kernel_rfl, by kernel_rfl, by kernel_rfl, by decide +kernel, by kernel_rfl, by decide +kernel, by decide +kernel⟩
theorem w20 {P : Program} {w : World} {K : PySem.W.Frag} {mg : Str → Option Value} {base : Heap} {T : Tab} {k : Nat} (Z : Hd K mg) (C : CallsG P w K mg base T k) {f : Addr} {cdv : Value} {A : Around} {outer : List Env} {s : Shared} {H : Hp} {E : XK} (hr : Room (k + 1) (A.deeper (envOfC "dead_by" (defScope st20) s.heap.objs.size f cdv))) :
    PSs (cxOf CN0 P w K mg base n20 "dead_by" (defScope st20) f cdv A outer s H E).nox (defBody st20) (tS (Nc K) (b20 T)) := by
  have hk : k ≤ k + 1 := Nat.le_succ k
  have hk2 : k + 1 ≤ k + 1 := Nat.le_refl _
  have L : Lx (Nc K) (cxOf CN0 P w K mg base n20 "dead_by" (defScope st20) f cdv A outer s H E).nox := ⟨rfl, rfl, sc20.nd, (by show (A.deeper _).units + 200 < cLine; have := hr.un; omega), C8.pass0⟩
  exact
 (ss_cons (s_set L 2 (by rfl) (by first | exact Or.inl rfl | exact Or.inr rfl) (e_call (C.cal 19 "live_by" rfl) hr hk (by rfl) (a_cons (e_var (pv 0)) (a_cons (e_var (pv 1)) a_nil))))
 (ss_cons (s_for L PassesOwn.never (i_any L (e_var (pv 2))) (g_name (pg_name (i := 3) L.nd (by rfl) (by first | exact Or.inl rfl | exact Or.inr rfl)))
 (ss_cons (s_if (t_cmp L .eq (e_idx L (e_var (pv 1)) (e_idx L (e_idx L (e_idx L (e_var (pv 0)) e_int) (e_var (pv 3))) e_int)) e_int (by first | exact nobehind _ (by decide) (by decide) | rfl | with_unfolding_all rfl))
 (ss_cons (s_ret (e_tup (a_cons (e_gstrE e_w1 (by rfl) (q_NIL_WORD Z)) (a_cons (e_var (pv 3)) a_nil))))
 ss_nil)
 ss_nil)
 ss_nil))
 (ss_cons (s_for L PassesOwn.never (i_enm L (by rfl) (q_enumerate Z) (e_var (pv 2))) (g_tup L (g_cons (g_name (pg_name (i := 4) L.nd (by rfl) (by first | exact Or.inl rfl | exact Or.inr rfl))) (g_cons (g_name (pg_name (i := 3) L.nd (by rfl) (by first | exact Or.inl rfl | exact Or.inr rfl))) g_nil)))
 (ss_cons (s_for L PassesOwn.never (i_any L (e_slc L (e_var (pv 2)) (o_some (e_bin L .add (e_var (pv 4)) e_int)) o_none)) (g_name (pg_name (i := 5) L.nd (by rfl) (by first | exact Or.inl rfl | exact Or.inr rfl)))
 (ss_cons (s_if (t_cmp L .eq (e_idx L (e_var (pv 1)) (e_idx L (e_idx L (e_idx L (e_var (pv 0)) e_int) (e_var (pv 3))) e_int)) (e_idx L (e_var (pv 1)) (e_idx L (e_idx L (e_idx L (e_var (pv 0)) e_int) (e_var (pv 5))) e_int)) (by first | exact nobehind _ (by decide) (by decide) | rfl | with_unfolding_all rfl))
 (ss_cons (s_ret (e_tup (a_cons (e_gstrE e_w3 (by rfl) (q_TWICE Z)) (a_cons (e_var (pv 3)) (a_cons (e_var (pv 5)) a_nil)))))
 ss_nil)
 ss_nil)
 ss_nil))
 ss_nil))
 (ss_cons (s_ret e_non)
 ss_nil))))
def n21 : List Str := ["edges", "row", "first_new", "cells", "at", "new", "begin", "word", "end", "told", "middle"]
def p21 : List Str := ["edges", "row", "first_new"]
theorem sc21 : FnScope n21 p21 (defScope st21) := ⟨by kernel_rfl, by kernel_rfl, by kernel_rfl, by decide +kernel, by kernel_rfl, by decide +kernel, by decide +kernel⟩
theorem w21 {P : Program} {w : World} {K : PySem.W.Frag} {mg : Str → Option Value} {base : Heap} {T : Tab} {k : Nat} (Z : Hd K mg) (C : CallsG P w K mg base T k) {f : Addr} {cdv : Value} {A : Around} {outer : List Env} {s : Shared} {H : Hp} {E : XK} (hr : Room (k + 1) (A.deeper (envOfC "heap_by" (defScope st21) s.heap.objs.size f cdv))) :
    PSs (cxOf CN0 P w K mg base n21 "heap_by" (defScope st21) f cdv A outer s H E).nox (defBody st21) (tS (Nc K) (b21 T)) := by
  have hk : k ≤ k + 1 := Nat.le_succ k
  have hk2 : k + 1 ≤ k + 1 := Nat.le_refl _
  have L : Lx (Nc K) (cxOf CN0 P w K mg base n21 "heap_by" (defScope st21) f cdv A outer s H E).nox := ⟨rfl, rfl, sc21.nd, (by show (A.deeper _).units + 200 < cLine; have := hr.un; omega), C8.pass0⟩
  exact
 (ss_cons (s_par3 L 3 4 5 (by rfl) (by rfl) (by rfl) (by decide) (by decide) (by decide) (by rfl) (by rfl) (by rfl) (a_cons (e_lst a_nil) (a_cons e_int (a_cons (e_var (pv 2)) a_nil))) (by rfl))
 (ss_cons (s_for L PassesOwn.never (i_any L (e_var (pv 0))) (g_tup L (g_cons (g_name (pg_name (i := 6) L.nd (by rfl) (by first | exact Or.inl rfl | exact Or.inr rfl))) (g_cons (g_name (pg_name (i := 7) L.nd (by rfl) (by first | exact Or.inl rfl | exact Or.inr rfl))) (g_cons (g_name (pg_name (i := 8) L.nd (by rfl) (by first | exact Or.inl rfl | exact Or.inr rfl))) g_nil))))
 (ss_cons (s_if (t_cmp L .ne (e_var (pv 7)) (e_gstrE e_w2 (by rfl) (q_CHAIN Z)) (by first | exact nobehind _ (by decide) (by decide) | rfl | with_unfolding_all rfl))
 (ss_cons (s_exp (e_bm L .append (by exact PySem.F.plainAttrs_list) (by exact PySem.F.slot_list_append) (by exact PySem.F.type_list_append) (e_var (pv 3)) (a_cons (e_tup (a_cons (e_var (pv 6)) (a_cons (e_var (pv 8)) a_nil))) a_nil)))
 (ss_cons s_cont
 ss_nil))
 ss_nil)
 (ss_cons (s_set L 9 (by rfl) (by first | exact Or.inl rfl | exact Or.inr rfl) (e_idx L (e_var (pv 1)) (e_var (pv 4))))
 (ss_cons (s_aug L 4 .add (by rfl) (by first | exact Or.inl rfl | exact Or.inr rfl) e_int)
 (ss_cons (s_if (t_cmp L .eq (e_var (pv 9)) (e_gstrE e_w4 (by rfl) (q_ONE_CELL Z)) (by first | exact nobehind _ (by decide) (by decide) | rfl | with_unfolding_all rfl))
 (ss_cons (s_exp (e_bm L .append (by exact PySem.F.plainAttrs_list) (by exact PySem.F.slot_list_append) (by exact PySem.F.type_list_append) (e_var (pv 3)) (a_cons (e_tup (a_cons (e_var (pv 6)) (a_cons (e_var (pv 8)) a_nil))) a_nil)))
 ss_nil)
 (ss_cons (s_set L 10 (by rfl) (by first | exact Or.inl rfl | exact Or.inr rfl) (e_ife (t_cmp L .eq (e_var (pv 9)) (e_gstrE e_w5 (by rfl) (q_NEW_PLACE Z)) (by first | exact nobehind _ (by decide) (by decide) | rfl | with_unfolding_all rfl)) (e_var (pv 5)) (e_var (pv 9))))
 (ss_cons (s_aug L 5 .add (by rfl) (by first | exact Or.inl rfl | exact Or.inr rfl) (e_bltT L .int1 nofun nofun rfl (by rfl) (q_int Z) bo_int (a_cons (e_cmp L .eq (e_var (pv 9)) (e_gstrE e_w5 (by rfl) (q_NEW_PLACE Z)) (by first | exact nobehind _ (by decide) (by decide) | rfl | with_unfolding_all rfl)) a_nil)))
 (ss_cons (s_exp (e_bm L .extend (by exact PySem.F.plainAttrs_list) (by exact PySem.F.slot_list_extend) (by exact PySem.F.type_list_extend) (e_var (pv 3)) (a_cons (e_lst (a_cons (e_tup (a_cons (e_var (pv 6)) (a_cons (e_var (pv 10)) a_nil))) (a_cons (e_tup (a_cons (e_var (pv 10)) (a_cons (e_var (pv 8)) a_nil))) a_nil))) a_nil)))
 ss_nil))))
 ss_nil)))))
 (ss_cons (s_ret (e_bltT L .tuple1 nofun nofun rfl (by rfl) (q_tuple Z) bo_tuple (a_cons (e_blt L .sorted1 nofun nofun rfl (by rfl) (q_sorted Z) bo_sorted (a_cons (e_var (pv 3)) a_nil)) a_nil)))
 ss_nil)))
def n22 : List Str := ["claim", "table", "i"]
def p22 : List Str := ["claim", "table"]
theorem sc22 : FnScope n22 p22 (defScope st22) := ⟨by kernel_rfl, by kernel_rfl, by kernel_rfl, by decide +kernel, by kernel_rfl, by decide +kernel, by decide +kernel⟩
theorem w22 {P : Program} {w : World} {K : PySem.W.Frag} {mg : Str → Option Value} {base : Heap} {T : Tab} {k : Nat} (Z : Hd K mg) (C : CallsG P w K mg base T k) {f : Addr} {cdv : Value} {A : Around} {outer : List Env} {s : Shared} {H : Hp} {E : XK} (hr : Room (k + 1) (A.deeper (envOfC "edges_by" (defScope st22) s.heap.objs.size f cdv))) :
    PSs (cxOf CN0 P w K mg base n22 "edges_by" (defScope st22) f cdv A outer s H E).nox (defBody st22) (tS (Nc K) (b22 T)) := by
  have hk : k ≤ k + 1 := Nat.le_succ k
  have hk2 : k + 1 ≤ k + 1 := Nat.le_refl _
  have L : Lx (Nc K) (cxOf CN0 P w K mg base n22 "edges_by" (defScope st22) f cdv A outer s H E).nox := ⟨rfl, rfl, sc22.nd, (by show (A.deeper _).units + 200 < cLine; have := hr.un; omega), C8.pass0⟩
  exact
 (ss_cons (s_ret (e_lcm L [("i", 2)] rfl rfl (i_any L (e_call (C.cal 19 "live_by" rfl) hr hk (by rfl) (a_cons (e_var (pv 0)) (a_cons (e_var (pv 1)) a_nil)))) (blkOk_by (by kernel_rfl)) (fun _ _ _ _ _ => (g_name (pg_name (i := 2) (Ld.blk L _ _ _ _ _).nd (by rfl) (by first | exact Or.inl rfl | exact Or.inr rfl)))) (fun _ _ _ _ _ => ts_nil) (fun _ _ _ _ _ => (e_tup (a_cons (e_idx (Ld.blk L _ _ _ _ _) (e_var (pv 1)) (e_idx (Ld.blk L _ _ _ _ _) (e_idx (Ld.blk L _ _ _ _ _) (e_idx (Ld.blk L _ _ _ _ _) (e_var (pv 0)) e_int) (e_var (pv 2))) e_int)) (a_cons (e_idx (Ld.blk L _ _ _ _ _) (e_idx (Ld.blk L _ _ _ _ _) (e_idx (Ld.blk L _ _ _ _ _) (e_var (pv 0)) e_int) (e_var (pv 2))) e_int) (a_cons (e_idx (Ld.blk L _ _ _ _ _) (e_var (pv 1)) (e_idx (Ld.blk L _ _ _ _ _) (e_idx (Ld.blk L _ _ _ _ _) (e_idx (Ld.blk L _ _ _ _ _) (e_var (pv 0)) e_int) (e_var (pv 2))) e_int)) a_nil)))))))
 ss_nil)
def n23 : List Str := ["one", "names", "found", "parting", "table"]
def p23 : List Str := ["one", "names"]
theorem sc23 : FnScope n23 p23 (defScope st23) := ⟨by kernel_rfl, by kernel_rfl, by kernel_rfl, by decide +kernel, by kernel_rfl, by decide +kernel, by decide +kernel⟩
theorem w23 {P : Program} {w : World} {K : PySem.W.Frag} {mg : Str → Option Value} {base : Heap} {T : Tab} {k : Nat} (Z : Hd K mg) (C : CallsG P w K mg base T k) {f : Addr} {cdv : Value} {A : Around} {outer : List Env} {s : Shared} {H : Hp} {E : XK} (hr : Room (k + 1) (A.deeper (envOfC "live_partings" (defScope st23) s.heap.objs.size f cdv))) :
    PSs (cxOf CN0 P w K mg base n23 "live_partings" (defScope st23) f cdv A outer s H E).nox (defBody st23) (tS (Nc K) (b23 T)) := by
  have hk : k ≤ k + 1 := Nat.le_succ k
  have hk2 : k + 1 ≤ k + 1 := Nat.le_refl _
  have L : Lx (Nc K) (cxOf CN0 P w K mg base n23 "live_partings" (defScope st23) f cdv A outer s H E).nox := ⟨rfl, rfl, sc23.nd, (by show (A.deeper _).units + 200 < cLine; have := hr.un; omega), C8.pass0⟩
  exact
 (ss_cons (s_set L 2 (by rfl) (by first | exact Or.inl rfl | exact Or.inr rfl) (e_lst a_nil))
 (ss_cons (s_for L PassesOwn.never (i_any L (e_call (C.cal 15 "raw_partings" rfl) hr hk (by rfl) (a_cons (e_blt L .len nofun nofun rfl (by rfl) (q_len Z) bo_len (a_cons (e_var (pv 1)) a_nil)) a_nil))) (g_name (pg_name (i := 3) L.nd (by rfl) (by first | exact Or.inl rfl | exact Or.inr rfl)))
 (ss_cons (s_set L 4 (by rfl) (by first | exact Or.inl rfl | exact Or.inr rfl) (e_call (C.cal 17 "class_table" rfl) hr hk (by rfl) (a_cons (e_var (pv 1)) (a_cons (e_var (pv 3)) a_nil))))
 (ss_cons (s_if (t_val (e_call (C.cal 18 "keeps_by" rfl) hr hk (by rfl) (a_cons (e_var (pv 0)) (a_cons (e_var (pv 4)) a_nil))))
 (ss_cons (s_exp (e_bm L .append (by exact PySem.F.plainAttrs_list) (by exact PySem.F.slot_list_append) (by exact PySem.F.type_list_append) (e_var (pv 2)) (a_cons (e_tup (a_cons (e_var (pv 3)) (a_cons (e_var (pv 4)) a_nil))) a_nil)))
 ss_nil)
 ss_nil)
 ss_nil)))
 (ss_cons (s_ret (e_var (pv 2)))
 ss_nil)))
def n24 : List Str := ["thing"]
def p24 : List Str := ["thing"]
theorem sc24 : FnScope n24 p24 (defScope st24) := ⟨by kernel_rfl, by kernel_rfl, by kernel_rfl, by decide +kernel, by kernel_rfl, by decide +kernel, by decide +kernel⟩
theorem w24 {P : Program} {w : World} {K : PySem.W.Frag} {mg : Str → Option Value} {base : Heap} {T : Tab} {k : Nat} (Z : Hd K mg) (C : CallsG P w K mg base T k) {f : Addr} {cdv : Value} {A : Around} {outer : List Env} {s : Shared} {H : Hp} {E : XK} (hr : Room (k + 1) (A.deeper (envOfC "is_test" (defScope st24) s.heap.objs.size f cdv))) :
    PSs (cxOf CN0 P w K mg base n24 "is_test" (defScope st24) f cdv A outer s H E).nox (defBody st24) (tS (Nc K) (b24 T)) := by
  have hk : k ≤ k + 1 := Nat.le_succ k
  have hk2 : k + 1 ≤ k + 1 := Nat.le_refl _
  have L : Lx (Nc K) (cxOf CN0 P w K mg base n24 "is_test" (defScope st24) f cdv A outer s H E).nox := ⟨rfl, rfl, sc24.nd, (by show (A.deeper _).units + 200 < cLine; have := hr.un; omega), C8.pass0⟩
  exact
 (ss_cons (s_if (PW.pt (w_or (t_not (t_val (e_callP (C.pure 2) rfl (C.cal 2 "is_sized" rfl) hr hk (by rfl) (a_cons (e_var (pv 0)) (a_cons e_int (a_cons e_int a_nil)))))) (w_or (t_not (t_val (e_isi L .str (by rfl) (q_isinstance Z) (by rfl) (q_str Z) boot_str (e_idx L (e_var (pv 0)) e_int)))) (w_one_or (t_cmp L .notin (e_idx L (e_var (pv 0)) e_int) (e_tup (a_cons (e_gstrE e_w7 (by rfl) (q_SAME Z)) (a_cons (e_gstrE e_w6 (by rfl) (q_OTHER Z)) a_nil))) (by first | exact nobehind _ (by decide) (by decide) | rfl | with_unfolding_all rfl))))))
 (ss_cons (s_ret e_bl)
 ss_nil)
 ss_nil)
 (ss_cons (s_ret (e_and (e_callP (C.pure 1) rfl (C.cal 1 "is_term" rfl) hr hk (by rfl) (a_cons (e_idx L (e_var (pv 0)) e_int) a_nil)) (e_and (e_callP (C.pure 1) rfl (C.cal 1 "is_term" rfl) hr hk (by rfl) (a_cons (e_idx L (e_var (pv 0)) e_int) a_nil)) (e_one (e_cmp L .ne (e_idx L (e_var (pv 0)) e_int) (e_idx L (e_var (pv 0)) e_int) (by first | exact nobehind _ (by decide) (by decide) | rfl | with_unfolding_all rfl))))))
 ss_nil))
def n25 : List Str := ["thing"]
def p25 : List Str := ["thing"]
theorem sc25 : FnScope n25 p25 (defScope st25) := ⟨by kernel_rfl, by kernel_rfl, by kernel_rfl, by decide +kernel, by kernel_rfl, by decide +kernel, by decide +kernel⟩
theorem w25 {P : Program} {w : World} {K : PySem.W.Frag} {mg : Str → Option Value} {base : Heap} {T : Tab} {k : Nat} (Z : Hd K mg) (C : CallsG P w K mg base T k) {f : Addr} {cdv : Value} {A : Around} {outer : List Env} {s : Shared} {H : Hp} {E : XK} (hr : Room (k + 1) (A.deeper (envOfC "is_plain_deed" (defScope st25) s.heap.objs.size f cdv))) :
    PSs (cxOf CN0 P w K mg base n25 "is_plain_deed" (defScope st25) f cdv A outer s H E).nox (defBody st25) (tS (Nc K) (b25 T)) := by
  have hk : k ≤ k + 1 := Nat.le_succ k
  have hk2 : k + 1 ≤ k + 1 := Nat.le_refl _
  have L : Lx (Nc K) (cxOf CN0 P w K mg base n25 "is_plain_deed" (defScope st25) f cdv A outer s H E).nox := ⟨rfl, rfl, sc25.nd, (by show (A.deeper _).units + 200 < cLine; have := hr.un; omega), C8.pass0⟩
  exact
 (ss_cons (s_if (PW.pt (w_or (t_not (t_val (e_isi L .tup (by rfl) (q_isinstance Z) (by rfl) (q_tuple Z) boot_tuple (e_var (pv 0))))) (w_or (t_cmp L .lt (e_blt L .len nofun nofun rfl (by rfl) (q_len Z) bo_len (a_cons (e_var (pv 0)) a_nil)) e_int (by first | exact nobehind _ (by decide) (by decide) | rfl | with_unfolding_all rfl)) (w_one_or (t_not (t_val (e_isi L .str (by rfl) (q_isinstance Z) (by rfl) (q_str Z) boot_str (e_idx L (e_var (pv 0)) e_int))))))))
 (ss_cons (s_ret e_bl)
 ss_nil)
 ss_nil)
 (ss_cons (s_if (t_cmp L .eq (e_idx L (e_var (pv 0)) e_int) (e_gstrE e_w9 (by rfl) (q_FREE Z)) (by first | exact nobehind _ (by decide) (by decide) | rfl | with_unfolding_all rfl))
 (ss_cons (s_ret (e_and (e_cmp L .eq (e_blt L .len nofun nofun rfl (by rfl) (q_len Z) bo_len (a_cons (e_var (pv 0)) a_nil)) e_int (by first | exact nobehind _ (by decide) (by decide) | rfl | with_unfolding_all rfl)) (e_one (e_callP (C.pure 0) rfl (C.cal 0 "is_name" rfl) hr hk (by rfl) (a_cons (e_idx L (e_var (pv 0)) e_int) a_nil)))))
 ss_nil)
 ss_nil)
 (ss_cons (s_if (PW.pt (w_or (t_cmp L .notin (e_idx L (e_var (pv 0)) e_int) (e_gtupE L tu_PLAIN_DEEDS (by rfl) (q_PLAIN_DEEDS Z) (q_PLAIN_DEEDS_t Z)) (by first | exact nobehind _ (by decide) (by decide) | rfl | with_unfolding_all rfl)) (w_or (t_cmp L .ne (e_blt L .len nofun nofun rfl (by rfl) (q_len Z) bo_len (a_cons (e_var (pv 0)) a_nil)) e_int (by first | exact nobehind _ (by decide) (by decide) | rfl | with_unfolding_all rfl)) (w_one_or (t_not (t_val (e_callP (C.pure 0) rfl (C.cal 0 "is_name" rfl) hr hk (by rfl) (a_cons (e_idx L (e_var (pv 0)) e_int) a_nil))))))))
 (ss_cons (s_ret e_bl)
 ss_nil)
 ss_nil)
 (ss_cons (s_ret (e_ife (t_cmp L .eq (e_idx L (e_var (pv 0)) e_int) (e_gstrE e_w8 (by rfl) (q_READ Z)) (by first | exact nobehind _ (by decide) (by decide) | rfl | with_unfolding_all rfl)) (e_callP (C.pure 0) rfl (C.cal 0 "is_name" rfl) hr hk (by rfl) (a_cons (e_idx L (e_var (pv 0)) e_int) a_nil)) (e_callP (C.pure 1) rfl (C.cal 1 "is_term" rfl) hr hk (by rfl) (a_cons (e_idx L (e_var (pv 0)) e_int) a_nil))))
 ss_nil))))
def n26 : List Str := ["thing"]
def p26 : List Str := ["thing"]
theorem sc26 : FnScope n26 p26 (defScope st26) := ⟨by kernel_rfl, by kernel_rfl, by kernel_rfl, by decide +kernel, by kernel_rfl, by decide +kernel, by decide +kernel⟩
theorem w26 {P : Program} {w : World} {K : PySem.W.Frag} {mg : Str → Option Value} {base : Heap} {T : Tab} {k : Nat} (Z : Hd K mg) (C : CallsG P w K mg base T k) {f : Addr} {cdv : Value} {A : Around} {outer : List Env} {s : Shared} {H : Hp} {E : XK} (hr : Room (k + 1) (A.deeper (envOfC "has_deed_form" (defScope st26) s.heap.objs.size f cdv))) :
    PSs (cxOf CN0 P w K mg base n26 "has_deed_form" (defScope st26) f cdv A outer s H E).nox (defBody st26) (tS (Nc K) (b26 T)) := by
  have hk : k ≤ k + 1 := Nat.le_succ k
  have hk2 : k + 1 ≤ k + 1 := Nat.le_refl _
  have L : Lx (Nc K) (cxOf CN0 P w K mg base n26 "has_deed_form" (defScope st26) f cdv A outer s H E).nox := ⟨rfl, rfl, sc26.nd, (by show (A.deeper _).units + 200 < cLine; have := hr.un; omega), C8.pass0⟩
  exact
 (ss_cons (s_if (t_val (e_callP (C.pure 25) rfl (C.cal 25 "is_plain_deed" rfl) hr hk (by rfl) (a_cons (e_var (pv 0)) a_nil)))
 (ss_cons (s_ret e_bl)
 ss_nil)
 ss_nil)
 (ss_cons (s_if (PW.pt (w_or (t_not (t_val (e_callP (C.pure 2) rfl (C.cal 2 "is_sized" rfl) hr hk (by rfl) (a_cons (e_var (pv 0)) (a_cons e_int (a_cons e_int a_nil)))))) (w_or (t_not (t_val (e_isi L .str (by rfl) (q_isinstance Z) (by rfl) (q_str Z) boot_str (e_idx L (e_var (pv 0)) e_int)))) (w_one_or (t_cmp L .notin (e_idx L (e_var (pv 0)) e_int) (e_tup (a_cons (e_gstrE e_w11 (by rfl) (q_IF Z)) (a_cons (e_gstrE e_w10 (by rfl) (q_WHILE Z)) a_nil))) (by first | exact nobehind _ (by decide) (by decide) | rfl | with_unfolding_all rfl))))))
 (ss_cons (s_ret e_bl)
 ss_nil)
 ss_nil)
 (ss_cons (s_if (PW.pt (w_or (t_not (t_val (e_callP (C.pure 24) rfl (C.cal 24 "is_test" rfl) hr hk (by rfl) (a_cons (e_idx L (e_var (pv 0)) e_int) a_nil)))) (w_one_or (t_not (t_val (e_isi L .tup (by rfl) (q_isinstance Z) (by rfl) (q_tuple Z) boot_tuple (e_idx L (e_var (pv 0)) e_int)))))))
 (ss_cons (s_ret e_bl)
 ss_nil)
 ss_nil)
 (ss_cons (s_ret (e_ife (t_cmp L .eq (e_idx L (e_var (pv 0)) e_int) (e_gstrE e_w10 (by rfl) (q_WHILE Z)) (by first | exact nobehind _ (by decide) (by decide) | rfl | with_unfolding_all rfl)) (e_callP (C.pure 12) rfl (C.cal 12 "is_claim" rfl) hr hk (by rfl) (a_cons (e_idx L (e_var (pv 0)) e_int) a_nil)) (e_isi L .tup (by rfl) (q_isinstance Z) (by rfl) (q_tuple Z) boot_tuple (e_idx L (e_var (pv 0)) e_int))))
 ss_nil))))
def n27 : List Str := ["deed"]
def p27 : List Str := ["deed"]
theorem sc27 : FnScope n27 p27 (defScope st27) := ⟨by kernel_rfl, by kernel_rfl, by kernel_rfl, by decide +kernel, by kernel_rfl, by decide +kernel, by decide +kernel⟩
theorem w27 {P : Program} {w : World} {K : PySem.W.Frag} {mg : Str → Option Value} {base : Heap} {T : Tab} {k : Nat} (Z : Hd K mg) (C : CallsG P w K mg base T k) {f : Addr} {cdv : Value} {A : Around} {outer : List Env} {s : Shared} {H : Hp} {E : XK} (hr : Room (k + 1) (A.deeper (envOfC "lists_within" (defScope st27) s.heap.objs.size f cdv))) :
    PSs (cxOf CN0 P w K mg base n27 "lists_within" (defScope st27) f cdv A outer s H E).nox (defBody st27) (tS (Nc K) (b27 T)) := by
  have hk : k ≤ k + 1 := Nat.le_succ k
  have hk2 : k + 1 ≤ k + 1 := Nat.le_refl _
  have L : Lx (Nc K) (cxOf CN0 P w K mg base n27 "lists_within" (defScope st27) f cdv A outer s H E).nox := ⟨rfl, rfl, sc27.nd, (by show (A.deeper _).units + 200 < cLine; have := hr.un; omega), C8.pass0⟩
  exact
 (ss_cons (s_if (t_cmp L .eq (e_idx L (e_var (pv 0)) e_int) (e_gstrE e_w11 (by rfl) (q_IF Z)) (by first | exact nobehind _ (by decide) (by decide) | rfl | with_unfolding_all rfl))
 (ss_cons (s_ret (e_lst (a_cons (e_idx L (e_var (pv 0)) e_int) (a_cons (e_idx L (e_var (pv 0)) e_int) a_nil))))
 ss_nil)
 ss_nil)
 (ss_cons (s_ret (e_ife (t_cmp L .eq (e_idx L (e_var (pv 0)) e_int) (e_gstrE e_w10 (by rfl) (q_WHILE Z)) (by first | exact nobehind _ (by decide) (by decide) | rfl | with_unfolding_all rfl)) (e_lst (a_cons (e_idx L (e_var (pv 0)) e_int) a_nil)) (e_lst a_nil)))
 ss_nil))
def n28 : List Str := ["thing", "many", "waiting", "one", "deeds", "deep", "is_in_if", "inner"]
def p28 : List Str := ["thing"]
theorem sc28 : FnScope n28 p28 (defScope st28) := ⟨by kernel_rfl, by kernel_rfl, by kernel_rfl, by decide +kernel, by kernel_rfl, by decide +kernel, by decide +kernel⟩
theorem w28 {P : Program} {w : World} {K : PySem.W.Frag} {mg : Str → Option Value} {base : Heap} {T : Tab} {k : Nat} (Z : Hd K mg) (C : CallsG P w K mg base T k) {f : Addr} {cdv : Value} {A : Around} {outer : List Env} {s : Shared} {H : Hp} {E : XK} (hr : Room (k + 1) (A.deeper (envOfC "has_shape" (defScope st28) s.heap.objs.size f cdv))) :
    PSs (cxOf CN0 P w K mg base n28 "has_shape" (defScope st28) f cdv A outer s H E).nox (defBody st28) (tS (Nc K) (b28 T)) := by
  have hk : k ≤ k + 1 := Nat.le_succ k
  have hk2 : k + 1 ≤ k + 1 := Nat.le_refl _
  have L : Lx (Nc K) (cxOf CN0 P w K mg base n28 "has_shape" (defScope st28) f cdv A outer s H E).nox := ⟨rfl, rfl, sc28.nd, (by show (A.deeper _).units + 200 < cLine; have := hr.un; omega), C8.pass0⟩
  exact
 (ss_cons (s_if (t_not (t_val (e_isi L .tup (by rfl) (q_isinstance Z) (by rfl) (q_tuple Z) boot_tuple (e_var (pv 0)))))
 (ss_cons (s_ret e_bl)
 ss_nil)
 ss_nil)
 (ss_cons (s_par L 1 2 (by rfl) (by rfl) (by decide) (by rfl) (by rfl) (a_cons e_int (a_cons (e_lst (a_cons (e_tup (a_cons (e_var (pv 0)) (a_cons e_int (a_cons e_bl a_nil)))) a_nil)) a_nil)) (by rfl))
 (ss_cons (s_whl PassesOwn.never (t_cmp L .gt (e_blt L .len nofun nofun rfl (by rfl) (q_len Z) bo_len (a_cons (e_var (pv 2)) a_nil)) e_int (by first | exact nobehind _ (by decide) (by decide) | rfl | with_unfolding_all rfl))
 (ss_cons (s_asg (e_bm0 L .pop0 (by exact PySem.F.plainAttrs_list) (by exact PySem.F.slot_list_pop) (by exact PySem.F.type_list_pop) (e_var (pv 2)) (fun r to m o => pe_bm0 (by exact PySem.F.plainAttrs_list) (by exact PySem.F.slot_list_pop) (by exact PySem.F.type_list_pop) m o)) (g_tup L (g_cons (g_name (pg_name (i := 4) L.nd (by rfl) (by first | exact Or.inl rfl | exact Or.inr rfl))) (g_cons (g_name (pg_name (i := 5) L.nd (by rfl) (by first | exact Or.inl rfl | exact Or.inr rfl))) (g_cons (g_name (pg_name (i := 6) L.nd (by rfl) (by first | exact Or.inl rfl | exact Or.inr rfl))) g_nil)))))
 (ss_cons (s_aug L 1 .add (by rfl) (by first | exact Or.inl rfl | exact Or.inr rfl) (e_blt L .len nofun nofun rfl (by rfl) (q_len Z) bo_len (a_cons (e_var (pv 4)) a_nil)))
 (ss_cons (s_if (PW.pt (w_or (t_cmp L .gt (e_var (pv 1)) (e_gint (by rfl) (q_MOST_DEEDS Z)) (by first | exact nobehind _ (by decide) (by decide) | rfl | with_unfolding_all rfl)) (w_or (t_cmp L .gt (e_var (pv 5)) (e_gint (by rfl) (q_MOST_DEEP Z)) (by first | exact nobehind _ (by decide) (by decide) | rfl | with_unfolding_all rfl)) (w_one_or (t_not (t_val (e_blt L .all1 nofun nofun rfl (by rfl) (q_all Z) bo_all (a_cons (e_lcm L [("one", 3)] rfl rfl (i_any L (e_var (pv 4))) (blkOk_by (by kernel_rfl)) (fun _ _ _ _ _ => (g_name (pg_name (i := 3) (Ld.blk L _ _ _ _ _).nd (by rfl) (by first | exact Or.inl rfl | exact Or.inr rfl)))) (fun _ _ _ _ _ => ts_nil) (fun _ _ _ _ _ => (e_callP (C.pure 26) rfl (C.cal 26 "has_deed_form" rfl) hr hk (by rfl) (a_cons (e_var (pv 3)) a_nil)))) a_nil))))))))
 (ss_cons (s_ret e_bl)
 ss_nil)
 ss_nil)
 (ss_cons (s_if (PW.pt (w_and (t_val (e_var (pv 6))) (w_one_and (t_val (e_blt L .any1 nofun nofun rfl (by rfl) (q_any Z) bo_any (a_cons (e_lcm L [("one", 3)] rfl rfl (i_any L (e_var (pv 4))) (blkOk_by (by kernel_rfl)) (fun _ _ _ _ _ => (g_name (pg_name (i := 3) (Ld.blk L _ _ _ _ _).nd (by rfl) (by first | exact Or.inl rfl | exact Or.inr rfl)))) (fun _ _ _ _ _ => ts_nil) (fun _ _ _ _ _ => (e_cmp (Ld.blk L _ _ _ _ _) .eq (e_idx (Ld.blk L _ _ _ _ _) (e_var (pv 3)) e_int) (e_gstrE e_w10 (by rfl) (q_WHILE Z)) (by first | exact nobehind _ (by decide) (by decide) | rfl | with_unfolding_all rfl)))) a_nil))))))
 (ss_cons (s_ret e_bl)
 ss_nil)
 ss_nil)
 (ss_cons (s_for L PassesOwn.never (i_any L (e_var (pv 4))) (g_name (pg_name (i := 3) L.nd (by rfl) (by first | exact Or.inl rfl | exact Or.inr rfl)))
 (ss_cons (s_exp (e_bm L .extend (by exact PySem.F.plainAttrs_list) (by exact PySem.F.slot_list_extend) (by exact PySem.F.type_list_extend) (e_var (pv 2)) (a_cons (e_lcm L [("inner", 7)] rfl rfl (i_any L (e_call (C.cal 27 "lists_within" rfl) hr hk (by rfl) (a_cons (e_var (pv 3)) a_nil))) (blkOk_by (by kernel_rfl)) (fun _ _ _ _ _ => (g_name (pg_name (i := 7) (Ld.blk L _ _ _ _ _).nd (by rfl) (by first | exact Or.inl rfl | exact Or.inr rfl)))) (fun _ _ _ _ _ => ts_nil) (fun _ _ _ _ _ => (e_tup (a_cons (e_var (pv 7)) (a_cons (e_bin (Ld.blk L _ _ _ _ _) .add (e_var (pv 5)) e_int) (a_cons (e_or (e_var (pv 6)) (e_one (e_cmp (Ld.blk L _ _ _ _ _) .eq (e_idx (Ld.blk L _ _ _ _ _) (e_var (pv 3)) e_int) (e_gstrE e_w11 (by rfl) (q_IF Z)) (by first | exact nobehind _ (by decide) (by decide) | rfl | with_unfolding_all rfl)))) a_nil)))))) a_nil)))
 ss_nil))
 ss_nil))))))
 (ss_cons (s_ret e_bl)
 ss_nil))))
def n29 : List Str := ["deeds", "found", "waiting", "one"]
def p29 : List Str := ["deeds"]
theorem sc29 : FnScope n29 p29 (defScope st29) := ⟨by kernel_rfl, by kernel_rfl, by kernel_rfl, by decide +kernel, by kernel_rfl, by decide +kernel, by decide +kernel⟩
theorem w29 {P : Program} {w : World} {K : PySem.W.Frag} {mg : Str → Option Value} {base : Heap} {T : Tab} {k : Nat} (Z : Hd K mg) (C : CallsG P w K mg base T k) {f : Addr} {cdv : Value} {A : Around} {outer : List Env} {s : Shared} {H : Hp} {E : XK} (hr : Room (k + 1) (A.deeper (envOfC "all_deeds" (defScope st29) s.heap.objs.size f cdv))) :
    PSs (cxOf CN0 P w K mg base n29 "all_deeds" (defScope st29) f cdv A outer s H E).nox (defBody st29) (tS (Nc K) (b29 T)) := by
  have hk : k ≤ k + 1 := Nat.le_succ k
  have hk2 : k + 1 ≤ k + 1 := Nat.le_refl _
  have L : Lx (Nc K) (cxOf CN0 P w K mg base n29 "all_deeds" (defScope st29) f cdv A outer s H E).nox := ⟨rfl, rfl, sc29.nd, (by show (A.deeper _).units + 200 < cLine; have := hr.un; omega), C8.pass0⟩
  exact
 (ss_cons (s_par L 1 2 (by rfl) (by rfl) (by decide) (by rfl) (by rfl) (a_cons (e_lst a_nil) (a_cons (e_lst (a_cons (e_var (pv 0)) a_nil)) a_nil)) (by rfl))
 (ss_cons (s_whl PassesOwn.never (t_cmp L .gt (e_blt L .len nofun nofun rfl (by rfl) (q_len Z) bo_len (a_cons (e_var (pv 2)) a_nil)) e_int (by first | exact nobehind _ (by decide) (by decide) | rfl | with_unfolding_all rfl))
 (ss_cons (s_for L PassesOwn.never (i_any L (e_bm0 L .pop0 (by exact PySem.F.plainAttrs_list) (by exact PySem.F.slot_list_pop) (by exact PySem.F.type_list_pop) (e_var (pv 2)) (fun r to m o => pe_bm0 (by exact PySem.F.plainAttrs_list) (by exact PySem.F.slot_list_pop) (by exact PySem.F.type_list_pop) m o))) (g_name (pg_name (i := 3) L.nd (by rfl) (by first | exact Or.inl rfl | exact Or.inr rfl)))
 (ss_cons (s_exp (e_bm L .append (by exact PySem.F.plainAttrs_list) (by exact PySem.F.slot_list_append) (by exact PySem.F.type_list_append) (e_var (pv 1)) (a_cons (e_var (pv 3)) a_nil)))
 (ss_cons (s_exp (e_bm L .extend (by exact PySem.F.plainAttrs_list) (by exact PySem.F.slot_list_extend) (by exact PySem.F.type_list_extend) (e_var (pv 2)) (a_cons (e_call (C.cal 27 "lists_within" rfl) hr hk (by rfl) (a_cons (e_var (pv 3)) a_nil)) a_nil)))
 ss_nil)))
 ss_nil))
 (ss_cons (s_ret (e_var (pv 1)))
 ss_nil)))
def n30 : List Str := ["deed", "found"]
def p30 : List Str := ["deed"]
theorem sc30 : FnScope n30 p30 (defScope st30) := ⟨by kernel_rfl, by kernel_rfl, by kernel_rfl, by decide +kernel, by kernel_rfl, by decide +kernel, by decide +kernel⟩
theorem w30 {P : Program} {w : World} {K : PySem.W.Frag} {mg : Str → Option Value} {base : Heap} {T : Tab} {k : Nat} (Z : Hd K mg) (C : CallsG P w K mg base T k) {f : Addr} {cdv : Value} {A : Around} {outer : List Env} {s : Shared} {H : Hp} {E : XK} (hr : Room (k + 1) (A.deeper (envOfC "terms_of" (defScope st30) s.heap.objs.size f cdv))) :
    PSs (cxOf CN0 P w K mg base n30 "terms_of" (defScope st30) f cdv A outer s H E).nox (defBody st30) (tS (Nc K) (b30 T)) := by
  have hk : k ≤ k + 1 := Nat.le_succ k
  have hk2 : k + 1 ≤ k + 1 := Nat.le_refl _
  have L : Lx (Nc K) (cxOf CN0 P w K mg base n30 "terms_of" (defScope st30) f cdv A outer s H E).nox := ⟨rfl, rfl, sc30.nd, (by show (A.deeper _).units + 200 < cLine; have := hr.un; omega), C8.pass0⟩
  exact
 (ss_cons (s_if (t_cmp L .notin (e_idx L (e_var (pv 0)) e_int) (e_tup (a_cons (e_gstrE e_w11 (by rfl) (q_IF Z)) (a_cons (e_gstrE e_w10 (by rfl) (q_WHILE Z)) a_nil))) (by first | exact nobehind _ (by decide) (by decide) | rfl | with_unfolding_all rfl))
 (ss_cons (s_ret (e_bltT L .list1 nofun nofun rfl (by rfl) (q_list Z) bo_list (a_cons (e_slc L (e_var (pv 0)) (o_some e_int) o_none) a_nil)))
 ss_nil)
 ss_nil)
 (ss_cons (s_set L 1 (by rfl) (by first | exact Or.inl rfl | exact Or.inr rfl) (e_bltT L .list1 nofun nofun rfl (by rfl) (q_list Z) bo_list (a_cons (e_slc L (e_idx L (e_var (pv 0)) e_int) (o_some e_int) o_none) a_nil)))
 (ss_cons (s_ret (e_ife (t_cmp L .eq (e_idx L (e_var (pv 0)) e_int) (e_gstrE e_w10 (by rfl) (q_WHILE Z)) (by first | exact nobehind _ (by decide) (by decide) | rfl | with_unfolding_all rfl)) (e_bin L .add (e_var (pv 1)) (e_call (C.cal 10 "terms_told" rfl) hr hk (by rfl) (a_cons (e_idx L (e_idx L (e_var (pv 0)) e_int) e_int) (a_cons (e_idx L (e_idx L (e_var (pv 0)) e_int) e_int) (a_cons (e_idx L (e_idx L (e_var (pv 0)) e_int) e_int) a_nil))))) (e_var (pv 1))))
 ss_nil)))
def n31 : List Str := ["deeds", "found", "one", "term"]
def p31 : List Str := ["deeds"]
theorem sc31 : FnScope n31 p31 (defScope st31) := ⟨by kernel_rfl, by kernel_rfl, by kernel_rfl, by decide +kernel, by kernel_rfl, by decide +kernel, by decide +kernel⟩
theorem w31 {P : Program} {w : World} {K : PySem.W.Frag} {mg : Str → Option Value} {base : Heap} {T : Tab} {k : Nat} (Z : Hd K mg) (C : CallsG P w K mg base T k) {f : Addr} {cdv : Value} {A : Around} {outer : List Env} {s : Shared} {H : Hp} {E : XK} (hr : Room (k + 1) (A.deeper (envOfC "raw_used" (defScope st31) s.heap.objs.size f cdv))) :
    PSs (cxOf CN0 P w K mg base n31 "raw_used" (defScope st31) f cdv A outer s H E).nox (defBody st31) (tS (Nc K) (b31 T)) := by
  have hk : k ≤ k + 1 := Nat.le_succ k
  have hk2 : k + 1 ≤ k + 1 := Nat.le_refl _
  have L : Lx (Nc K) (cxOf CN0 P w K mg base n31 "raw_used" (defScope st31) f cdv A outer s H E).nox := ⟨rfl, rfl, sc31.nd, (by show (A.deeper _).units + 200 < cLine; have := hr.un; omega), C8.pass0⟩
  exact
 (ss_cons (s_set L 1 (by rfl) (by first | exact Or.inl rfl | exact Or.inr rfl) (e_lst a_nil))
 (ss_cons (s_for L PassesOwn.never (i_any L (e_call (C.cal 29 "all_deeds" rfl) hr hk (by rfl) (a_cons (e_var (pv 0)) a_nil))) (g_name (pg_name (i := 2) L.nd (by rfl) (by first | exact Or.inl rfl | exact Or.inr rfl)))
 (ss_cons (s_exp (e_bm L .extend (by exact PySem.F.plainAttrs_list) (by exact PySem.F.slot_list_extend) (by exact PySem.F.type_list_extend) (e_var (pv 1)) (a_cons (e_lcm L [("term", 3)] rfl rfl (i_any L (e_call (C.cal 30 "terms_of" rfl) hr hk (by rfl) (a_cons (e_var (pv 2)) a_nil))) (blkOk_by (by kernel_rfl)) (fun _ _ _ _ _ => (g_name (pg_name (i := 3) (Ld.blk L _ _ _ _ _).nd (by rfl) (by first | exact Or.inl rfl | exact Or.inr rfl)))) (fun _ _ _ _ _ => (ts_one (t_cmp (Ld.blk L _ _ _ _ _) .ne (e_var (pv 3)) (e_gstrE e_w1 (by rfl) (q_NIL Z)) (by first | exact nobehind _ (by decide) (by decide) | rfl | with_unfolding_all rfl)))) (fun _ _ _ _ _ => (e_var (pv 3)))) a_nil)))
 ss_nil))
 (ss_cons (s_ret (e_callP (C.pure 6) rfl (C.cal 6 "without_doubles" rfl) hr hk (by rfl) (a_cons (e_var (pv 1)) a_nil)))
 ss_nil)))
def n32 : List Str := ["thing"]
def p32 : List Str := ["thing"]
theorem sc32 : FnScope n32 p32 (defScope st32) := ⟨by kernel_rfl, by kernel_rfl, by kernel_rfl, by decide +kernel, by kernel_rfl, by decide +kernel, by decide +kernel⟩
theorem w32 {P : Program} {w : World} {K : PySem.W.Frag} {mg : Str → Option Value} {base : Heap} {T : Tab} {k : Nat} (Z : Hd K mg) (C : CallsG P w K mg base T k) {f : Addr} {cdv : Value} {A : Around} {outer : List Env} {s : Shared} {H : Hp} {E : XK} (hr : Room (k + 1) (A.deeper (envOfC "is_program" (defScope st32) s.heap.objs.size f cdv))) :
    PSs (cxOf CN0 P w K mg base n32 "is_program" (defScope st32) f cdv A outer s H E).nox (defBody st32) (tS (Nc K) (b32 T)) := by
  have hk : k ≤ k + 1 := Nat.le_succ k
  have hk2 : k + 1 ≤ k + 1 := Nat.le_refl _
  have L : Lx (Nc K) (cxOf CN0 P w K mg base n32 "is_program" (defScope st32) f cdv A outer s H E).nox := ⟨rfl, rfl, sc32.nd, (by show (A.deeper _).units + 200 < cLine; have := hr.un; omega), C8.pass0⟩
  exact
 (ss_cons (s_ret (e_and (e_callP (C.pure 28) rfl (C.cal 28 "has_shape" rfl) hr hk (by rfl) (a_cons (e_var (pv 0)) a_nil)) (e_one (e_cmp L .le (e_blt L .len nofun nofun rfl (by rfl) (q_len Z) bo_len (a_cons (e_callP (C.pure 31) rfl (C.cal 31 "raw_used" rfl) hr hk (by rfl) (a_cons (e_var (pv 0)) a_nil)) a_nil)) (e_gint (by rfl) (q_MOST_PROGRAM_NAMES Z)) (by first | exact nobehind _ (by decide) (by decide) | rfl | with_unfolding_all rfl)))))
 ss_nil)
def n33 : List Str := ["thing", "one"]
def p33 : List Str := ["thing"]
theorem sc33 : FnScope n33 p33 (defScope st33) := ⟨by kernel_rfl, by kernel_rfl, by kernel_rfl, by decide +kernel, by kernel_rfl, by decide +kernel, by decide +kernel⟩
theorem w33 {P : Program} {w : World} {K : PySem.W.Frag} {mg : Str → Option Value} {base : Heap} {T : Tab} {k : Nat} (Z : Hd K mg) (C : CallsG P w K mg base T k) {f : Addr} {cdv : Value} {A : Around} {outer : List Env} {s : Shared} {H : Hp} {E : XK} (hr : Room (k + 1) (A.deeper (envOfC "are_straight" (defScope st33) s.heap.objs.size f cdv))) :
    PSs (cxOf CN0 P w K mg base n33 "are_straight" (defScope st33) f cdv A outer s H E).nox (defBody st33) (tS (Nc K) (b33 T)) := by
  have hk : k ≤ k + 1 := Nat.le_succ k
  have hk2 : k + 1 ≤ k + 1 := Nat.le_refl _
  have L : Lx (Nc K) (cxOf CN0 P w K mg base n33 "are_straight" (defScope st33) f cdv A outer s H E).nox := ⟨rfl, rfl, sc33.nd, (by show (A.deeper _).units + 200 < cLine; have := hr.un; omega), C8.pass0⟩
  exact
 (ss_cons (s_ret (e_and (e_callP (C.pure 32) rfl (C.cal 32 "is_program" rfl) hr hk (by rfl) (a_cons (e_var (pv 0)) a_nil)) (e_one (e_not (e_blt L .any1 nofun nofun rfl (by rfl) (q_any Z) bo_any (a_cons (e_lcm L [("one", 1)] rfl rfl (i_any L (e_call (C.cal 29 "all_deeds" rfl) hr hk (by rfl) (a_cons (e_var (pv 0)) a_nil))) (blkOk_by (by kernel_rfl)) (fun _ _ _ _ _ => (g_name (pg_name (i := 1) (Ld.blk L _ _ _ _ _).nd (by rfl) (by first | exact Or.inl rfl | exact Or.inr rfl)))) (fun _ _ _ _ _ => ts_nil) (fun _ _ _ _ _ => (e_cmp (Ld.blk L _ _ _ _ _) .eq (e_idx (Ld.blk L _ _ _ _ _) (e_var (pv 1)) e_int) (e_gstrE e_w10 (by rfl) (q_WHILE Z)) (by first | exact nobehind _ (by decide) (by decide) | rfl | with_unfolding_all rfl)))) a_nil))))))
 ss_nil)
def n34 : List Str := ["claim", "names", "found", "parting", "table", "edges"]
def p34 : List Str := ["claim", "names"]
theorem sc34 : FnScope n34 p34 (defScope st34) := ⟨by kernel_rfl, by kernel_rfl, by kernel_rfl, by decide +kernel, by kernel_rfl, by decide +kernel, by decide +kernel⟩
theorem w34 {P : Program} {w : World} {K : PySem.W.Frag} {mg : Str → Option Value} {base : Heap} {T : Tab} {k : Nat} (Z : Hd K mg) (C : CallsG P w K mg base T k) {f : Addr} {cdv : Value} {A : Around} {outer : List Env} {s : Shared} {H : Hp} {E : XK} (hr : Room (k + 1) (A.deeper (envOfC "raw_pictures" (defScope st34) s.heap.objs.size f cdv))) :
    PSs (cxOf CN0 P w K mg base n34 "raw_pictures" (defScope st34) f cdv A outer s H E).nox (defBody st34) (tS (Nc K) (b34 T)) := by
  have hk : k ≤ k + 1 := Nat.le_succ k
  have hk2 : k + 1 ≤ k + 1 := Nat.le_refl _
  have L : Lx (Nc K) (cxOf CN0 P w K mg base n34 "raw_pictures" (defScope st34) f cdv A outer s H E).nox := ⟨rfl, rfl, sc34.nd, (by show (A.deeper _).units + 200 < cLine; have := hr.un; omega), C8.pass0⟩
  exact
 (ss_cons (s_set L 2 (by rfl) (by first | exact Or.inl rfl | exact Or.inr rfl) (e_lst a_nil))
 (ss_cons (s_for L PassesOwn.never (i_any L (e_call (C.cal 23 "live_partings" rfl) hr hk (by rfl) (a_cons (e_var (pv 0)) (a_cons (e_var (pv 1)) a_nil)))) (g_tup L (g_cons (g_name (pg_name (i := 3) L.nd (by rfl) (by first | exact Or.inl rfl | exact Or.inr rfl))) (g_cons (g_name (pg_name (i := 4) L.nd (by rfl) (by first | exact Or.inl rfl | exact Or.inr rfl))) g_nil)))
 (ss_cons (s_if (t_cmp L .isN (e_call (C.cal 20 "dead_by" rfl) hr hk (by rfl) (a_cons (e_var (pv 0)) (a_cons (e_var (pv 4)) a_nil))) e_non (by first | exact nobehind _ (by decide) (by decide) | rfl | with_unfolding_all rfl))
 (ss_cons (s_set L 5 (by rfl) (by first | exact Or.inl rfl | exact Or.inr rfl) (e_bltT L .tuple1 nofun nofun rfl (by rfl) (q_tuple Z) bo_tuple (a_cons (e_blt L .sorted1 nofun nofun rfl (by rfl) (q_sorted Z) bo_sorted (a_cons (e_call (C.cal 22 "edges_by" rfl) hr hk (by rfl) (a_cons (e_var (pv 0)) (a_cons (e_var (pv 4)) a_nil))) a_nil)) a_nil)))
 (ss_cons (s_exp (e_bm L .append (by exact PySem.F.plainAttrs_list) (by exact PySem.F.slot_list_append) (by exact PySem.F.type_list_append) (e_var (pv 2)) (a_cons (e_tup (a_cons (e_callP (C.pure 16) rfl (C.cal 16 "raw_classes_many" rfl) hr hk (by rfl) (a_cons (e_var (pv 3)) a_nil)) (a_cons (e_tupleZ L (by rfl) (q_tuple Z) (by rfl) (q_zip Z) (e_var (pv 1)) (e_slc L (e_var (pv 3)) (o_some e_int) o_none)) (a_cons (e_var (pv 5)) (a_cons (e_tup a_nil) a_nil))))) a_nil)))
 ss_nil))
 ss_nil)
 ss_nil))
 (ss_cons (s_ret (e_var (pv 2)))
 ss_nil)))
def n35 : List Str := ["self", "picture", "many", "names", "edges", "bare", "node", "begin", "word", "end"]
def p35 : List Str := ["self", "picture"]
theorem sc35 : FnScope n35 p35 (defScope st35) := ⟨by kernel_rfl, by kernel_rfl, by kernel_rfl, by decide +kernel, by kernel_rfl, by decide +kernel, by decide +kernel⟩
theorem w35 {P : Program} {w : World} {K : PySem.W.Frag} {mg : Str → Option Value} {base : Heap} {T : Tab} {k : Nat} (Z : Hd K mg) (C : CallsG P w K mg base T k) {f : Addr} {cdv : Value} {A : Around} {outer : List Env} {s : Shared} {H : Hp} {E : XK} (hr : Room (k + 1) (A.deeper (envOfC "Track.__init__" (defScope st35) s.heap.objs.size f cdv))) :
    PSs (cxOf CN0 P w K mg base n35 "Track.__init__" (defScope st35) f cdv A outer s H E).nox (defBody st35) (tS (Nc K) (b35 T)) := by
  have hk : k ≤ k + 1 := Nat.le_succ k
  have hk2 : k + 1 ≤ k + 1 := Nat.le_refl _
  have L : Lx (Nc K) (cxOf CN0 P w K mg base n35 "Track.__init__" (defScope st35) f cdv A outer s H E).nox := ⟨rfl, rfl, sc35.nd, (by show (A.deeper _).units + 200 < cLine; have := hr.un; omega), C8.pass0⟩
  exact
 (ss_cons (s_asg (e_var (pv 1)) (g_tup L (g_cons (g_name (pg_name (i := 2) L.nd (by rfl) (by first | exact Or.inl rfl | exact Or.inr rfl))) (g_cons (g_name (pg_name (i := 3) L.nd (by rfl) (by first | exact Or.inl rfl | exact Or.inr rfl))) (g_cons (g_name (pg_name (i := 4) L.nd (by rfl) (by first | exact Or.inl rfl | exact Or.inr rfl))) (g_cons (g_name (pg_name (i := 5) L.nd (by rfl) (by first | exact Or.inl rfl | exact Or.inr rfl))) g_nil))))))
 (ss_cons (s_fld L (f_1 K) rfl (e_var (pv 0)) (e_var (pv 2)))
 (ss_cons (s_fld L (f_2 K) rfl (e_var (pv 0)) (e_bltT L .dict1 nofun nofun rfl (by rfl) (q_dict Z) bo_dict (a_cons (e_var (pv 3)) a_nil)))
 (ss_cons (s_fld L (f_3 K) rfl (e_var (pv 0)) (e_dcm L [("begin", 7), ("word", 8), ("end", 9)] rfl rfl (i_any L (e_var (pv 4))) (blkOk_by (by kernel_rfl)) (fun _ _ _ _ _ => (g_tup (Ld.blk L _ _ _ _ _) (g_cons (g_name (pg_name (i := 7) (Ld.blk L _ _ _ _ _).nd (by rfl) (by first | exact Or.inl rfl | exact Or.inr rfl))) (g_cons (g_name (pg_name (i := 8) (Ld.blk L _ _ _ _ _).nd (by rfl) (by first | exact Or.inl rfl | exact Or.inr rfl))) (g_cons (g_name (pg_name (i := 9) (Ld.blk L _ _ _ _ _).nd (by rfl) (by first | exact Or.inl rfl | exact Or.inr rfl))) g_nil))))) (fun _ _ _ _ _ => ts_nil) (fun _ _ _ _ _ => (e_var (pv 7))) (fun _ _ _ _ _ => (e_tup (a_cons (e_var (pv 8)) (a_cons (e_var (pv 9)) a_nil))))))
 (ss_cons (s_fld L (f_4 K) rfl (e_var (pv 0)) (e_bltT L .dict1 nofun nofun rfl (by rfl) (q_dict Z) bo_dict (a_cons (e_var (pv 3)) a_nil)))
 (ss_cons (s_fld L (f_5 K) rfl (e_var (pv 0)) (e_bltT L .dict1 nofun nofun rfl (by rfl) (q_dict Z) bo_dict (a_cons (e_fld L (f_3 K) rfl (e_var (pv 0))) a_nil)))
 (ss_cons (s_fld L (f_6 K) rfl (e_var (pv 0)) (e_dcm L [("node", 6)] rfl rfl (i_any L (e_var (pv 5))) (blkOk_by (by kernel_rfl)) (fun _ _ _ _ _ => (g_name (pg_name (i := 6) (Ld.blk L _ _ _ _ _).nd (by rfl) (by first | exact Or.inl rfl | exact Or.inr rfl)))) (fun _ _ _ _ _ => ts_nil) (fun _ _ _ _ _ => (e_var (pv 6))) (fun _ _ _ _ _ => e_bl)))
 (ss_cons (s_fld L (f_7 K) rfl (e_var (pv 0)) (e_lst a_nil))
 ss_nil))))))))
def n36 : List Str := ["self", "found"]
def p36 : List Str := ["self"]
theorem sc36 : FnScope n36 p36 (defScope st36) := ⟨by kernel_rfl, by kernel_rfl, by kernel_rfl, by decide +kernel, by kernel_rfl, by decide +kernel, by decide +kernel⟩
theorem w36 {P : Program} {w : World} {K : PySem.W.Frag} {mg : Str → Option Value} {base : Heap} {T : Tab} {k : Nat} (Z : Hd K mg) (C : CallsG P w K mg base T k) {f : Addr} {cdv : Value} {A : Around} {outer : List Env} {s : Shared} {H : Hp} {E : XK} (hr : Room (k + 1) (A.deeper (envOfC "Track.twin" (defScope st36) s.heap.objs.size f cdv))) :
    PSs (cxOf CN0 P w K mg base n36 "Track.twin" (defScope st36) f cdv A outer s H E).nox (defBody st36) (tS (Nc K) (b36 T)) := by
  have hk : k ≤ k + 1 := Nat.le_succ k
  have hk2 : k + 1 ≤ k + 1 := Nat.le_refl _
  have L : Lx (Nc K) (cxOf CN0 P w K mg base n36 "Track.twin" (defScope st36) f cdv A outer s H E).nox := ⟨rfl, rfl, sc36.nd, (by show (A.deeper _).units + 200 < cLine; have := hr.un; omega), C8.pass0⟩
  exact
 (ss_cons (s_set L 1 (by rfl) (by first | exact Or.inl rfl | exact Or.inr rfl) (e_mk (C.ok 0 (by decide)) (C.mak 0 (by decide)) hr hk2 (by rfl) (a_cons (e_tup (a_cons (e_fld L (f_1 K) rfl (e_var (pv 0))) (a_cons (e_tup a_nil) (a_cons (e_tup a_nil) (a_cons (e_tup a_nil) a_nil))))) a_nil)))
 (ss_cons (s_fld L (f_2 K) rfl (e_var (pv 1)) (e_bltT L .dict1 nofun nofun rfl (by rfl) (q_dict Z) bo_dict (a_cons (e_fld L (f_2 K) rfl (e_var (pv 0))) a_nil)))
 (ss_cons (s_fld L (f_3 K) rfl (e_var (pv 1)) (e_bltT L .dict1 nofun nofun rfl (by rfl) (q_dict Z) bo_dict (a_cons (e_fld L (f_3 K) rfl (e_var (pv 0))) a_nil)))
 (ss_cons (s_fld L (f_4 K) rfl (e_var (pv 1)) (e_bltT L .dict1 nofun nofun rfl (by rfl) (q_dict Z) bo_dict (a_cons (e_fld L (f_4 K) rfl (e_var (pv 0))) a_nil)))
 (ss_cons (s_fld L (f_5 K) rfl (e_var (pv 1)) (e_bltT L .dict1 nofun nofun rfl (by rfl) (q_dict Z) bo_dict (a_cons (e_fld L (f_5 K) rfl (e_var (pv 0))) a_nil)))
 (ss_cons (s_fld L (f_6 K) rfl (e_var (pv 1)) (e_bltT L .dict1 nofun nofun rfl (by rfl) (q_dict Z) bo_dict (a_cons (e_fld L (f_6 K) rfl (e_var (pv 0))) a_nil)))
 (ss_cons (s_fld L (f_7 K) rfl (e_var (pv 1)) (e_bltT L .list1 nofun nofun rfl (by rfl) (q_list Z) bo_list (a_cons (e_fld L (f_7 K) rfl (e_var (pv 0))) a_nil)))
 (ss_cons (s_ret (e_var (pv 1)))
 ss_nil))))))))
def n37 : List Str := ["self", "term"]
def p37 : List Str := ["self", "term"]
theorem sc37 : FnScope n37 p37 (defScope st37) := ⟨by kernel_rfl, by kernel_rfl, by kernel_rfl, by decide +kernel, by kernel_rfl, by decide +kernel, by decide +kernel⟩
theorem w37 {P : Program} {w : World} {K : PySem.W.Frag} {mg : Str → Option Value} {base : Heap} {T : Tab} {k : Nat} (Z : Hd K mg) (C : CallsG P w K mg base T k) {f : Addr} {cdv : Value} {A : Around} {outer : List Env} {s : Shared} {H : Hp} {E : XK} (hr : Room (k + 1) (A.deeper (envOfC "Track.node_of" (defScope st37) s.heap.objs.size f cdv))) :
    PSs (cxOf CN0 P w K mg base n37 "Track.node_of" (defScope st37) f cdv A outer s H E).nox (defBody st37) (tS (Nc K) (b37 T)) := by
  have hk : k ≤ k + 1 := Nat.le_succ k
  have hk2 : k + 1 ≤ k + 1 := Nat.le_refl _
  have L : Lx (Nc K) (cxOf CN0 P w K mg base n37 "Track.node_of" (defScope st37) f cdv A outer s H E).nox := ⟨rfl, rfl, sc37.nd, (by show (A.deeper _).units + 200 < cLine; have := hr.un; omega), C8.pass0⟩
  exact
 (ss_cons (s_ret (e_ife (t_cmp L .eq (e_var (pv 1)) (e_gstrE e_w1 (by rfl) (q_NIL Z)) (by first | exact nobehind _ (by decide) (by decide) | rfl | with_unfolding_all rfl)) e_int (e_idx L (e_fld L (f_4 K) rfl (e_var (pv 0))) (e_var (pv 1)))))
 ss_nil)
def n38 : List Str := ["self"]
def p38 : List Str := ["self"]
theorem sc38 : FnScope n38 p38 (defScope st38) := ⟨by kernel_rfl, by kernel_rfl, by kernel_rfl, by decide +kernel, by kernel_rfl, by decide +kernel, by decide +kernel⟩
theorem w38 {P : Program} {w : World} {K : PySem.W.Frag} {mg : Str → Option Value} {base : Heap} {T : Tab} {k : Nat} (Z : Hd K mg) (C : CallsG P w K mg base T k) {f : Addr} {cdv : Value} {A : Around} {outer : List Env} {s : Shared} {H : Hp} {E : XK} (hr : Room (k + 1) (A.deeper (envOfC "Track.fresh_node" (defScope st38) s.heap.objs.size f cdv))) :
    PSs (cxOf CN0 P w K mg base n38 "Track.fresh_node" (defScope st38) f cdv A outer s H E).nox (defBody st38) (tS (Nc K) (b38 T)) := by
  have hk : k ≤ k + 1 := Nat.le_succ k
  have hk2 : k + 1 ≤ k + 1 := Nat.le_refl _
  have L : Lx (Nc K) (cxOf CN0 P w K mg base n38 "Track.fresh_node" (defScope st38) f cdv A outer s H E).nox := ⟨rfl, rfl, sc38.nd, (by show (A.deeper _).units + 200 < cLine; have := hr.un; omega), C8.pass0⟩
  exact
 (ss_cons (s_if (t_cmp L .eq (e_fld L (f_1 K) rfl (e_var (pv 0))) (e_gint (by rfl) (q_MOST_NODES Z)) (by first | exact nobehind _ (by decide) (by decide) | rfl | with_unfolding_all rfl))
 (ss_cons s_never
 ss_nil)
 ss_nil)
 (ss_cons (s_fldaug L (op := .add) (by first | exact .inl rfl | exact .inr rfl) (f_1 K) rfl (e_var (pv 0)) e_int)
 (ss_cons (s_ret (e_bin L .sub (e_fld L (f_1 K) rfl (e_var (pv 0))) e_int))
 ss_nil)))
def n39 : List Str := ["self", "node", "edge"]
def p39 : List Str := ["self", "node", "edge"]
theorem sc39 : FnScope n39 p39 (defScope st39) := ⟨by kernel_rfl, by kernel_rfl, by kernel_rfl, by decide +kernel, by kernel_rfl, by decide +kernel, by decide +kernel⟩
theorem w39 {P : Program} {w : World} {K : PySem.W.Frag} {mg : Str → Option Value} {base : Heap} {T : Tab} {k : Nat} (Z : Hd K mg) (C : CallsG P w K mg base T k) {f : Addr} {cdv : Value} {A : Around} {outer : List Env} {s : Shared} {H : Hp} {E : XK} (hr : Room (k + 1) (A.deeper (envOfC "Track.set_both" (defScope st39) s.heap.objs.size f cdv))) :
    PSs (cxOf CN0 P w K mg base n39 "Track.set_both" (defScope st39) f cdv A outer s H E).nox (defBody st39) (tS (Nc K) (b39 T)) := by
  have hk : k ≤ k + 1 := Nat.le_succ k
  have hk2 : k + 1 ≤ k + 1 := Nat.le_refl _
  have L : Lx (Nc K) (cxOf CN0 P w K mg base n39 "Track.set_both" (defScope st39) f cdv A outer s H E).nox := ⟨rfl, rfl, sc39.nd, (by show (A.deeper _).units + 200 < cLine; have := hr.un; omega), C8.pass0⟩
  exact
 (ss_cons (s_setI L (e_fld L (f_3 K) rfl (e_var (pv 0))) (e_var (pv 1)) (e_var (pv 2)))
 (ss_cons (s_setI L (e_fld L (f_5 K) rfl (e_var (pv 0))) (e_var (pv 1)) (e_var (pv 2)))
 ss_nil))
def n40 : List Str := ["self", "names", "edges", "name", "node"]
def p40 : List Str := ["self"]
theorem sc40 : FnScope n40 p40 (defScope st40) := ⟨by kernel_rfl, by kernel_rfl, by kernel_rfl, by decide +kernel, by kernel_rfl, by decide +kernel, by decide +kernel⟩
theorem w40 {P : Program} {w : World} {K : PySem.W.Frag} {mg : Str → Option Value} {base : Heap} {T : Tab} {k : Nat} (Z : Hd K mg) (C : CallsG P w K mg base T k) {f : Addr} {cdv : Value} {A : Around} {outer : List Env} {s : Shared} {H : Hp} {E : XK} (hr : Room (k + 1) (A.deeper (envOfC "Track.picture" (defScope st40) s.heap.objs.size f cdv))) :
    PSs (cxOf CN0 P w K mg base n40 "Track.picture" (defScope st40) f cdv A outer s H E).nox (defBody st40) (tS (Nc K) (b40 T)) := by
  have hk : k ≤ k + 1 := Nat.le_succ k
  have hk2 : k + 1 ≤ k + 1 := Nat.le_refl _
  have L : Lx (Nc K) (cxOf CN0 P w K mg base n40 "Track.picture" (defScope st40) f cdv A outer s H E).nox := ⟨rfl, rfl, sc40.nd, (by show (A.deeper _).units + 200 < cLine; have := hr.un; omega), C8.pass0⟩
  exact
 (ss_cons (s_set L 1 (by rfl) (by first | exact Or.inl rfl | exact Or.inr rfl) (e_bltT L .tuple1 nofun nofun rfl (by rfl) (q_tuple Z) bo_tuple (a_cons (e_lcm L [("name", 3)] rfl rfl (i_any L (e_blt L .sorted1 nofun nofun rfl (by rfl) (q_sorted Z) bo_sorted (a_cons (e_fld L (f_4 K) rfl (e_var (pv 0))) a_nil))) (blkOk_by (by kernel_rfl)) (fun _ _ _ _ _ => (g_name (pg_name (i := 3) (Ld.blk L _ _ _ _ _).nd (by rfl) (by first | exact Or.inl rfl | exact Or.inr rfl)))) (fun _ _ _ _ _ => ts_nil) (fun _ _ _ _ _ => (e_tup (a_cons (e_var (pv 3)) (a_cons (e_idx (Ld.blk L _ _ _ _ _) (e_fld (Ld.blk L _ _ _ _ _) (f_4 K) rfl (e_var (pv 0))) (e_var (pv 3))) a_nil))))) a_nil)))
 (ss_cons (s_set L 2 (by rfl) (by first | exact Or.inl rfl | exact Or.inr rfl) (e_bltT L .tuple1 nofun nofun rfl (by rfl) (q_tuple Z) bo_tuple (a_cons (e_lcm L [("node", 4)] rfl rfl (i_any L (e_blt L .sorted1 nofun nofun rfl (by rfl) (q_sorted Z) bo_sorted (a_cons (e_fld L (f_5 K) rfl (e_var (pv 0))) a_nil))) (blkOk_by (by kernel_rfl)) (fun _ _ _ _ _ => (g_name (pg_name (i := 4) (Ld.blk L _ _ _ _ _).nd (by rfl) (by first | exact Or.inl rfl | exact Or.inr rfl)))) (fun _ _ _ _ _ => ts_nil) (fun _ _ _ _ _ => (e_bin (Ld.blk L _ _ _ _ _) .add (e_tup (a_cons (e_var (pv 4)) a_nil)) (e_idx (Ld.blk L _ _ _ _ _) (e_fld (Ld.blk L _ _ _ _ _) (f_5 K) rfl (e_var (pv 0))) (e_var (pv 4)))))) a_nil)))
 (ss_cons (s_ret (e_tup (a_cons (e_fld L (f_1 K) rfl (e_var (pv 0))) (a_cons (e_var (pv 1)) (a_cons (e_var (pv 2)) (a_cons (e_bltT L .tuple1 nofun nofun rfl (by rfl) (q_tuple Z) bo_tuple (a_cons (e_blt L .sorted1 nofun nofun rfl (by rfl) (q_sorted Z) bo_sorted (a_cons (e_fld L (f_6 K) rfl (e_var (pv 0))) a_nil)) a_nil)) a_nil))))))
 ss_nil)))
def n41 : List Str := ["track", "node", "fresh", "found", "place", "word", "end", "one", "other", "more"]
def p41 : List Str := ["track", "node"]
theorem sc41 : FnScope n41 p41 (defScope st41) := ⟨by kernel_rfl, by kernel_rfl, by kernel_rfl, by decide +kernel, by kernel_rfl, by decide +kernel, by decide +kernel⟩
theorem w41 {P : Program} {w : World} {K : PySem.W.Frag} {mg : Str → Option Value} {base : Heap} {T : Tab} {k : Nat} (Z : Hd K mg) (C : CallsG P w K mg base T k) {f : Addr} {cdv : Value} {A : Around} {outer : List Env} {s : Shared} {H : Hp} {E : XK} (hr : Room (k + 1) (A.deeper (envOfC "opened_tracks" (defScope st41) s.heap.objs.size f cdv))) :
    PSs (cxOf CN0 P w K mg base n41 "opened_tracks" (defScope st41) f cdv A outer s H E).nox (defBody st41) (tS (Nc K) (b41 T)) := by
  have hk : k ≤ k + 1 := Nat.le_succ k
  have hk2 : k + 1 ≤ k + 1 := Nat.le_refl _
  have L : Lx (Nc K) (cxOf CN0 P w K mg base n41 "opened_tracks" (defScope st41) f cdv A outer s H E).nox := ⟨rfl, rfl, sc41.nd, (by show (A.deeper _).units + 200 < cLine; have := hr.un; omega), C8.pass0⟩
  exact
 (ss_cons (s_asg (e_idx L (e_fld L (f_5 K) rfl (e_var (pv 0))) (e_var (pv 1))) (g_tup L (g_cons (g_name (pg_name (i := 5) L.nd (by rfl) (by first | exact Or.inl rfl | exact Or.inr rfl))) (g_cons (g_name (pg_name (i := 6) L.nd (by rfl) (by first | exact Or.inl rfl | exact Or.inr rfl))) g_nil))))
 (ss_cons (s_if (t_cmp L .eq (e_var (pv 5)) (e_gstrE e_w12 (by rfl) (q_CELL Z)) (by first | exact nobehind _ (by decide) (by decide) | rfl | with_unfolding_all rfl))
 (ss_cons (s_ret (e_lst (a_cons (e_var (pv 0)) a_nil)))
 ss_nil)
 ss_nil)
 (ss_cons (s_par L 7 8 (by rfl) (by rfl) (by decide) (by rfl) (by rfl) (a_cons (e_um0 L (m_1 C.meth) (n_1 K) (C.met 36 0 "twin" rfl) hr hk (e_var (pv 0))) (a_cons (e_um0 L (m_1 C.meth) (n_1 K) (C.met 36 0 "twin" rfl) hr hk (e_var (pv 0))) a_nil)) (by rfl))
 (ss_cons (s_exp (e_um L (m_4 C.meth) (n_4 K) (C.met 39 0 "set_both" rfl) hr hk (e_var (pv 7)) (a_cons (e_var (pv 1)) (a_cons (e_tup (a_cons (e_gstrE e_w12 (by rfl) (q_CELL Z)) (a_cons (e_var (pv 6)) a_nil))) a_nil))))
 (ss_cons (s_set L 2 (by rfl) (by first | exact Or.inl rfl | exact Or.inr rfl) (e_um0 L (m_3 C.meth) (n_3 K) (C.met 38 0 "fresh_node" rfl) hr hk (e_var (pv 8))))
 (ss_cons (s_exp (e_um L (m_4 C.meth) (n_4 K) (C.met 39 0 "set_both" rfl) hr hk (e_var (pv 8)) (a_cons (e_var (pv 1)) (a_cons (e_tup (a_cons (e_gstrE e_w12 (by rfl) (q_CELL Z)) (a_cons (e_var (pv 2)) a_nil))) a_nil))))
 (ss_cons (s_exp (e_um L (m_4 C.meth) (n_4 K) (C.met 39 0 "set_both" rfl) hr hk (e_var (pv 8)) (a_cons (e_var (pv 2)) (a_cons (e_tup (a_cons (e_gstrE e_w2 (by rfl) (q_CHAIN Z)) (a_cons (e_var (pv 6)) a_nil))) a_nil))))
 (ss_cons (s_set L 3 (by rfl) (by first | exact Or.inl rfl | exact Or.inr rfl) (e_lst (a_cons (e_var (pv 7)) (a_cons (e_var (pv 8)) a_nil))))
 (ss_cons (s_for L PassesOwn.never (i_rng2 (by rfl) (q_range Z) e_int (e_fld L (f_1 K) rfl (e_var (pv 0)))) (g_name (pg_name (i := 4) L.nd (by rfl) (by first | exact Or.inl rfl | exact Or.inr rfl)))
 (ss_cons (s_if (PW.pt (w_and (t_cmp L .notin (e_var (pv 4)) (e_fld L (f_5 K) rfl (e_var (pv 0))) (by first | exact nobehind _ (by decide) (by decide) | rfl | with_unfolding_all rfl)) (w_and (t_cmp L .notin (e_var (pv 4)) (e_fld L (f_6 K) rfl (e_var (pv 0))) (by first | exact nobehind _ (by decide) (by decide) | rfl | with_unfolding_all rfl)) (w_one_and (t_cmp L .ne (e_var (pv 4)) (e_var (pv 6)) (by first | exact nobehind _ (by decide) (by decide) | rfl | with_unfolding_all rfl))))))
 (ss_cons (s_set L 9 (by rfl) (by first | exact Or.inl rfl | exact Or.inr rfl) (e_um0 L (m_1 C.meth) (n_1 K) (C.met 36 0 "twin" rfl) hr hk (e_var (pv 0))))
 (ss_cons (s_exp (e_um L (m_4 C.meth) (n_4 K) (C.met 39 0 "set_both" rfl) hr hk (e_var (pv 9)) (a_cons (e_var (pv 1)) (a_cons (e_tup (a_cons (e_gstrE e_w12 (by rfl) (q_CELL Z)) (a_cons (e_var (pv 4)) a_nil))) a_nil))))
 (ss_cons (s_exp (e_um L (m_4 C.meth) (n_4 K) (C.met 39 0 "set_both" rfl) hr hk (e_var (pv 9)) (a_cons (e_var (pv 4)) (a_cons (e_tup (a_cons (e_gstrE e_w2 (by rfl) (q_CHAIN Z)) (a_cons (e_var (pv 6)) a_nil))) a_nil))))
 (ss_cons (s_exp (e_bm L .append (by exact PySem.F.plainAttrs_list) (by exact PySem.F.slot_list_append) (by exact PySem.F.type_list_append) (e_var (pv 3)) (a_cons (e_var (pv 9)) a_nil)))
 ss_nil))))
 ss_nil)
 ss_nil))
 (ss_cons (s_ret (e_var (pv 3)))
 ss_nil))))))))))
def n42 : List Str := ["track", "deed", "rows", "target", "fresh", "one", "place"]
def p42 : List Str := ["track", "deed"]
theorem sc42 : FnScope n42 p42 (defScope st42) := ⟨by kernel_rfl, by kernel_rfl, by kernel_rfl, by decide +kernel, by kernel_rfl, by decide +kernel, by decide +kernel⟩
theorem w42 {P : Program} {w : World} {K : PySem.W.Frag} {mg : Str → Option Value} {base : Heap} {T : Tab} {k : Nat} (Z : Hd K mg) (C : CallsG P w K mg base T k) {f : Addr} {cdv : Value} {A : Around} {outer : List Env} {s : Shared} {H : Hp} {E : XK} (hr : Room (k + 1) (A.deeper (envOfC "new_tracks" (defScope st42) s.heap.objs.size f cdv))) :
    PSs (cxOf CN0 P w K mg base n42 "new_tracks" (defScope st42) f cdv A outer s H E).nox (defBody st42) (tS (Nc K) (b42 T)) := by
  have hk : k ≤ k + 1 := Nat.le_succ k
  have hk2 : k + 1 ≤ k + 1 := Nat.le_refl _
  have L : Lx (Nc K) (cxOf CN0 P w K mg base n42 "new_tracks" (defScope st42) f cdv A outer s H E).nox := ⟨rfl, rfl, sc42.nd, (by show (A.deeper _).units + 200 < cLine; have := hr.un; omega), C8.pass0⟩
  exact
 (ss_cons (s_par L 3 4 (by rfl) (by rfl) (by decide) (by rfl) (by rfl) (a_cons (e_um L (m_2 C.meth) (n_2 K) (C.met 37 0 "node_of" rfl) hr hk (e_var (pv 0)) (a_cons (e_idx L (e_var (pv 1)) e_int) a_nil)) (a_cons (e_um0 L (m_1 C.meth) (n_1 K) (C.met 36 0 "twin" rfl) hr hk (e_var (pv 0))) a_nil)) (by rfl))
 (ss_cons (s_set L 2 (by rfl) (by first | exact Or.inl rfl | exact Or.inr rfl) (e_lst (a_cons (e_tup (a_cons (e_var (pv 4)) (a_cons (e_um0 L (m_3 C.meth) (n_3 K) (C.met 38 0 "fresh_node" rfl) hr hk (e_var (pv 4))) a_nil))) a_nil)))
 (ss_cons (s_exp (e_bm L .extend (by exact PySem.F.plainAttrs_list) (by exact PySem.F.slot_list_extend) (by exact PySem.F.type_list_extend) (e_var (pv 2)) (a_cons (e_lcm L [("place", 6)] rfl rfl (i_rng2 (by rfl) (q_range Z) e_int (e_fld L (f_1 K) rfl (e_var (pv 0)))) (blkOk_by (by kernel_rfl)) (fun _ _ _ _ _ => (g_name (pg_name (i := 6) (Ld.blk L _ _ _ _ _).nd (by rfl) (by first | exact Or.inl rfl | exact Or.inr rfl)))) (fun _ _ _ _ _ => (ts_one (t_cmp (Ld.blk L _ _ _ _ _) .notin (e_var (pv 6)) (e_fld (Ld.blk L _ _ _ _ _) (f_5 K) rfl (e_var (pv 0))) (by first | exact nobehind _ (by decide) (by decide) | rfl | with_unfolding_all rfl)))) (fun _ _ _ _ _ => (e_tup (a_cons (e_um0 (Ld.blk L _ _ _ _ _) (m_1 C.meth) (n_1 K) (C.met 36 0 "twin" rfl) hr hk (e_var (pv 0))) (a_cons (e_var (pv 6)) a_nil))))) a_nil)))
 (ss_cons (s_for L PassesOwn.never (i_any L (e_var (pv 2))) (g_tup L (g_cons (g_name (pg_name (i := 5) L.nd (by rfl) (by first | exact Or.inl rfl | exact Or.inr rfl))) (g_cons (g_name (pg_name (i := 6) L.nd (by rfl) (by first | exact Or.inl rfl | exact Or.inr rfl))) g_nil)))
 (ss_cons (s_setI L (e_fld L (f_5 K) rfl (e_var (pv 5))) (e_var (pv 6)) (e_tup (a_cons (e_gstrE e_w12 (by rfl) (q_CELL Z)) (a_cons (e_var (pv 3)) a_nil))))
 (ss_cons (s_exp (e_bm L .dpop2 (by exact PySem.F.plainAttrs_dict) (by exact PySem.F.slot_dict_pop) (by exact PySem.F.type_dict_pop) (e_fld L (f_6 K) rfl (e_var (pv 5))) (a_cons (e_var (pv 6)) (a_cons e_non a_nil))))
 (ss_cons (s_setI L (e_fld L (f_4 K) rfl (e_var (pv 5))) (e_idx L (e_var (pv 1)) e_int) (e_var (pv 6)))
 (ss_cons (s_exp (e_bm L .append (by exact PySem.F.plainAttrs_list) (by exact PySem.F.slot_list_append) (by exact PySem.F.type_list_append) (e_fld L (f_7 K) rfl (e_var (pv 5))) (a_cons (e_var (pv 6)) a_nil)))
 ss_nil)))))
 (ss_cons (s_ret (e_lcm L [("one", 5), ("place", 6)] rfl rfl (i_any L (e_var (pv 2))) (blkOk_by (by kernel_rfl)) (fun _ _ _ _ _ => (g_tup (Ld.blk L _ _ _ _ _) (g_cons (g_name (pg_name (i := 5) (Ld.blk L _ _ _ _ _).nd (by rfl) (by first | exact Or.inl rfl | exact Or.inr rfl))) (g_cons (g_name (pg_name (i := 6) (Ld.blk L _ _ _ _ _).nd (by rfl) (by first | exact Or.inl rfl | exact Or.inr rfl))) g_nil)))) (fun _ _ _ _ _ => ts_nil) (fun _ _ _ _ _ => (e_var (pv 5)))))
 ss_nil)))))
def n43 : List Str := ["track", "deed", "node", "found", "some", "one"]
def p43 : List Str := ["track", "deed"]
theorem sc43 : FnScope n43 p43 (defScope st43) := ⟨by kernel_rfl, by kernel_rfl, by kernel_rfl, by decide +kernel, by kernel_rfl, by decide +kernel, by decide +kernel⟩
theorem w43 {P : Program} {w : World} {K : PySem.W.Frag} {mg : Str → Option Value} {base : Heap} {T : Tab} {k : Nat} (Z : Hd K mg) (C : CallsG P w K mg base T k) {f : Addr} {cdv : Value} {A : Around} {outer : List Env} {s : Shared} {H : Hp} {E : XK} (hr : Room (k + 1) (A.deeper (envOfC "done_tracks" (defScope st43) s.heap.objs.size f cdv))) :
    PSs (cxOf CN0 P w K mg base n43 "done_tracks" (defScope st43) f cdv A outer s H E).nox (defBody st43) (tS (Nc K) (b43 T)) := by
  have hk : k ≤ k + 1 := Nat.le_succ k
  have hk2 : k + 1 ≤ k + 1 := Nat.le_refl _
  have L : Lx (Nc K) (cxOf CN0 P w K mg base n43 "done_tracks" (defScope st43) f cdv A outer s H E).nox := ⟨rfl, rfl, sc43.nd, (by show (A.deeper _).units + 200 < cLine; have := hr.un; omega), C8.pass0⟩
  exact
 (ss_cons (s_if (t_cmp L .eq (e_idx L (e_var (pv 1)) e_int) (e_gstrE e_w14 (by rfl) (q_LET Z)) (by first | exact nobehind _ (by decide) (by decide) | rfl | with_unfolding_all rfl))
 (ss_cons (s_set L 5 (by rfl) (by first | exact Or.inl rfl | exact Or.inr rfl) (e_um0 L (m_1 C.meth) (n_1 K) (C.met 36 0 "twin" rfl) hr hk (e_var (pv 0))))
 (ss_cons (s_setI L (e_fld L (f_4 K) rfl (e_var (pv 5))) (e_idx L (e_var (pv 1)) e_int) (e_um L (m_2 C.meth) (n_2 K) (C.met 37 0 "node_of" rfl) hr hk (e_var (pv 0)) (a_cons (e_idx L (e_var (pv 1)) e_int) a_nil)))
 (ss_cons (s_ret (e_lst (a_cons (e_var (pv 5)) a_nil)))
 ss_nil)))
 ss_nil)
 (ss_cons (s_if (t_cmp L .eq (e_idx L (e_var (pv 1)) e_int) (e_gstrE e_w5 (by rfl) (q_NEW Z)) (by first | exact nobehind _ (by decide) (by decide) | rfl | with_unfolding_all rfl))
 (ss_cons (s_ret (e_call (C.cal 42 "new_tracks" rfl) hr hk (by rfl) (a_cons (e_var (pv 0)) (a_cons (e_var (pv 1)) a_nil))))
 ss_nil)
 ss_nil)
 (ss_cons (s_set L 2 (by rfl) (by first | exact Or.inl rfl | exact Or.inr rfl) (e_um L (m_2 C.meth) (n_2 K) (C.met 37 0 "node_of" rfl) hr hk (e_var (pv 0)) (a_cons (e_ife (t_cmp L .eq (e_idx L (e_var (pv 1)) e_int) (e_gstrE e_w8 (by rfl) (q_READ Z)) (by first | exact nobehind _ (by decide) (by decide) | rfl | with_unfolding_all rfl)) (e_idx L (e_var (pv 1)) e_int) (e_idx L (e_var (pv 1)) e_int)) a_nil)))
 (ss_cons (s_if (t_cmp L .notin (e_var (pv 2)) (e_fld L (f_5 K) rfl (e_var (pv 0))) (by first | exact nobehind _ (by decide) (by decide) | rfl | with_unfolding_all rfl))
 (ss_cons (s_ret e_non)
 ss_nil)
 ss_nil)
 (ss_cons (s_set L 3 (by rfl) (by first | exact Or.inl rfl | exact Or.inr rfl) (e_lst a_nil))
 (ss_cons (s_for L PassesOwn.never (i_any L (e_call (C.cal 41 "opened_tracks" rfl) hr hk (by rfl) (a_cons (e_var (pv 0)) (a_cons (e_var (pv 2)) a_nil)))) (g_name (pg_name (i := 4) L.nd (by rfl) (by first | exact Or.inl rfl | exact Or.inr rfl)))
 (ss_cons (s_set L 5 (by rfl) (by first | exact Or.inl rfl | exact Or.inr rfl) (e_um0 L (m_1 C.meth) (n_1 K) (C.met 36 0 "twin" rfl) hr hk (e_var (pv 4))))
 (ss_cons (s_if (t_cmp L .eq (e_idx L (e_var (pv 1)) e_int) (e_gstrE e_w8 (by rfl) (q_READ Z)) (by first | exact nobehind _ (by decide) (by decide) | rfl | with_unfolding_all rfl))
 (ss_cons (s_setI L (e_fld L (f_4 K) rfl (e_var (pv 5))) (e_idx L (e_var (pv 1)) e_int) (e_idx L (e_idx L (e_fld L (f_5 K) rfl (e_var (pv 5))) (e_var (pv 2))) e_int))
 ss_nil)
 (ss_cons (s_if (t_cmp L .eq (e_idx L (e_var (pv 1)) e_int) (e_gstrE e_w13 (by rfl) (q_WRITE Z)) (by first | exact nobehind _ (by decide) (by decide) | rfl | with_unfolding_all rfl))
 (ss_cons (s_setI L (e_fld L (f_5 K) rfl (e_var (pv 5))) (e_var (pv 2)) (e_tup (a_cons (e_gstrE e_w12 (by rfl) (q_CELL Z)) (a_cons (e_um L (m_2 C.meth) (n_2 K) (C.met 37 0 "node_of" rfl) hr hk (e_var (pv 5)) (a_cons (e_idx L (e_var (pv 1)) e_int) a_nil)) a_nil))))
 ss_nil)
 (ss_cons (s_exp (e_bm L .dpop1 (by exact PySem.F.plainAttrs_dict) (by exact PySem.F.slot_dict_pop) (by exact PySem.F.type_dict_pop) (e_fld L (f_5 K) rfl (e_var (pv 5))) (a_cons (e_var (pv 2)) a_nil)))
 (ss_cons (s_setI L (e_fld L (f_6 K) rfl (e_var (pv 5))) (e_var (pv 2)) e_bl)
 ss_nil)))
 ss_nil))
 (ss_cons (s_exp (e_bm L .append (by exact PySem.F.plainAttrs_list) (by exact PySem.F.slot_list_append) (by exact PySem.F.type_list_append) (e_var (pv 3)) (a_cons (e_var (pv 5)) a_nil)))
 ss_nil))))
 (ss_cons (s_ret (e_var (pv 3)))
 ss_nil)))))))
def n44 : List Str := ["table", "node"]
def p44 : List Str := ["table"]
theorem sc44 : FnScope n44 p44 (defScope st44) := ⟨by kernel_rfl, by kernel_rfl, by kernel_rfl, by decide +kernel, by kernel_rfl, by decide +kernel, by decide +kernel⟩
theorem w44 {P : Program} {w : World} {K : PySem.W.Frag} {mg : Str → Option Value} {base : Heap} {T : Tab} {k : Nat} (Z : Hd K mg) (C : CallsG P w K mg base T k) {f : Addr} {cdv : Value} {A : Around} {outer : List Env} {s : Shared} {H : Hp} {E : XK} (hr : Room (k + 1) (A.deeper (envOfC "edges_of" (defScope st44) s.heap.objs.size f cdv))) :
    PSs (cxOf CN0 P w K mg base n44 "edges_of" (defScope st44) f cdv A outer s H E).nox (defBody st44) (tS (Nc K) (b44 T)) := by
  have hk : k ≤ k + 1 := Nat.le_succ k
  have hk2 : k + 1 ≤ k + 1 := Nat.le_refl _
  have L : Lx (Nc K) (cxOf CN0 P w K mg base n44 "edges_of" (defScope st44) f cdv A outer s H E).nox := ⟨rfl, rfl, sc44.nd, (by show (A.deeper _).units + 200 < cLine; have := hr.un; omega), C8.pass0⟩
  exact
 (ss_cons (s_ret (e_lcm L [("node", 1)] rfl rfl (i_any L (e_blt L .sorted1 nofun nofun rfl (by rfl) (q_sorted Z) bo_sorted (a_cons (e_var (pv 0)) a_nil))) (blkOk_by (by kernel_rfl)) (fun _ _ _ _ _ => (g_name (pg_name (i := 1) (Ld.blk L _ _ _ _ _).nd (by rfl) (by first | exact Or.inl rfl | exact Or.inr rfl)))) (fun _ _ _ _ _ => ts_nil) (fun _ _ _ _ _ => (e_bin (Ld.blk L _ _ _ _ _) .add (e_tup (a_cons (e_var (pv 1)) a_nil)) (e_idx (Ld.blk L _ _ _ _ _) (e_var (pv 0)) (e_var (pv 1)))))))
 ss_nil)
def n45 : List Str := ["track", "row", "stack", "name"]
def p45 : List Str := ["track", "row"]
theorem sc45 : FnScope n45 p45 (defScope st45) := ⟨by kernel_rfl, by kernel_rfl, by kernel_rfl, by decide +kernel, by kernel_rfl, by decide +kernel, by decide +kernel⟩
theorem w45 {P : Program} {w : World} {K : PySem.W.Frag} {mg : Str → Option Value} {base : Heap} {T : Tab} {k : Nat} (Z : Hd K mg) (C : CallsG P w K mg base T k) {f : Addr} {cdv : Value} {A : Around} {outer : List Env} {s : Shared} {H : Hp} {E : XK} (hr : Room (k + 1) (A.deeper (envOfC "first_state" (defScope st45) s.heap.objs.size f cdv))) :
    PSs (cxOf CN0 P w K mg base n45 "first_state" (defScope st45) f cdv A outer s H E).nox (defBody st45) (tS (Nc K) (b45 T)) := by
  have hk : k ≤ k + 1 := Nat.le_succ k
  have hk2 : k + 1 ≤ k + 1 := Nat.le_refl _
  have L : Lx (Nc K) (cxOf CN0 P w K mg base n45 "first_state" (defScope st45) f cdv A outer s H E).nox := ⟨rfl, rfl, sc45.nd, (by show (A.deeper _).units + 200 < cLine; have := hr.un; omega), C8.pass0⟩
  exact
 (ss_cons (s_set L 2 (by rfl) (by first | exact Or.inl rfl | exact Or.inr rfl) (e_bltT L .tuple1 nofun nofun rfl (by rfl) (q_tuple Z) bo_tuple (a_cons (e_lcm L [("name", 3)] rfl rfl (i_any L (e_blt L .sorted1 nofun nofun rfl (by rfl) (q_sorted Z) bo_sorted (a_cons (e_fld L (f_2 K) rfl (e_var (pv 0))) a_nil))) (blkOk_by (by kernel_rfl)) (fun _ _ _ _ _ => (g_name (pg_name (i := 3) (Ld.blk L _ _ _ _ _).nd (by rfl) (by first | exact Or.inl rfl | exact Or.inr rfl)))) (fun _ _ _ _ _ => ts_nil) (fun _ _ _ _ _ => (e_tup (a_cons (e_var (pv 3)) (a_cons (e_idx (Ld.blk L _ _ _ _ _) (e_fld (Ld.blk L _ _ _ _ _) (f_2 K) rfl (e_var (pv 0))) (e_var (pv 3))) a_nil))))) a_nil)))
 (ss_cons (s_ret (e_tup (a_cons (e_var (pv 2)) (a_cons (e_call (C.cal 21 "heap_by" rfl) hr hk (by rfl) (a_cons (e_call (C.cal 44 "edges_of" rfl) hr hk (by rfl) (a_cons (e_fld L (f_3 K) rfl (e_var (pv 0))) a_nil)) (a_cons (e_var (pv 1)) (a_cons (e_fld L (f_1 K) rfl (e_var (pv 0))) a_nil)))) a_nil))))
 ss_nil))
def n46 : List Str := ["track", "todo", "is_like", "way", "deed", "where", "at", "one"]
def p46 : List Str := ["track", "todo"]
theorem sc46 : FnScope n46 p46 (defScope st46) := ⟨by kernel_rfl, by kernel_rfl, by kernel_rfl, by decide +kernel, by kernel_rfl, by decide +kernel, by decide +kernel⟩
theorem w46 {P : Program} {w : World} {K : PySem.W.Frag} {mg : Str → Option Value} {base : Heap} {T : Tab} {k : Nat} (Z : Hd K mg) (C : CallsG P w K mg base T k) {f : Addr} {cdv : Value} {A : Around} {outer : List Env} {s : Shared} {H : Hp} {E : XK} (hr : Room (k + 1) (A.deeper (envOfC "past_ifs" (defScope st46) s.heap.objs.size f cdv))) :
    PSs (cxOf CN0 P w K mg base n46 "past_ifs" (defScope st46) f cdv A outer s H E).nox (defBody st46) (tS (Nc K) (b46 T)) := by
  have hk : k ≤ k + 1 := Nat.le_succ k
  have hk2 : k + 1 ≤ k + 1 := Nat.le_refl _
  have L : Lx (Nc K) (cxOf CN0 P w K mg base n46 "past_ifs" (defScope st46) f cdv A outer s H E).nox := ⟨rfl, rfl, sc46.nd, (by show (A.deeper _).units + 200 < cLine; have := hr.un; omega), C8.pass0⟩
  exact
 (ss_cons (s_whl PassesOwn.never (PW.pt (w_and (t_cmp L .gt (e_blt L .len nofun nofun rfl (by rfl) (q_len Z) bo_len (a_cons (e_var (pv 1)) a_nil)) e_int (by first | exact nobehind _ (by decide) (by decide) | rfl | with_unfolding_all rfl)) (w_one_and (t_cmp L .eq (e_idx L (e_idx L (e_idx L (e_var (pv 1)) e_int) e_int) e_int) (e_gstrE e_w11 (by rfl) (q_IF Z)) (by first | exact nobehind _ (by decide) (by decide) | rfl | with_unfolding_all rfl)))))
 (ss_cons (s_asg (e_idx L (e_var (pv 1)) e_int) (g_tup L (g_cons (g_name (pg_name (i := 4) L.nd (by rfl) (by first | exact Or.inl rfl | exact Or.inr rfl))) (g_cons (g_name (pg_name (i := 5) L.nd (by rfl) (by first | exact Or.inl rfl | exact Or.inr rfl))) g_nil))))
 (ss_cons (s_set L 2 (by rfl) (by first | exact Or.inl rfl | exact Or.inr rfl) (e_cmp L .eq (e_um L (m_2 C.meth) (n_2 K) (C.met 37 0 "node_of" rfl) hr hk (e_var (pv 0)) (a_cons (e_idx L (e_idx L (e_var (pv 4)) e_int) e_int) a_nil)) (e_um L (m_2 C.meth) (n_2 K) (C.met 37 0 "node_of" rfl) hr hk (e_var (pv 0)) (a_cons (e_idx L (e_idx L (e_var (pv 4)) e_int) e_int) a_nil)) (by first | exact nobehind _ (by decide) (by decide) | rfl | with_unfolding_all rfl)))
 (ss_cons (s_set L 3 (by rfl) (by first | exact Or.inl rfl | exact Or.inr rfl) (e_ife (t_cmp L .eq (e_var (pv 2)) (e_cmp L .eq (e_idx L (e_idx L (e_var (pv 4)) e_int) e_int) (e_gstrE e_w7 (by rfl) (q_SAME Z)) (by first | exact nobehind _ (by decide) (by decide) | rfl | with_unfolding_all rfl)) (by first | exact nobehind _ (by decide) (by decide) | rfl | with_unfolding_all rfl)) e_int e_int))
 (ss_cons (s_set L 1 (by rfl) (by first | exact Or.inl rfl | exact Or.inr rfl) (e_bin L .add (e_lcm L [("at", 6), ("one", 7)] rfl rfl (i_enm L (by rfl) (q_enumerate Z) (e_idx L (e_var (pv 4)) (e_bin L .add e_int (e_var (pv 3))))) (blkOk_by (by kernel_rfl)) (fun _ _ _ _ _ => (g_tup (Ld.blk L _ _ _ _ _) (g_cons (g_name (pg_name (i := 6) (Ld.blk L _ _ _ _ _).nd (by rfl) (by first | exact Or.inl rfl | exact Or.inr rfl))) (g_cons (g_name (pg_name (i := 7) (Ld.blk L _ _ _ _ _).nd (by rfl) (by first | exact Or.inl rfl | exact Or.inr rfl))) g_nil)))) (fun _ _ _ _ _ => ts_nil) (fun _ _ _ _ _ => (e_tup (a_cons (e_var (pv 7)) (a_cons (e_bin (Ld.blk L _ _ _ _ _) .add (e_var (pv 5)) (e_tup (a_cons (e_var (pv 3)) (a_cons (e_var (pv 6)) a_nil)))) a_nil))))) (e_slc L (e_var (pv 1)) (o_some e_int) o_none)))
 ss_nil)))))
 (ss_cons (s_ret (e_var (pv 1)))
 ss_nil))
def n47 : List Str := ["track", "node", "found", "begin", "bare", "word", "end", "one"]
def p47 : List Str := ["track", "node"]
theorem sc47 : FnScope n47 p47 (defScope st47) := ⟨by kernel_rfl, by kernel_rfl, by kernel_rfl, by decide +kernel, by kernel_rfl, by decide +kernel, by decide +kernel⟩
theorem w47 {P : Program} {w : World} {K : PySem.W.Frag} {mg : Str → Option Value} {base : Heap} {T : Tab} {k : Nat} (Z : Hd K mg) (C : CallsG P w K mg base T k) {f : Addr} {cdv : Value} {A : Around} {outer : List Env} {s : Shared} {H : Hp} {E : XK} (hr : Room (k + 1) (A.deeper (envOfC "split_tracks" (defScope st47) s.heap.objs.size f cdv))) :
    PSs (cxOf CN0 P w K mg base n47 "split_tracks" (defScope st47) f cdv A outer s H E).nox (defBody st47) (tS (Nc K) (b47 T)) := by
  have hk : k ≤ k + 1 := Nat.le_succ k
  have hk2 : k + 1 ≤ k + 1 := Nat.le_refl _
  have L : Lx (Nc K) (cxOf CN0 P w K mg base n47 "split_tracks" (defScope st47) f cdv A outer s H E).nox := ⟨rfl, rfl, sc47.nd, (by show (A.deeper _).units + 200 < cLine; have := hr.un; omega), C8.pass0⟩
  exact
 (ss_cons (s_set L 2 (by rfl) (by first | exact Or.inl rfl | exact Or.inr rfl) (e_lst a_nil))
 (ss_cons (s_for L PassesOwn.never (i_any L (e_blt L .sorted1 nofun nofun rfl (by rfl) (q_sorted Z) bo_sorted (a_cons (e_fld L (f_5 K) rfl (e_var (pv 0))) a_nil))) (g_name (pg_name (i := 3) L.nd (by rfl) (by first | exact Or.inl rfl | exact Or.inr rfl)))
 (ss_cons (s_asg (e_idx L (e_fld L (f_5 K) rfl (e_var (pv 0))) (e_var (pv 3))) (g_tup L (g_cons (g_name (pg_name (i := 5) L.nd (by rfl) (by first | exact Or.inl rfl | exact Or.inr rfl))) (g_cons (g_name (pg_name (i := 6) L.nd (by rfl) (by first | exact Or.inl rfl | exact Or.inr rfl))) g_nil))))
 (ss_cons (s_if (PW.pt (w_and (t_cmp L .eq (e_var (pv 5)) (e_gstrE e_w2 (by rfl) (q_CHAIN Z)) (by first | exact nobehind _ (by decide) (by decide) | rfl | with_unfolding_all rfl)) (w_one_and (t_cmp L .ne (e_var (pv 6)) (e_var (pv 1)) (by first | exact nobehind _ (by decide) (by decide) | rfl | with_unfolding_all rfl)))))
 (ss_cons (s_set L 7 (by rfl) (by first | exact Or.inl rfl | exact Or.inr rfl) (e_um0 L (m_1 C.meth) (n_1 K) (C.met 36 0 "twin" rfl) hr hk (e_var (pv 0))))
 (ss_cons (s_exp (e_um L (m_4 C.meth) (n_4 K) (C.met 39 0 "set_both" rfl) hr hk (e_var (pv 7)) (a_cons (e_var (pv 3)) (a_cons (e_tup (a_cons (e_gstrE e_w2 (by rfl) (q_CHAIN Z)) (a_cons (e_var (pv 1)) a_nil))) a_nil))))
 (ss_cons (s_exp (e_um L (m_4 C.meth) (n_4 K) (C.met 39 0 "set_both" rfl) hr hk (e_var (pv 7)) (a_cons (e_var (pv 1)) (a_cons (e_tup (a_cons (e_gstrE e_w2 (by rfl) (q_CHAIN Z)) (a_cons (e_var (pv 6)) a_nil))) a_nil))))
 (ss_cons (s_exp (e_bm L .append (by exact PySem.F.plainAttrs_list) (by exact PySem.F.slot_list_append) (by exact PySem.F.type_list_append) (e_var (pv 2)) (a_cons (e_var (pv 7)) a_nil)))
 ss_nil))))
 ss_nil)
 ss_nil)))
 (ss_cons (s_set L 4 (by rfl) (by first | exact Or.inl rfl | exact Or.inr rfl) (e_um0 L (m_1 C.meth) (n_1 K) (C.met 36 0 "twin" rfl) hr hk (e_var (pv 0))))
 (ss_cons (s_setI L (e_fld L (f_6 K) rfl (e_var (pv 4))) (e_var (pv 1)) e_bl)
 (ss_cons (s_ret (e_tup (a_cons (e_var (pv 2)) (a_cons (e_var (pv 4)) a_nil))))
 ss_nil)))))
def n48 : List Str := ["track", "deed"]
def p48 : List Str := ["track", "deed"]
theorem sc48 : FnScope n48 p48 (defScope st48) := ⟨by kernel_rfl, by kernel_rfl, by kernel_rfl, by decide +kernel, by kernel_rfl, by decide +kernel, by decide +kernel⟩
theorem w48 {P : Program} {w : World} {K : PySem.W.Frag} {mg : Str → Option Value} {base : Heap} {T : Tab} {k : Nat} (Z : Hd K mg) (C : CallsG P w K mg base T k) {f : Addr} {cdv : Value} {A : Around} {outer : List Env} {s : Shared} {H : Hp} {E : XK} (hr : Room (k + 1) (A.deeper (envOfC "needed_node" (defScope st48) s.heap.objs.size f cdv))) :
    PSs (cxOf CN0 P w K mg base n48 "needed_node" (defScope st48) f cdv A outer s H E).nox (defBody st48) (tS (Nc K) (b48 T)) := by
  have hk : k ≤ k + 1 := Nat.le_succ k
  have hk2 : k + 1 ≤ k + 1 := Nat.le_refl _
  have L : Lx (Nc K) (cxOf CN0 P w K mg base n48 "needed_node" (defScope st48) f cdv A outer s H E).nox := ⟨rfl, rfl, sc48.nd, (by show (A.deeper _).units + 200 < cLine; have := hr.un; omega), C8.pass0⟩
  exact
 (ss_cons (s_if (t_cmp L .notin (e_idx L (e_var (pv 1)) e_int) (e_tup (a_cons (e_gstrE e_w8 (by rfl) (q_READ Z)) (a_cons (e_gstrE e_w13 (by rfl) (q_WRITE Z)) (a_cons (e_gstrE e_w9 (by rfl) (q_FREE Z)) a_nil)))) (by first | exact nobehind _ (by decide) (by decide) | rfl | with_unfolding_all rfl))
 (ss_cons (s_ret e_non)
 ss_nil)
 ss_nil)
 (ss_cons (s_ret (e_um L (m_2 C.meth) (n_2 K) (C.met 37 0 "node_of" rfl) hr hk (e_var (pv 0)) (a_cons (e_ife (t_cmp L .eq (e_idx L (e_var (pv 1)) e_int) (e_gstrE e_w8 (by rfl) (q_READ Z)) (by first | exact nobehind _ (by decide) (by decide) | rfl | with_unfolding_all rfl)) (e_idx L (e_var (pv 1)) e_int) (e_idx L (e_var (pv 1)) e_int)) a_nil)))
 ss_nil))
def n49 : List Str := ["track", "deeds", "waiting", "found", "todo", "here", "node", "later", "some", "bare", "at", "deed", "one"]
def p49 : List Str := ["track", "deeds"]
theorem sc49 : FnScope n49 p49 (defScope st49) := ⟨by kernel_rfl, by kernel_rfl, by kernel_rfl, by decide +kernel, by kernel_rfl, by decide +kernel, by decide +kernel⟩
theorem w49 {P : Program} {w : World} {K : PySem.W.Frag} {mg : Str → Option Value} {base : Heap} {T : Tab} {k : Nat} (Z : Hd K mg) (C : CallsG P w K mg base T k) {f : Addr} {cdv : Value} {A : Around} {outer : List Env} {s : Shared} {H : Hp} {E : XK} (hr : Room (k + 1) (A.deeper (envOfC "all_ways" (defScope st49) s.heap.objs.size f cdv))) :
    PSs (cxOf CN0 P w K mg base n49 "all_ways" (defScope st49) f cdv A outer s H E).nox (defBody st49) (tS (Nc K) (b49 T)) := by
  have hk : k ≤ k + 1 := Nat.le_succ k
  have hk2 : k + 1 ≤ k + 1 := Nat.le_refl _
  have L : Lx (Nc K) (cxOf CN0 P w K mg base n49 "all_ways" (defScope st49) f cdv A outer s H E).nox := ⟨rfl, rfl, sc49.nd, (by show (A.deeper _).units + 200 < cLine; have := hr.un; omega), C8.pass0⟩
  exact
 (ss_cons (s_par L 2 3 (by rfl) (by rfl) (by decide) (by rfl) (by rfl) (a_cons (e_lst (a_cons (e_tup (a_cons (e_var (pv 0)) (a_cons (e_lcm L [("at", 10), ("deed", 11)] rfl rfl (i_enm L (by rfl) (q_enumerate Z) (e_var (pv 1))) (blkOk_by (by kernel_rfl)) (fun _ _ _ _ _ => (g_tup (Ld.blk L _ _ _ _ _) (g_cons (g_name (pg_name (i := 10) (Ld.blk L _ _ _ _ _).nd (by rfl) (by first | exact Or.inl rfl | exact Or.inr rfl))) (g_cons (g_name (pg_name (i := 11) (Ld.blk L _ _ _ _ _).nd (by rfl) (by first | exact Or.inl rfl | exact Or.inr rfl))) g_nil)))) (fun _ _ _ _ _ => ts_nil) (fun _ _ _ _ _ => (e_tup (a_cons (e_var (pv 11)) (a_cons (e_tup (a_cons (e_var (pv 10)) a_nil)) a_nil))))) a_nil))) a_nil)) (a_cons (e_lst a_nil) a_nil)) (by rfl))
 (ss_cons (s_whl PassesOwn.never (t_cmp L .gt (e_blt L .len nofun nofun rfl (by rfl) (q_len Z) bo_len (a_cons (e_var (pv 2)) a_nil)) e_int (by first | exact nobehind _ (by decide) (by decide) | rfl | with_unfolding_all rfl))
 (ss_cons (s_asg (e_bm0 L .pop0 (by exact PySem.F.plainAttrs_list) (by exact PySem.F.slot_list_pop) (by exact PySem.F.type_list_pop) (e_var (pv 2)) (fun r to m o => pe_bm0 (by exact PySem.F.plainAttrs_list) (by exact PySem.F.slot_list_pop) (by exact PySem.F.type_list_pop) m o)) (g_tup L (g_cons (g_name (pg_name (i := 5) L.nd (by rfl) (by first | exact Or.inl rfl | exact Or.inr rfl))) (g_cons (g_name (pg_name (i := 4) L.nd (by rfl) (by first | exact Or.inl rfl | exact Or.inr rfl))) g_nil))))
 (ss_cons (s_set L 4 (by rfl) (by first | exact Or.inl rfl | exact Or.inr rfl) (e_call (C.cal 46 "past_ifs" rfl) hr hk (by rfl) (a_cons (e_var (pv 5)) (a_cons (e_var (pv 4)) a_nil))))
 (ss_cons (s_if (t_cmp L .eq (e_blt L .len nofun nofun rfl (by rfl) (q_len Z) bo_len (a_cons (e_var (pv 4)) a_nil)) e_int (by first | exact nobehind _ (by decide) (by decide) | rfl | with_unfolding_all rfl))
 (ss_cons (s_exp (e_bm L .append (by exact PySem.F.plainAttrs_list) (by exact PySem.F.slot_list_append) (by exact PySem.F.type_list_append) (e_var (pv 3)) (a_cons (e_tup (a_cons (e_var (pv 5)) (a_cons e_bl a_nil))) a_nil)))
 ss_nil)
 (ss_cons (s_set L 6 (by rfl) (by first | exact Or.inl rfl | exact Or.inr rfl) (e_call (C.cal 48 "needed_node" rfl) hr hk (by rfl) (a_cons (e_var (pv 5)) (a_cons (e_idx L (e_idx L (e_var (pv 4)) e_int) e_int) a_nil))))
 (ss_cons (s_if (PW.pt (w_or (t_cmp L .isN (e_var (pv 6)) e_non (by first | exact nobehind _ (by decide) (by decide) | rfl | with_unfolding_all rfl)) (w_one_or (t_cmp L .isin (e_var (pv 6)) (e_fld L (f_5 K) rfl (e_var (pv 5))) (by first | exact nobehind _ (by decide) (by decide) | rfl | with_unfolding_all rfl)))))
 (ss_cons (s_set L 7 (by rfl) (by first | exact Or.inl rfl | exact Or.inr rfl) (e_call (C.cal 43 "done_tracks" rfl) hr hk (by rfl) (a_cons (e_var (pv 5)) (a_cons (e_idx L (e_idx L (e_var (pv 4)) e_int) e_int) a_nil))))
 (ss_cons (s_exp (e_bm L .extend (by exact PySem.F.plainAttrs_list) (by exact PySem.F.slot_list_extend) (by exact PySem.F.type_list_extend) (e_var (pv 2)) (a_cons (e_lcm L [("one", 12)] rfl rfl (i_any L (e_rev L (e_var (pv 7)))) (blkOk_by (by kernel_rfl)) (fun _ _ _ _ _ => (g_name (pg_name (i := 12) (Ld.blk L _ _ _ _ _).nd (by rfl) (by first | exact Or.inl rfl | exact Or.inr rfl)))) (fun _ _ _ _ _ => ts_nil) (fun _ _ _ _ _ => (e_tup (a_cons (e_var (pv 12)) (a_cons (e_slc (Ld.blk L _ _ _ _ _) (e_var (pv 4)) (o_some e_int) o_none) a_nil))))) a_nil)))
 ss_nil))
 (ss_cons (s_if (PW.pt (w_or (t_cmp L .eq (e_var (pv 6)) e_int (by first | exact nobehind _ (by decide) (by decide) | rfl | with_unfolding_all rfl)) (w_one_or (t_cmp L .isin (e_var (pv 6)) (e_fld L (f_6 K) rfl (e_var (pv 5))) (by first | exact nobehind _ (by decide) (by decide) | rfl | with_unfolding_all rfl)))))
 (ss_cons (s_exp (e_bm L .append (by exact PySem.F.plainAttrs_list) (by exact PySem.F.slot_list_append) (by exact PySem.F.type_list_append) (e_var (pv 3)) (a_cons (e_tup (a_cons (e_var (pv 5)) (a_cons e_bl a_nil))) a_nil)))
 ss_nil)
 (ss_cons (s_asg (e_call (C.cal 47 "split_tracks" rfl) hr hk (by rfl) (a_cons (e_var (pv 5)) (a_cons (e_var (pv 6)) a_nil))) (g_tup L (g_cons (g_name (pg_name (i := 8) L.nd (by rfl) (by first | exact Or.inl rfl | exact Or.inr rfl))) (g_cons (g_name (pg_name (i := 9) L.nd (by rfl) (by first | exact Or.inl rfl | exact Or.inr rfl))) g_nil))))
 (ss_cons (s_exp (e_bm L .extend (by exact PySem.F.plainAttrs_list) (by exact PySem.F.slot_list_extend) (by exact PySem.F.type_list_extend) (e_var (pv 2)) (a_cons (e_lcm L [("one", 12)] rfl rfl (i_any L (e_rev L (e_var (pv 8)))) (blkOk_by (by kernel_rfl)) (fun _ _ _ _ _ => (g_name (pg_name (i := 12) (Ld.blk L _ _ _ _ _).nd (by rfl) (by first | exact Or.inl rfl | exact Or.inr rfl)))) (fun _ _ _ _ _ => ts_nil) (fun _ _ _ _ _ => (e_tup (a_cons (e_var (pv 12)) (a_cons (e_var (pv 4)) a_nil))))) a_nil)))
 (ss_cons (s_exp (e_bm L .append (by exact PySem.F.plainAttrs_list) (by exact PySem.F.slot_list_append) (by exact PySem.F.type_list_append) (e_var (pv 3)) (a_cons (e_tup (a_cons (e_var (pv 9)) (a_cons e_bl a_nil))) a_nil)))
 ss_nil))))
 ss_nil))
 ss_nil)))
 (ss_cons (s_if (t_cmp L .gt (e_bin L .add (e_blt L .len nofun nofun rfl (by rfl) (q_len Z) bo_len (a_cons (e_var (pv 3)) a_nil)) (e_blt L .len nofun nofun rfl (by rfl) (q_len Z) bo_len (a_cons (e_var (pv 2)) a_nil))) (e_gint (by rfl) (q_MOST_BOTH Z)) (by first | exact nobehind _ (by decide) (by decide) | rfl | with_unfolding_all rfl))
 (ss_cons s_never
 ss_nil)
 ss_nil)
 ss_nil)))))
 (ss_cons (s_ret (e_var (pv 3)))
 ss_nil)))
def n50 : List Str := ["track", "names", "edges", "firsts", "bare", "edge", "name", "node"]
def p50 : List Str := ["track"]
theorem sc50 : FnScope n50 p50 (defScope st50) := ⟨by kernel_rfl, by kernel_rfl, by kernel_rfl, by decide +kernel, by kernel_rfl, by decide +kernel, by decide +kernel⟩
theorem w50 {P : Program} {w : World} {K : PySem.W.Frag} {mg : Str → Option Value} {base : Heap} {T : Tab} {k : Nat} (Z : Hd K mg) (C : CallsG P w K mg base T k) {f : Addr} {cdv : Value} {A : Around} {outer : List Env} {s : Shared} {H : Hp} {E : XK} (hr : Room (k + 1) (A.deeper (envOfC "begun_again" (defScope st50) s.heap.objs.size f cdv))) :
    PSs (cxOf CN0 P w K mg base n50 "begun_again" (defScope st50) f cdv A outer s H E).nox (defBody st50) (tS (Nc K) (b50 T)) := by
  have hk : k ≤ k + 1 := Nat.le_succ k
  have hk2 : k + 1 ≤ k + 1 := Nat.le_refl _
  have L : Lx (Nc K) (cxOf CN0 P w K mg base n50 "begun_again" (defScope st50) f cdv A outer s H E).nox := ⟨rfl, rfl, sc50.nd, (by show (A.deeper _).units + 200 < cLine; have := hr.un; omega), C8.pass0⟩
  exact
 (ss_cons (s_set L 1 (by rfl) (by first | exact Or.inl rfl | exact Or.inr rfl) (e_bltT L .tuple1 nofun nofun rfl (by rfl) (q_tuple Z) bo_tuple (a_cons (e_lcm L [("name", 6)] rfl rfl (i_any L (e_blt L .sorted1 nofun nofun rfl (by rfl) (q_sorted Z) bo_sorted (a_cons (e_fld L (f_2 K) rfl (e_var (pv 0))) a_nil))) (blkOk_by (by kernel_rfl)) (fun _ _ _ _ _ => (g_name (pg_name (i := 6) (Ld.blk L _ _ _ _ _).nd (by rfl) (by first | exact Or.inl rfl | exact Or.inr rfl)))) (fun _ _ _ _ _ => ts_nil) (fun _ _ _ _ _ => (e_tup (a_cons (e_var (pv 6)) (a_cons (e_idx (Ld.blk L _ _ _ _ _) (e_fld (Ld.blk L _ _ _ _ _) (f_2 K) rfl (e_var (pv 0))) (e_var (pv 6))) a_nil))))) a_nil)))
 (ss_cons (s_set L 2 (by rfl) (by first | exact Or.inl rfl | exact Or.inr rfl) (e_bltT L .tuple1 nofun nofun rfl (by rfl) (q_tuple Z) bo_tuple (a_cons (e_lcm L [("node", 7)] rfl rfl (i_any L (e_blt L .sorted1 nofun nofun rfl (by rfl) (q_sorted Z) bo_sorted (a_cons (e_fld L (f_3 K) rfl (e_var (pv 0))) a_nil))) (blkOk_by (by kernel_rfl)) (fun _ _ _ _ _ => (g_name (pg_name (i := 7) (Ld.blk L _ _ _ _ _).nd (by rfl) (by first | exact Or.inl rfl | exact Or.inr rfl)))) (fun _ _ _ _ _ => ts_nil) (fun _ _ _ _ _ => (e_bin (Ld.blk L _ _ _ _ _) .add (e_tup (a_cons (e_var (pv 7)) a_nil)) (e_idx (Ld.blk L _ _ _ _ _) (e_fld (Ld.blk L _ _ _ _ _) (f_3 K) rfl (e_var (pv 0))) (e_var (pv 7)))))) a_nil)))
 (ss_cons (s_set L 3 (by rfl) (by first | exact Or.inl rfl | exact Or.inr rfl) (e_dcm L [("edge", 5)] rfl rfl (i_any L (e_var (pv 2))) (blkOk_by (by kernel_rfl)) (fun _ _ _ _ _ => (g_name (pg_name (i := 5) (Ld.blk L _ _ _ _ _).nd (by rfl) (by first | exact Or.inl rfl | exact Or.inr rfl)))) (fun _ _ _ _ _ => ts_nil) (fun _ _ _ _ _ => (e_idx (Ld.blk L _ _ _ _ _) (e_var (pv 5)) e_int)) (fun _ _ _ _ _ => e_bl)))
 (ss_cons (s_set L 4 (by rfl) (by first | exact Or.inl rfl | exact Or.inr rfl) (e_bltT L .tuple1 nofun nofun rfl (by rfl) (q_tuple Z) bo_tuple (a_cons (e_lcm L [("node", 7)] rfl rfl (i_any L (e_blt L .sorted1 nofun nofun rfl (by rfl) (q_sorted Z) bo_sorted (a_cons (e_fld L (f_6 K) rfl (e_var (pv 0))) a_nil))) (blkOk_by (by kernel_rfl)) (fun _ _ _ _ _ => (g_name (pg_name (i := 7) (Ld.blk L _ _ _ _ _).nd (by rfl) (by first | exact Or.inl rfl | exact Or.inr rfl)))) (fun _ _ _ _ _ => (ts_one (t_cmp (Ld.blk L _ _ _ _ _) .notin (e_var (pv 7)) (e_var (pv 3)) (by first | exact nobehind _ (by decide) (by decide) | rfl | with_unfolding_all rfl)))) (fun _ _ _ _ _ => (e_var (pv 7)))) a_nil)))
 (ss_cons (s_ret (e_mk (C.ok 0 (by decide)) (C.mak 0 (by decide)) hr hk2 (by rfl) (a_cons (e_tup (a_cons (e_fld L (f_1 K) rfl (e_var (pv 0))) (a_cons (e_var (pv 1)) (a_cons (e_var (pv 2)) (a_cons (e_var (pv 4)) a_nil))))) a_nil)))
 ss_nil)))))
def n51 : List Str := ["track", "other", "node", "found", "known", "edge"]
def p51 : List Str := ["track", "other"]
theorem sc51 : FnScope n51 p51 (defScope st51) := ⟨by kernel_rfl, by kernel_rfl, by kernel_rfl, by decide +kernel, by kernel_rfl, by decide +kernel, by decide +kernel⟩
theorem w51 {P : Program} {w : World} {K : PySem.W.Frag} {mg : Str → Option Value} {base : Heap} {T : Tab} {k : Nat} (Z : Hd K mg) (C : CallsG P w K mg base T k) {f : Addr} {cdv : Value} {A : Around} {outer : List Env} {s : Shared} {H : Hp} {E : XK} (hr : Room (k + 1) (A.deeper (envOfC "refined_edges" (defScope st51) s.heap.objs.size f cdv))) :
    PSs (cxOf CN0 P w K mg base n51 "refined_edges" (defScope st51) f cdv A outer s H E).nox (defBody st51) (tS (Nc K) (b51 T)) := by
  have hk : k ≤ k + 1 := Nat.le_succ k
  have hk2 : k + 1 ≤ k + 1 := Nat.le_refl _
  have L : Lx (Nc K) (cxOf CN0 P w K mg base n51 "refined_edges" (defScope st51) f cdv A outer s H E).nox := ⟨rfl, rfl, sc51.nd, (by show (A.deeper _).units + 200 < cLine; have := hr.un; omega), C8.pass0⟩
  exact
 (ss_cons (s_par L 3 4 (by rfl) (by rfl) (by decide) (by rfl) (by rfl) (a_cons (e_bltT L .dict1 nofun nofun rfl (by rfl) (q_dict Z) bo_dict (a_cons (e_fld L (f_5 K) rfl (e_var (pv 0))) a_nil)) (a_cons (e_fld L (f_3 K) rfl (e_var (pv 0))) a_nil)) (by rfl))
 (ss_cons (s_for L PassesOwn.never (i_any L (e_blt L .sorted1 nofun nofun rfl (by rfl) (q_sorted Z) bo_sorted (a_cons (e_fld L (f_3 K) rfl (e_var (pv 1))) a_nil))) (g_name (pg_name (i := 2) L.nd (by rfl) (by first | exact Or.inl rfl | exact Or.inr rfl)))
 (ss_cons (s_set L 5 (by rfl) (by first | exact Or.inl rfl | exact Or.inr rfl) (e_idx L (e_fld L (f_3 K) rfl (e_var (pv 1))) (e_var (pv 2))))
 (ss_cons (s_if (PW.pt (w_or (t_cmp L .notin (e_var (pv 2)) (e_var (pv 4)) (by first | exact nobehind _ (by decide) (by decide) | rfl | with_unfolding_all rfl)) (w_one_or (t_cmp L .ne (e_idx L (e_var (pv 4)) (e_var (pv 2))) (e_var (pv 5)) (by first | exact nobehind _ (by decide) (by decide) | rfl | with_unfolding_all rfl)))))
 (ss_cons (s_setI L (e_var (pv 3)) (e_var (pv 2)) (e_var (pv 5)))
 ss_nil)
 ss_nil)
 ss_nil)))
 (ss_cons (s_ret (e_var (pv 3)))
 ss_nil)))
def n52 : List Str := ["one", "is_wrong", "other", "is_other_wrong"]
def p52 : List Str := ["one", "is_wrong", "other", "is_other_wrong"]
theorem sc52 : FnScope n52 p52 (defScope st52) := ⟨by kernel_rfl, by kernel_rfl, by kernel_rfl, by decide +kernel, by kernel_rfl, by decide +kernel, by decide +kernel⟩
theorem w52 {P : Program} {w : World} {K : PySem.W.Frag} {mg : Str → Option Value} {base : Heap} {T : Tab} {k : Nat} (Z : Hd K mg) (C : CallsG P w K mg base T k) {f : Addr} {cdv : Value} {A : Around} {outer : List Env} {s : Shared} {H : Hp} {E : XK} (hr : Room (k + 1) (A.deeper (envOfC "are_ends_alike" (defScope st52) s.heap.objs.size f cdv))) :
    PSs (cxOf CN0 P w K mg base n52 "are_ends_alike" (defScope st52) f cdv A outer s H E).nox (defBody st52) (tS (Nc K) (b52 T)) := by
  have hk : k ≤ k + 1 := Nat.le_succ k
  have hk2 : k + 1 ≤ k + 1 := Nat.le_refl _
  have L : Lx (Nc K) (cxOf CN0 P w K mg base n52 "are_ends_alike" (defScope st52) f cdv A outer s H E).nox := ⟨rfl, rfl, sc52.nd, (by show (A.deeper _).units + 200 < cLine; have := hr.un; omega), C8.pass0⟩
  exact
 (ss_cons (s_if (PW.pt (w_or (t_val (e_var (pv 1))) (w_one_or (t_val (e_var (pv 3))))))
 (ss_cons (s_ret (e_and (e_var (pv 1)) (e_one (e_var (pv 3)))))
 ss_nil)
 ss_nil)
 (ss_cons (s_ret (e_and (e_cmp L .eq (e_fld L (f_4 K) rfl (e_var (pv 0))) (e_fld L (f_4 K) rfl (e_var (pv 2))) (by first | exact nobehind _ (by decide) (by decide) | rfl | with_unfolding_all rfl)) (e_one (e_cmp L .eq (e_call (C.cal 51 "refined_edges" rfl) hr hk (by rfl) (a_cons (e_var (pv 0)) (a_cons (e_var (pv 2)) a_nil))) (e_fld L (f_5 K) rfl (e_var (pv 2))) (by first | exact nobehind _ (by decide) (by decide) | rfl | with_unfolding_all rfl)))))
 ss_nil))
def n53 : List Str := ["begin", "one", "other", "names", "many", "picture", "track", "is_wrong", "last", "is_last_wrong"]
def p53 : List Str := ["begin", "one", "other", "names"]
theorem sc53 : FnScope n53 p53 (defScope st53) := ⟨by kernel_rfl, by kernel_rfl, by kernel_rfl, by decide +kernel, by kernel_rfl, by decide +kernel, by decide +kernel⟩
theorem w53 {P : Program} {w : World} {K : PySem.W.Frag} {mg : Str → Option Value} {base : Heap} {T : Tab} {k : Nat} (Z : Hd K mg) (C : CallsG P w K mg base T k) {f : Addr} {cdv : Value} {A : Around} {outer : List Env} {s : Shared} {H : Hp} {E : XK} (hr : Room (k + 1) (A.deeper (envOfC "raw_alike_deeds" (defScope st53) s.heap.objs.size f cdv))) :
    PSs (cxOf CN0 P w K mg base n53 "raw_alike_deeds" (defScope st53) f cdv A outer s H E).nox (defBody st53) (tS (Nc K) (b53 T)) := by
  have hk : k ≤ k + 1 := Nat.le_succ k
  have hk2 : k + 1 ≤ k + 1 := Nat.le_refl _
  have L : Lx (Nc K) (cxOf CN0 P w K mg base n53 "raw_alike_deeds" (defScope st53) f cdv A outer s H E).nox := ⟨rfl, rfl, sc53.nd, (by show (A.deeper _).units + 200 < cLine; have := hr.un; omega), C8.pass0⟩
  exact
 (ss_cons (s_set L 4 (by rfl) (by first | exact Or.inl rfl | exact Or.inr rfl) e_int)
 (ss_cons (s_for L PassesOwn.never (i_any L (e_call (C.cal 34 "raw_pictures" rfl) hr hk (by rfl) (a_cons (e_var (pv 0)) (a_cons (e_var (pv 3)) a_nil)))) (g_name (pg_name (i := 5) L.nd (by rfl) (by first | exact Or.inl rfl | exact Or.inr rfl)))
 (ss_cons (s_for L PassesOwn.never (i_any L (e_call (C.cal 49 "all_ways" rfl) hr hk (by rfl) (a_cons (e_mk (C.ok 0 (by decide)) (C.mak 0 (by decide)) hr hk2 (by rfl) (a_cons (e_var (pv 5)) a_nil)) (a_cons (e_var (pv 1)) a_nil)))) (g_tup L (g_cons (g_name (pg_name (i := 6) L.nd (by rfl) (by first | exact Or.inl rfl | exact Or.inr rfl))) (g_cons (g_name (pg_name (i := 7) L.nd (by rfl) (by first | exact Or.inl rfl | exact Or.inr rfl))) g_nil)))
 (ss_cons (s_for L PassesOwn.never (i_any L (e_call (C.cal 49 "all_ways" rfl) hr hk (by rfl) (a_cons (e_call (C.cal 50 "begun_again" rfl) hr hk (by rfl) (a_cons (e_var (pv 6)) a_nil)) (a_cons (e_var (pv 2)) a_nil)))) (g_tup L (g_cons (g_name (pg_name (i := 8) L.nd (by rfl) (by first | exact Or.inl rfl | exact Or.inr rfl))) (g_cons (g_name (pg_name (i := 9) L.nd (by rfl) (by first | exact Or.inl rfl | exact Or.inr rfl))) g_nil)))
 (ss_cons (s_aug L 4 .add (by rfl) (by first | exact Or.inl rfl | exact Or.inr rfl) e_int)
 (ss_cons (s_if (t_cmp L .gt (e_var (pv 4)) (e_gint (by rfl) (q_MOST_BOTH Z)) (by first | exact nobehind _ (by decide) (by decide) | rfl | with_unfolding_all rfl))
 (ss_cons s_never
 ss_nil)
 ss_nil)
 (ss_cons (s_if (t_not (t_val (e_call (C.cal 52 "are_ends_alike" rfl) hr hk (by rfl) (a_cons (e_var (pv 6)) (a_cons (e_var (pv 7)) (a_cons (e_var (pv 8)) (a_cons (e_var (pv 9)) a_nil)))))))
 (ss_cons (s_ret (e_tup (a_cons (e_gstrE e_w16 (by rfl) (q_APART_WORD Z)) (a_cons (e_call (C.cal 45 "first_state" rfl) hr hk (by rfl) (a_cons (e_var (pv 8)) (a_cons (e_bin L .mul (e_tup (a_cons (e_gstrE e_w4 (by rfl) (q_ONE_CELL Z)) a_nil)) (e_blt L .len nofun nofun rfl (by rfl) (q_len Z) bo_len (a_cons (e_fld L (f_3 K) rfl (e_var (pv 8))) a_nil))) a_nil))) a_nil))))
 ss_nil)
 ss_nil)
 ss_nil))))
 ss_nil))
 ss_nil))
 (ss_cons (s_ret (e_tup (a_cons (e_gstrE e_w15 (by rfl) (q_ALIKE_WORD Z)) (a_cons (e_var (pv 4)) a_nil))))
 ss_nil)))
def n54 : List Str := ["begin", "one", "other", "names", "deeds", "name", "deed"]
def p54 : List Str := ["begin", "one", "other", "names"]
theorem sc54 : FnScope n54 p54 (defScope st54) := ⟨by kernel_rfl, by kernel_rfl, by kernel_rfl, by decide +kernel, by kernel_rfl, by decide +kernel, by decide +kernel⟩
theorem w54 {P : Program} {w : World} {K : PySem.W.Frag} {mg : Str → Option Value} {base : Heap} {T : Tab} {k : Nat} (Z : Hd K mg) (C : CallsG P w K mg base T k) {f : Addr} {cdv : Value} {A : Around} {outer : List Env} {s : Shared} {H : Hp} {E : XK} (hr : Room (k + 1) (A.deeper (envOfC "check_both" (defScope st54) s.heap.objs.size f cdv))) :
    PSs (cxOf CN0 P w K mg base n54 "check_both" (defScope st54) f cdv A outer s H E).nox (defBody st54) (tS (Nc K) (b54 T)) := by
  have hk : k ≤ k + 1 := Nat.le_succ k
  have hk2 : k + 1 ≤ k + 1 := Nat.le_refl _
  have L : Lx (Nc K) (cxOf CN0 P w K mg base n54 "check_both" (defScope st54) f cdv A outer s H E).nox := ⟨rfl, rfl, sc54.nd, (by show (A.deeper _).units + 200 < cLine; have := hr.un; omega), C8.pass0⟩
  exact
 (ss_cons (s_exp (e_callP (C.pure 13) rfl (C.cal 13 "check_claim" rfl) hr hk (by rfl) (a_cons (e_var (pv 0)) a_nil)))
 (ss_cons (s_for L PassesOwn.never (i_any L (e_tup (a_cons (e_var (pv 1)) (a_cons (e_var (pv 2)) a_nil)))) (g_name (pg_name (i := 4) L.nd (by rfl) (by first | exact Or.inl rfl | exact Or.inr rfl)))
 (ss_cons (s_if (PW.pt (w_or (t_not (t_val (e_callP (C.pure 33) rfl (C.cal 33 "are_straight" rfl) hr hk (by rfl) (a_cons (e_var (pv 4)) a_nil)))) (w_one_or (t_val (e_blt L .any1 nofun nofun rfl (by rfl) (q_any Z) bo_any (a_cons (e_lcm L [("deed", 6)] rfl rfl (i_any L (e_call (C.cal 29 "all_deeds" rfl) hr hk (by rfl) (a_cons (e_var (pv 4)) a_nil))) (blkOk_by (by kernel_rfl)) (fun _ _ _ _ _ => (g_name (pg_name (i := 6) (Ld.blk L _ _ _ _ _).nd (by rfl) (by first | exact Or.inl rfl | exact Or.inr rfl)))) (fun _ _ _ _ _ => ts_nil) (fun _ _ _ _ _ => (e_cmp (Ld.blk L _ _ _ _ _) .eq (e_idx (Ld.blk L _ _ _ _ _) (e_var (pv 6)) e_int) (e_gstrE e_w5 (by rfl) (q_NEW Z)) (by first | exact nobehind _ (by decide) (by decide) | rfl | with_unfolding_all rfl)))) a_nil))))))
 (ss_cons s_never
 ss_nil)
 ss_nil)
 ss_nil))
 (ss_cons (s_exp (e_callP (C.pure 14) rfl (C.cal 14 "check_names" rfl) hr hk (by rfl) (a_cons (e_var (pv 3)) a_nil)))
 (ss_cons (s_if (t_not (t_val (e_blt L .all1 nofun nofun rfl (by rfl) (q_all Z) bo_all (a_cons (e_lcm L [("name", 5)] rfl rfl (i_any L (e_bin L .add (e_bin L .add (e_callP (C.pure 11) rfl (C.cal 11 "raw_names" rfl) hr hk (by rfl) (a_cons (e_var (pv 0)) a_nil)) (e_callP (C.pure 31) rfl (C.cal 31 "raw_used" rfl) hr hk (by rfl) (a_cons (e_var (pv 1)) a_nil))) (e_callP (C.pure 31) rfl (C.cal 31 "raw_used" rfl) hr hk (by rfl) (a_cons (e_var (pv 2)) a_nil)))) (blkOk_by (by kernel_rfl)) (fun _ _ _ _ _ => (g_name (pg_name (i := 5) (Ld.blk L _ _ _ _ _).nd (by rfl) (by first | exact Or.inl rfl | exact Or.inr rfl)))) (fun _ _ _ _ _ => ts_nil) (fun _ _ _ _ _ => (e_cmp (Ld.blk L _ _ _ _ _) .isin (e_var (pv 5)) (e_var (pv 3)) (by first | exact nobehind _ (by decide) (by decide) | rfl | with_unfolding_all rfl)))) a_nil))))
 (ss_cons s_never
 ss_nil)
 ss_nil)
 ss_nil))))
def n55 : List Str := ["begin", "one", "other", "names"]
def p55 : List Str := ["begin", "one", "other", "names"]
theorem sc55 : FnScope n55 p55 (defScope st55) := ⟨by kernel_rfl, by kernel_rfl, by kernel_rfl, by decide +kernel, by kernel_rfl, by decide +kernel, by decide +kernel⟩
theorem w55 {P : Program} {w : World} {K : PySem.W.Frag} {mg : Str → Option Value} {base : Heap} {T : Tab} {k : Nat} (Z : Hd K mg) (C : CallsG P w K mg base T k) {f : Addr} {cdv : Value} {A : Around} {outer : List Env} {s : Shared} {H : Hp} {E : XK} (hr : Room (k + 1) (A.deeper (envOfC "alike_deeds" (defScope st55) s.heap.objs.size f cdv))) :
    PSs (cxOf CN0 P w K mg base n55 "alike_deeds" (defScope st55) f cdv A outer s H E).nox (defBody st55) (tS (Nc K) (b55 T)) := by
  have hk : k ≤ k + 1 := Nat.le_succ k
  have hk2 : k + 1 ≤ k + 1 := Nat.le_refl _
  have L : Lx (Nc K) (cxOf CN0 P w K mg base n55 "alike_deeds" (defScope st55) f cdv A outer s H E).nox := ⟨rfl, rfl, sc55.nd, (by show (A.deeper _).units + 200 < cLine; have := hr.un; omega), C8.pass0⟩
  exact
 (ss_cons (s_exp (e_callP (C.pure 54) rfl (C.cal 54 "check_both" rfl) hr hk (by rfl) (a_cons (e_var (pv 0)) (a_cons (e_var (pv 1)) (a_cons (e_var (pv 2)) (a_cons (e_var (pv 3)) a_nil))))))
 (ss_cons (s_ret (e_callP (C.pure 53) rfl (C.cal 53 "raw_alike_deeds" rfl) hr hk (by rfl) (a_cons (e_var (pv 0)) (a_cons (e_var (pv 1)) (a_cons (e_var (pv 2)) (a_cons (e_var (pv 3)) a_nil))))))
 ss_nil))
def n56 : List Str := ["begin", "deeds", "names", "found", "at"]
def p56 : List Str := ["begin", "deeds", "names"]
theorem sc56 : FnScope n56 p56 (defScope st56) := ⟨by kernel_rfl, by kernel_rfl, by kernel_rfl, by decide +kernel, by kernel_rfl, by decide +kernel, by decide +kernel⟩
theorem w56 {P : Program} {w : World} {K : PySem.W.Frag} {mg : Str → Option Value} {base : Heap} {T : Tab} {k : Nat} (Z : Hd K mg) (C : CallsG P w K mg base T k) {f : Addr} {cdv : Value} {A : Around} {outer : List Env} {s : Shared} {H : Hp} {E : XK} (hr : Room (k + 1) (A.deeper (envOfC "needless_deeds" (defScope st56) s.heap.objs.size f cdv))) :
    PSs (cxOf CN0 P w K mg base n56 "needless_deeds" (defScope st56) f cdv A outer s H E).nox (defBody st56) (tS (Nc K) (b56 T)) := by
  have hk : k ≤ k + 1 := Nat.le_succ k
  have hk2 : k + 1 ≤ k + 1 := Nat.le_refl _
  have L : Lx (Nc K) (cxOf CN0 P w K mg base n56 "needless_deeds" (defScope st56) f cdv A outer s H E).nox := ⟨rfl, rfl, sc56.nd, (by show (A.deeper _).units + 200 < cLine; have := hr.un; omega), C8.pass0⟩
  exact
 (ss_cons (s_exp (e_callP (C.pure 54) rfl (C.cal 54 "check_both" rfl) hr hk (by rfl) (a_cons (e_var (pv 0)) (a_cons (e_var (pv 1)) (a_cons (e_var (pv 1)) (a_cons (e_var (pv 2)) a_nil))))))
 (ss_cons (s_set L 3 (by rfl) (by first | exact Or.inl rfl | exact Or.inr rfl) (e_lst a_nil))
 (ss_cons (s_for L PassesOwn.never (i_rng1 (by rfl) (q_range Z) (e_blt L .len nofun nofun rfl (by rfl) (q_len Z) bo_len (a_cons (e_var (pv 1)) a_nil))) (g_name (pg_name (i := 4) L.nd (by rfl) (by first | exact Or.inl rfl | exact Or.inr rfl)))
 (ss_cons (s_if (t_cmp L .eq (e_idx L (e_callP (C.pure 53) rfl (C.cal 53 "raw_alike_deeds" rfl) hr hk (by rfl) (a_cons (e_var (pv 0)) (a_cons (e_var (pv 1)) (a_cons (e_bin L .add (e_slc L (e_var (pv 1)) o_none (o_some (e_var (pv 4)))) (e_slc L (e_var (pv 1)) (o_some (e_bin L .add (e_var (pv 4)) e_int)) o_none)) (a_cons (e_var (pv 2)) a_nil))))) e_int) (e_gstrE e_w15 (by rfl) (q_ALIKE_WORD Z)) (by first | exact nobehind _ (by decide) (by decide) | rfl | with_unfolding_all rfl))
 (ss_cons (s_exp (e_bm L .append (by exact PySem.F.plainAttrs_list) (by exact PySem.F.slot_list_append) (by exact PySem.F.type_list_append) (e_var (pv 3)) (a_cons (e_var (pv 4)) a_nil)))
 ss_nil)
 ss_nil)
 ss_nil))
 (ss_cons (s_ret (e_bltT L .tuple1 nofun nofun rfl (by rfl) (q_tuple Z) bo_tuple (a_cons (e_var (pv 3)) a_nil)))
 ss_nil))))
def n57 : List Str := ["script", "cells_own", "digit_own"]
def p57 : List Str := ["script"]
theorem sc57 : FnScope n57 p57 (defScope st57) := ⟨by kernel_rfl, by kernel_rfl, by kernel_rfl, by decide +kernel, by kernel_rfl, by decide +kernel, by decide +kernel⟩
theorem w57 {P : Program} {w : World} {K : PySem.W.Frag} {mg : Str → Option Value} {base : Heap} {T : Tab} {k : Nat} (Z : Hd K mg) (C : CallsG P w K mg base T k) {f : Addr} {cdv : Value} {A : Around} {outer : List Env} {s : Shared} {H : Hp} {E : XK} (hr : Room (k + 1) (A.deeper (envOfC "_law_hand" (defScope st57) s.heap.objs.size f cdv))) :
    PSs (cxOf CN0 P w K mg base n57 "_law_hand" (defScope st57) f cdv A outer s H E).nox (defBody st57) (tS (Nc K) (b57 T)) := by
  have hk : k ≤ k + 1 := Nat.le_succ k
  have hk2 : k + 1 ≤ k + 1 := Nat.le_refl _
  have L : Lx (Nc K) (cxOf CN0 P w K mg base n57 "_law_hand" (defScope st57) f cdv A outer s H E).nox := ⟨rfl, rfl, sc57.nd, (by show (A.deeper _).units + 200 < cLine; have := hr.un; omega), C8.pass0⟩
  exact
 (ss_cons (s_setLc L 1 [("digit_own", 2)] rfl rfl (by rfl) (by rfl) (i_any L (e_slc L (e_var (pv 0)) o_none (o_some e_int))) (blkOk_by (by kernel_rfl)) (fun _ _ _ _ _ => (g_name (pg_name (i := 2) (Ld.blk L _ _ _ _ _).nd (by rfl) (by first | exact Or.inl rfl | exact Or.inr rfl)))) (fun _ _ _ _ _ => ts_nil) (fun _ _ _ _ _ => (e_blt (Ld.blk L _ _ _ _ _) .abs1 nofun nofun rfl (by rfl) (q_abs Z) bo_abs (a_cons (e_bltT (Ld.blk L _ _ _ _ _) .int1 nofun nofun rfl (by rfl) (q_int Z) bo_int (a_cons (e_var (pv 2)) a_nil)) a_nil))))
 (ss_cons (s_ret (e_lst (a_cons (e_var (pv 1)) (a_cons e_int (a_cons e_int (a_cons (e_bin L .add e_int (e_bin L .mul e_int (e_blt L .len nofun nofun rfl (by rfl) (q_len Z) bo_len (a_cons (e_var (pv 1)) a_nil)))) (a_cons e_int a_nil)))))))
 ss_nil))
def n58 : List Str := ["hand", "below", "number", "digit_own", "digit"]
def p58 : List Str := ["hand", "below"]
theorem sc58 : FnScope n58 p58 (defScope st58) := ⟨by kernel_rfl, by kernel_rfl, by kernel_rfl, by decide +kernel, by kernel_rfl, by decide +kernel, by decide +kernel⟩
theorem w58 {P : Program} {w : World} {K : PySem.W.Frag} {mg : Str → Option Value} {base : Heap} {T : Tab} {k : Nat} (Z : Hd K mg) (C : CallsG P w K mg base T k) {f : Addr} {cdv : Value} {A : Around} {outer : List Env} {s : Shared} {H : Hp} {E : XK} (hr : Room (k + 1) (A.deeper (envOfC "_law_draw" (defScope st58) s.heap.objs.size f cdv))) :
    PSs (cxOf CN0 P w K mg base n58 "_law_draw" (defScope st58) f cdv A outer s H E).nox (defBody st58) (tS (Nc K) (b58 T)) := by
  have hk : k ≤ k + 1 := Nat.le_succ k
  have hk2 : k + 1 ≤ k + 1 := Nat.le_refl _
  have L : Lx (Nc K) (cxOf CN0 P w K mg base n58 "_law_draw" (defScope st58) f cdv A outer s H E).nox := ⟨rfl, rfl, sc58.nd, (by show (A.deeper _).units + 200 < cLine; have := hr.un; omega), C8.pass0⟩
  exact
 (ss_cons (s_if (PW.pt (w_and (t_cmp L .eq (e_idx L (e_var (pv 0)) e_int) e_int (by first | exact nobehind _ (by decide) (by decide) | rfl | with_unfolding_all rfl)) (w_one_and (t_cmp L .lt (e_idx L (e_var (pv 0)) e_int) (e_blt L .len nofun nofun rfl (by rfl) (q_len Z) bo_len (a_cons (e_idx L (e_var (pv 0)) e_int) a_nil)) (by first | exact nobehind _ (by decide) (by decide) | rfl | with_unfolding_all rfl)))))
 (ss_cons (s_set L 3 (by rfl) (by first | exact Or.inl rfl | exact Or.inr rfl) (e_idx L (e_idx L (e_var (pv 0)) e_int) (e_idx L (e_var (pv 0)) e_int)))
 (ss_cons (s_setI L (e_var (pv 0)) e_int (e_bin L .add (e_idx L (e_var (pv 0)) e_int) e_int))
 (ss_cons (s_setI L (e_var (pv 0)) e_int (e_bin L .mod (e_bltT L .int1 nofun nofun rfl (by rfl) (q_int Z) bo_int (a_cons (e_bin L .add (e_bin L .add (e_bin L .mul (e_idx L (e_var (pv 0)) e_int) e_int) (e_bin L .mul (e_var (pv 3)) e_int)) e_int) a_nil)) e_int))
 (ss_cons (s_if (t_cmp L .ge (e_var (pv 3)) (e_bin L .pow e_int e_int) (by first | exact nobehind _ (by decide) (by decide) | rfl | with_unfolding_all rfl))
 (ss_cons (s_setI L (e_var (pv 0)) e_int (e_var (pv 3)))
 ss_nil)
 ss_nil)
 ss_nil))))
 ss_nil)
 (ss_cons (s_if (t_cmp L .gt (e_idx L (e_var (pv 0)) e_int) e_int (by first | exact nobehind _ (by decide) (by decide) | rfl | with_unfolding_all rfl))
 (ss_cons (s_set L 4 (by rfl) (by first | exact Or.inl rfl | exact Or.inr rfl) (e_bin L .mod (e_bltT L .int1 nofun nofun rfl (by rfl) (q_int Z) bo_int (a_cons (e_idx L (e_var (pv 0)) e_int) a_nil)) (e_var (pv 1))))
 (ss_cons (s_setI L (e_var (pv 0)) e_int (e_bin L .fdiv (e_idx L (e_var (pv 0)) e_int) (e_var (pv 1))))
 (ss_cons (s_ret (e_var (pv 4)))
 ss_nil)))
 ss_nil)
 (ss_cons (s_setI L (e_var (pv 0)) e_int (e_bin L .add (e_idx L (e_var (pv 0)) e_int) e_int))
 (ss_cons (s_set L 2 (by rfl) (by first | exact Or.inl rfl | exact Or.inr rfl) (e_bin L .mod (e_bltT L .int1 nofun nofun rfl (by rfl) (q_int Z) bo_int (a_cons (e_bin L .mul (e_bltT L .int1 nofun nofun rfl (by rfl) (q_int Z) bo_int (a_cons (e_bin L .add (e_idx L (e_var (pv 0)) e_int) (e_bin L .mul e_int (e_idx L (e_var (pv 0)) e_int))) a_nil)) e_int) a_nil)) e_int))
 (ss_cons (s_set L 2 (by rfl) (by first | exact Or.inl rfl | exact Or.inr rfl) (e_bin L .mod (e_bltT L .int1 nofun nofun rfl (by rfl) (q_int Z) bo_int (a_cons (e_bin L .mul (e_var (pv 2)) (e_bin L .add (e_bin L .fdiv (e_var (pv 2)) e_int) e_int)) a_nil)) e_int))
 (ss_cons (s_set L 2 (by rfl) (by first | exact Or.inl rfl | exact Or.inr rfl) (e_bin L .mod (e_bltT L .int1 nofun nofun rfl (by rfl) (q_int Z) bo_int (a_cons (e_bin L .mul (e_var (pv 2)) (e_bin L .add (e_bin L .fdiv (e_var (pv 2)) e_int) e_int)) a_nil)) e_int))
 (ss_cons (s_ret (e_bin L .mod (e_bltT L .int1 nofun nofun rfl (by rfl) (q_int Z) bo_int (a_cons (e_bin L .fdiv (e_var (pv 2)) e_int) a_nil)) (e_var (pv 1))))
 ss_nil)))))))
def n59 : List Str := ["hand", "some"]
def p59 : List Str := ["hand", "some"]
theorem sc59 : FnScope n59 p59 (defScope st59) := ⟨by kernel_rfl, by kernel_rfl, by kernel_rfl, by decide +kernel, by kernel_rfl, by decide +kernel, by decide +kernel⟩
theorem w59 {P : Program} {w : World} {K : PySem.W.Frag} {mg : Str → Option Value} {base : Heap} {T : Tab} {k : Nat} (Z : Hd K mg) (C : CallsG P w K mg base T k) {f : Addr} {cdv : Value} {A : Around} {outer : List Env} {s : Shared} {H : Hp} {E : XK} (hr : Room (k + 1) (A.deeper (envOfC "_law_any" (defScope st59) s.heap.objs.size f cdv))) :
    PSs (cxOf CN0 P w K mg base n59 "_law_any" (defScope st59) f cdv A outer s H E).nox (defBody st59) (tS (Nc K) (b59 T)) := by
  have hk : k ≤ k + 1 := Nat.le_succ k
  have hk2 : k + 1 ≤ k + 1 := Nat.le_refl _
  have L : Lx (Nc K) (cxOf CN0 P w K mg base n59 "_law_any" (defScope st59) f cdv A outer s H E).nox := ⟨rfl, rfl, sc59.nd, (by show (A.deeper _).units + 200 < cLine; have := hr.un; omega), C8.pass0⟩
  exact
 (ss_cons (s_ret (e_idx L (e_var (pv 1)) (e_call (C.cal 58 "_law_draw" rfl) hr hk (by rfl) (a_cons (e_var (pv 0)) (a_cons (e_blt L .len nofun nofun rfl (by rfl) (q_len Z) bo_len (a_cons (e_var (pv 1)) a_nil)) a_nil)))))
 ss_nil)
def n60 : List Str := ["one", "other"]
def p60 : List Str := ["one", "other"]
theorem sc60 : FnScope n60 p60 (defScope st60) := ⟨by kernel_rfl, by kernel_rfl, by kernel_rfl, by decide +kernel, by kernel_rfl, by decide +kernel, by decide +kernel⟩
theorem w60 {P : Program} {w : World} {K : PySem.W.Frag} {mg : Str → Option Value} {base : Heap} {T : Tab} {k : Nat} (Z : Hd K mg) (C : CallsG P w K mg base T k) {f : Addr} {cdv : Value} {A : Around} {outer : List Env} {s : Shared} {H : Hp} {E : XK} (hr : Room (k + 1) (A.deeper (envOfC "_law_pair" (defScope st60) s.heap.objs.size f cdv))) :
    PSs (cxOf CN0 P w K mg base n60 "_law_pair" (defScope st60) f cdv A outer s H E).nox (defBody st60) (tS (Nc K) (b60 T)) := by
  have hk : k ≤ k + 1 := Nat.le_succ k
  have hk2 : k + 1 ≤ k + 1 := Nat.le_refl _
  have L : Lx (Nc K) (cxOf CN0 P w K mg base n60 "_law_pair" (defScope st60) f cdv A outer s H E).nox := ⟨rfl, rfl, sc60.nd, (by show (A.deeper _).units + 200 < cLine; have := hr.un; omega), C8.pass0⟩
  exact
 (ss_cons (s_ret (e_ife (t_cmp L .lt (e_var (pv 0)) (e_var (pv 1)) (by first | exact nobehind _ (by decide) (by decide) | rfl | with_unfolding_all rfl)) (e_tup (a_cons (e_var (pv 0)) (a_cons (e_var (pv 1)) a_nil))) (e_tup (a_cons (e_var (pv 1)) (a_cons (e_var (pv 0)) a_nil)))))
 ss_nil)
def n61 : List Str := ["x", "y", "z", "two", "chain", "some", "none", "cell"]
def p61 : List Str := ["x", "y", "z"]
theorem sc61 : FnScope n61 p61 (defScope st61) := ⟨by kernel_rfl, by kernel_rfl, by kernel_rfl, by decide +kernel, by kernel_rfl, by decide +kernel, by decide +kernel⟩
theorem w61 {P : Program} {w : World} {K : PySem.W.Frag} {mg : Str → Option Value} {base : Heap} {T : Tab} {k : Nat} (Z : Hd K mg) (C : CallsG P w K mg base T k) {f : Addr} {cdv : Value} {A : Around} {outer : List Env} {s : Shared} {H : Hp} {E : XK} (hr : Room (k + 1) (A.deeper (envOfC "_law_cases" (defScope st61) s.heap.objs.size f cdv))) :
    PSs (cxOf CN0 P w K mg base n61 "_law_cases" (defScope st61) f cdv A outer s H E).nox (defBody st61) (tS (Nc K) (b61 T)) := by
  have hk : k ≤ k + 1 := Nat.le_succ k
  have hk2 : k + 1 ≤ k + 1 := Nat.le_refl _
  have L : Lx (Nc K) (cxOf CN0 P w K mg base n61 "_law_cases" (defScope st61) f cdv A outer s H E).nox := ⟨rfl, rfl, sc61.nd, (by show (A.deeper _).units + 200 < cLine; have := hr.un; omega), C8.pass0⟩
  exact
 (ss_cons (s_par L 6 7 (by rfl) (by rfl) (by decide) (by rfl) (by rfl) (a_cons (e_tup (a_cons (e_tup a_nil) (a_cons (e_tup a_nil) (a_cons (e_tup a_nil) a_nil)))) (a_cons (e_tup (a_cons (e_tup a_nil) (a_cons (e_tup a_nil) (a_cons (e_tup (a_cons (e_tup (a_cons (e_strE e_w12) (a_cons (e_var (pv 0)) (a_cons (e_strE e_w1) a_nil)))) a_nil)) a_nil)))) a_nil)) (by rfl))
 (ss_cons (s_set L 3 (by rfl) (by first | exact Or.inl rfl | exact Or.inr rfl) (e_tup (a_cons (e_tup a_nil) (a_cons (e_tup a_nil) (a_cons (e_bltT L .tuple1 nofun nofun rfl (by rfl) (q_tuple Z) bo_tuple (a_cons (e_blt L .sorted1 nofun nofun rfl (by rfl) (q_sorted Z) bo_sorted (a_cons (e_lst (a_cons (e_tup (a_cons (e_strE e_w12) (a_cons (e_var (pv 0)) (a_cons (e_strE e_w1) a_nil)))) (a_cons (e_tup (a_cons (e_strE e_w12) (a_cons (e_var (pv 1)) (a_cons (e_strE e_w1) a_nil)))) a_nil))) a_nil)) a_nil)) a_nil)))))
 (ss_cons (s_set L 4 (by rfl) (by first | exact Or.inl rfl | exact Or.inr rfl) (e_tup (a_cons (e_tup a_nil) (a_cons (e_tup (a_cons (e_callP (C.pure 60) rfl (C.cal 60 "_law_pair" rfl) hr hk (by rfl) (a_cons (e_var (pv 0)) (a_cons (e_strE e_w1) a_nil))) a_nil)) (a_cons (e_tup (a_cons (e_tup (a_cons (e_strE e_w2) (a_cons (e_var (pv 0)) (a_cons (e_strE e_w1) a_nil)))) a_nil)) a_nil)))))
 (ss_cons (s_set L 5 (by rfl) (by first | exact Or.inl rfl | exact Or.inr rfl) (e_lst (a_cons (e_tup (a_cons (e_var (pv 6)) (a_cons (e_tup (a_cons (e_tup (a_cons (e_strE e_w14) (a_cons (e_var (pv 0)) (a_cons (e_var (pv 1)) a_nil)))) (a_cons (e_tup (a_cons (e_strE e_w14) (a_cons (e_var (pv 2)) (a_cons (e_strE e_w1) a_nil)))) a_nil))) (a_cons (e_tup (a_cons (e_tup (a_cons (e_strE e_w14) (a_cons (e_var (pv 2)) (a_cons (e_strE e_w1) a_nil)))) (a_cons (e_tup (a_cons (e_strE e_w14) (a_cons (e_var (pv 0)) (a_cons (e_var (pv 1)) a_nil)))) a_nil))) (a_cons e_bl a_nil))))) a_nil)))
 (ss_cons (s_exp (e_bm L .append (by exact PySem.F.plainAttrs_list) (by exact PySem.F.slot_list_append) (by exact PySem.F.type_list_append) (e_var (pv 5)) (a_cons (e_tup (a_cons (e_var (pv 6)) (a_cons (e_tup (a_cons (e_tup (a_cons (e_strE e_w14) (a_cons (e_var (pv 0)) (a_cons (e_var (pv 1)) a_nil)))) a_nil)) (a_cons (e_tup (a_cons (e_tup (a_cons (e_strE e_w14) (a_cons (e_var (pv 1)) (a_cons (e_var (pv 0)) a_nil)))) a_nil)) (a_cons e_bl a_nil))))) a_nil)))
 (ss_cons (s_exp (e_bm L .append (by exact PySem.F.plainAttrs_list) (by exact PySem.F.slot_list_append) (by exact PySem.F.type_list_append) (e_var (pv 5)) (a_cons (e_tup (a_cons (e_var (pv 7)) (a_cons (e_tup (a_cons (e_tup (a_cons (e_strE e_w13) (a_cons (e_var (pv 0)) (a_cons (e_var (pv 1)) a_nil)))) (a_cons (e_tup (a_cons (e_strE e_w13) (a_cons (e_var (pv 0)) (a_cons (e_var (pv 2)) a_nil)))) a_nil))) (a_cons (e_tup (a_cons (e_tup (a_cons (e_strE e_w13) (a_cons (e_var (pv 0)) (a_cons (e_var (pv 2)) a_nil)))) a_nil)) (a_cons e_bl a_nil))))) a_nil)))
 (ss_cons (s_exp (e_bm L .append (by exact PySem.F.plainAttrs_list) (by exact PySem.F.slot_list_append) (by exact PySem.F.type_list_append) (e_var (pv 5)) (a_cons (e_tup (a_cons (e_var (pv 7)) (a_cons (e_tup (a_cons (e_tup (a_cons (e_strE e_w13) (a_cons (e_var (pv 0)) (a_cons (e_var (pv 1)) a_nil)))) (a_cons (e_tup (a_cons (e_strE e_w8) (a_cons (e_var (pv 2)) (a_cons (e_var (pv 0)) a_nil)))) a_nil))) (a_cons (e_tup (a_cons (e_tup (a_cons (e_strE e_w13) (a_cons (e_var (pv 0)) (a_cons (e_var (pv 1)) a_nil)))) (a_cons (e_tup (a_cons (e_strE e_w14) (a_cons (e_var (pv 2)) (a_cons (e_var (pv 1)) a_nil)))) a_nil))) (a_cons e_bl a_nil))))) a_nil)))
 (ss_cons (s_exp (e_bm L .append (by exact PySem.F.plainAttrs_list) (by exact PySem.F.slot_list_append) (by exact PySem.F.type_list_append) (e_var (pv 5)) (a_cons (e_tup (a_cons (e_var (pv 6)) (a_cons (e_tup (a_cons (e_tup (a_cons (e_strE e_w13) (a_cons (e_var (pv 0)) (a_cons (e_var (pv 1)) a_nil)))) a_nil)) (a_cons (e_tup a_nil) (a_cons e_bl a_nil))))) a_nil)))
 (ss_cons (s_exp (e_bm L .append (by exact PySem.F.plainAttrs_list) (by exact PySem.F.slot_list_append) (by exact PySem.F.type_list_append) (e_var (pv 5)) (a_cons (e_tup (a_cons (e_var (pv 6)) (a_cons (e_tup (a_cons (e_tup (a_cons (e_strE e_w9) (a_cons (e_var (pv 0)) a_nil))) a_nil)) (a_cons (e_tup (a_cons (e_tup (a_cons (e_strE e_w8) (a_cons (e_var (pv 1)) (a_cons (e_var (pv 0)) a_nil)))) a_nil)) (a_cons e_bl a_nil))))) a_nil)))
 (ss_cons (s_exp (e_bm L .append (by exact PySem.F.plainAttrs_list) (by exact PySem.F.slot_list_append) (by exact PySem.F.type_list_append) (e_var (pv 5)) (a_cons (e_tup (a_cons (e_var (pv 7)) (a_cons (e_tup (a_cons (e_tup (a_cons (e_strE e_w9) (a_cons (e_var (pv 0)) a_nil))) (a_cons (e_tup (a_cons (e_strE e_w9) (a_cons (e_var (pv 0)) a_nil))) a_nil))) (a_cons (e_tup (a_cons (e_tup (a_cons (e_strE e_w9) (a_cons (e_var (pv 0)) a_nil))) (a_cons (e_tup (a_cons (e_strE e_w8) (a_cons (e_var (pv 1)) (a_cons (e_var (pv 0)) a_nil)))) a_nil))) (a_cons e_bl a_nil))))) a_nil)))
 (ss_cons (s_exp (e_bm L .append (by exact PySem.F.plainAttrs_list) (by exact PySem.F.slot_list_append) (by exact PySem.F.type_list_append) (e_var (pv 5)) (a_cons (e_tup (a_cons (e_var (pv 3)) (a_cons (e_tup (a_cons (e_tup (a_cons (e_strE e_w13) (a_cons (e_var (pv 0)) (a_cons (e_var (pv 2)) a_nil)))) (a_cons (e_tup (a_cons (e_strE e_w13) (a_cons (e_var (pv 1)) (a_cons (e_var (pv 2)) a_nil)))) a_nil))) (a_cons (e_tup (a_cons (e_tup (a_cons (e_strE e_w13) (a_cons (e_var (pv 1)) (a_cons (e_var (pv 2)) a_nil)))) (a_cons (e_tup (a_cons (e_strE e_w13) (a_cons (e_var (pv 0)) (a_cons (e_var (pv 2)) a_nil)))) a_nil))) (a_cons e_bl a_nil))))) a_nil)))
 (ss_cons (s_exp (e_bm L .append (by exact PySem.F.plainAttrs_list) (by exact PySem.F.slot_list_append) (by exact PySem.F.type_list_append) (e_var (pv 5)) (a_cons (e_tup (a_cons (e_var (pv 3)) (a_cons (e_tup (a_cons (e_tup (a_cons (e_strE e_w8) (a_cons (e_var (pv 2)) (a_cons (e_var (pv 0)) a_nil)))) a_nil)) (a_cons (e_tup (a_cons (e_tup (a_cons (e_strE e_w8) (a_cons (e_var (pv 2)) (a_cons (e_var (pv 1)) a_nil)))) a_nil)) (a_cons e_bl a_nil))))) a_nil)))
 (ss_cons (s_exp (e_bm L .append (by exact PySem.F.plainAttrs_list) (by exact PySem.F.slot_list_append) (by exact PySem.F.type_list_append) (e_var (pv 5)) (a_cons (e_tup (a_cons (e_var (pv 4)) (a_cons (e_tup (a_cons (e_tup (a_cons (e_strE e_w8) (a_cons (e_var (pv 1)) (a_cons (e_var (pv 0)) a_nil)))) (a_cons (e_tup (a_cons (e_strE e_w14) (a_cons (e_var (pv 2)) (a_cons (e_var (pv 1)) a_nil)))) a_nil))) (a_cons (e_tup (a_cons (e_tup (a_cons (e_strE e_w8) (a_cons (e_var (pv 2)) (a_cons (e_var (pv 0)) a_nil)))) (a_cons (e_tup (a_cons (e_strE e_w14) (a_cons (e_var (pv 1)) (a_cons (e_var (pv 2)) a_nil)))) a_nil))) (a_cons e_bl a_nil))))) a_nil)))
 (ss_cons (s_exp (e_bm L .append (by exact PySem.F.plainAttrs_list) (by exact PySem.F.slot_list_append) (by exact PySem.F.type_list_append) (e_var (pv 5)) (a_cons (e_tup (a_cons (e_var (pv 4)) (a_cons (e_tup (a_cons (e_tup (a_cons (e_strE e_w8) (a_cons (e_var (pv 1)) (a_cons (e_var (pv 0)) a_nil)))) (a_cons (e_tup (a_cons (e_strE e_w8) (a_cons (e_var (pv 1)) (a_cons (e_var (pv 1)) a_nil)))) a_nil))) (a_cons (e_tup (a_cons (e_tup (a_cons (e_strE e_w8) (a_cons (e_var (pv 1)) (a_cons (e_var (pv 0)) a_nil)))) a_nil)) (a_cons e_bl a_nil))))) a_nil)))
 (ss_cons (s_exp (e_bm L .append (by exact PySem.F.plainAttrs_list) (by exact PySem.F.slot_list_append) (by exact PySem.F.type_list_append) (e_var (pv 5)) (a_cons (e_tup (a_cons (e_var (pv 6)) (a_cons (e_tup (a_cons (e_tup (a_cons (e_strE e_w11) (a_cons (e_tup (a_cons (e_strE e_w7) (a_cons (e_var (pv 0)) (a_cons (e_var (pv 1)) a_nil)))) (a_cons (e_tup (a_cons (e_tup (a_cons (e_strE e_w14) (a_cons (e_var (pv 0)) (a_cons (e_var (pv 1)) a_nil)))) a_nil)) (a_cons (e_tup a_nil) a_nil))))) a_nil)) (a_cons (e_tup a_nil) (a_cons e_bl a_nil))))) a_nil)))
 (ss_cons (s_exp (e_bm L .append (by exact PySem.F.plainAttrs_list) (by exact PySem.F.slot_list_append) (by exact PySem.F.type_list_append) (e_var (pv 5)) (a_cons (e_tup (a_cons (e_var (pv 6)) (a_cons (e_tup (a_cons (e_tup (a_cons (e_strE e_w11) (a_cons (e_tup (a_cons (e_strE e_w6) (a_cons (e_var (pv 0)) (a_cons (e_var (pv 1)) a_nil)))) (a_cons (e_tup (a_cons (e_tup (a_cons (e_strE e_w14) (a_cons (e_var (pv 0)) (a_cons (e_var (pv 1)) a_nil)))) a_nil)) (a_cons (e_tup a_nil) a_nil))))) a_nil)) (a_cons (e_tup (a_cons (e_tup (a_cons (e_strE e_w14) (a_cons (e_var (pv 0)) (a_cons (e_var (pv 1)) a_nil)))) a_nil)) (a_cons e_bl a_nil))))) a_nil)))
 (ss_cons (s_ret (e_var (pv 5)))
 ss_nil)))))))))))))))))
def n62 : List Str := ["script", "hand", "names", "never", "cell", "some", "x", "y", "z", "begin", "one", "other", "is_like", "pair", "heard"]
def p62 : List Str := ["script"]
theorem sc62 : FnScope n62 p62 (defScope st62) := ⟨by kernel_rfl, by kernel_rfl, by kernel_rfl, by decide +kernel, by kernel_rfl, by decide +kernel, by decide +kernel⟩
theorem w62 {P : Program} {w : World} {K : PySem.W.Frag} {mg : Str → Option Value} {base : Heap} {T : Tab} {k : Nat} (Z : Hd K mg) (C : CallsG P w K mg base T k) {f : Addr} {cdv : Value} {A : Around} {outer : List Env} {s : Shared} {H : Hp} {E : XK} (hr : Room (k + 1) (A.deeper (envOfC "law" (defScope st62) s.heap.objs.size f cdv))) :
    PSs (cxOf CN0 P w K mg base n62 "law" (defScope st62) f cdv A outer s H E).nox (defBody st62) (tS (Nc K) (b62 T)) := by
  have hk : k ≤ k + 1 := Nat.le_succ k
  have hk2 : k + 1 ≤ k + 1 := Nat.le_refl _
  have L : Lx (Nc K) (cxOf CN0 P w K mg base n62 "law" (defScope st62) f cdv A outer s H E).nox := ⟨rfl, rfl, sc62.nd, (by show (A.deeper _).units + 200 < cLine; have := hr.un; omega), C8.pass0⟩
  exact
 (ss_cons (s_set L 1 (by rfl) (by first | exact Or.inl rfl | exact Or.inr rfl) (e_call (C.cal 57 "_law_hand" rfl) hr hk (by rfl) (a_cons (e_var (pv 0)) a_nil)))
 (ss_cons (s_asg (e_call (C.cal 59 "_law_any" rfl) hr hk (by rfl) (a_cons (e_var (pv 1)) (a_cons (e_lst (a_cons (e_tup (a_cons (e_strE e_w24) (a_cons (e_strE e_w23) (a_cons (e_strE e_w25) a_nil)))) (a_cons (e_tup (a_cons (e_strE e_w25) (a_cons (e_strE e_w24) (a_cons (e_strE e_w23) a_nil)))) (a_cons (e_tup (a_cons (e_strE e_w22) (a_cons (e_strE e_w21) (a_cons (e_strE e_w20) a_nil)))) (a_cons (e_tup (a_cons (e_strE e_w19) (a_cons (e_strE e_w18) (a_cons (e_strE e_w17) a_nil)))) a_nil))))) a_nil))) (g_tup L (g_cons (g_name (pg_name (i := 6) L.nd (by rfl) (by first | exact Or.inl rfl | exact Or.inr rfl))) (g_cons (g_name (pg_name (i := 7) L.nd (by rfl) (by first | exact Or.inl rfl | exact Or.inr rfl))) (g_cons (g_name (pg_name (i := 8) L.nd (by rfl) (by first | exact Or.inl rfl | exact Or.inr rfl))) g_nil)))))
 (ss_cons (s_set L 2 (by rfl) (by first | exact Or.inl rfl | exact Or.inr rfl) (e_bltT L .tuple1 nofun nofun rfl (by rfl) (q_tuple Z) bo_tuple (a_cons (e_blt L .sorted1 nofun nofun rfl (by rfl) (q_sorted Z) bo_sorted (a_cons (e_lst (a_cons (e_var (pv 6)) (a_cons (e_var (pv 7)) (a_cons (e_var (pv 8)) a_nil)))) a_nil)) a_nil)))
 (ss_cons (s_for L PassesOwn.never (i_any L (e_call (C.cal 61 "_law_cases" rfl) hr hk (by rfl) (a_cons (e_var (pv 6)) (a_cons (e_var (pv 7)) (a_cons (e_var (pv 8)) a_nil))))) (g_tup L (g_cons (g_name (pg_name (i := 9) L.nd (by rfl) (by first | exact Or.inl rfl | exact Or.inr rfl))) (g_cons (g_name (pg_name (i := 10) L.nd (by rfl) (by first | exact Or.inl rfl | exact Or.inr rfl))) (g_cons (g_name (pg_name (i := 11) L.nd (by rfl) (by first | exact Or.inl rfl | exact Or.inr rfl))) (g_cons (g_name (pg_name (i := 12) L.nd (by rfl) (by first | exact Or.inl rfl | exact Or.inr rfl))) g_nil)))))
 (ss_cons (s_for L PassesOwn.never (i_any L (e_lst (a_cons (e_tup (a_cons (e_var (pv 10)) (a_cons (e_var (pv 11)) a_nil))) (a_cons (e_tup (a_cons (e_var (pv 11)) (a_cons (e_var (pv 10)) a_nil))) a_nil)))) (g_name (pg_name (i := 13) L.nd (by rfl) (by first | exact Or.inl rfl | exact Or.inr rfl)))
 (ss_cons (s_set L 14 (by rfl) (by first | exact Or.inl rfl | exact Or.inr rfl) (e_callP (C.pure 55) rfl (C.cal 55 "alike_deeds" rfl) hr hk (by rfl) (a_cons (e_var (pv 9)) (a_cons (e_idx L (e_var (pv 13)) e_int) (a_cons (e_idx L (e_var (pv 13)) e_int) (a_cons (e_var (pv 2)) a_nil))))))
 (ss_cons (s_if (t_cmp L .ne (e_idx L (e_var (pv 14)) e_int) (e_ife (t_val (e_var (pv 12))) (e_strE e_w15) (e_strE e_w16)) (by first | exact nobehind _ (by decide) (by decide) | rfl | with_unfolding_all rfl))
 (ss_cons (s_ret e_bl)
 ss_nil)
 ss_nil)
 ss_nil)))
 ss_nil))
 (ss_cons (s_set L 3 (by rfl) (by first | exact Or.inl rfl | exact Or.inr rfl) (e_tup (a_cons (e_tup a_nil) (a_cons (e_tup a_nil) (a_cons (e_bltT L .tuple1 nofun nofun rfl (by rfl) (q_tuple Z) bo_tuple (a_cons (e_blt L .sorted1 nofun nofun rfl (by rfl) (q_sorted Z) bo_sorted (a_cons (e_lst (a_cons (e_tup (a_cons (e_strE e_w12) (a_cons (e_var (pv 6)) (a_cons (e_var (pv 7)) a_nil)))) (a_cons (e_tup (a_cons (e_strE e_w12) (a_cons (e_var (pv 6)) (a_cons (e_var (pv 8)) a_nil)))) a_nil))) a_nil)) a_nil)) a_nil)))))
 (ss_cons (s_if (t_cmp L .ne (e_callP (C.pure 55) rfl (C.cal 55 "alike_deeds" rfl) hr hk (by rfl) (a_cons (e_var (pv 3)) (a_cons (e_tup (a_cons (e_tup (a_cons (e_strE e_w9) (a_cons (e_var (pv 7)) a_nil))) a_nil)) (a_cons (e_tup a_nil) (a_cons (e_var (pv 2)) a_nil))))) (e_tup (a_cons (e_strE e_w15) (a_cons e_int a_nil))) (by first | exact nobehind _ (by decide) (by decide) | rfl | with_unfolding_all rfl))
 (ss_cons (s_ret e_bl)
 ss_nil)
 ss_nil)
 (ss_cons (s_set L 4 (by rfl) (by first | exact Or.inl rfl | exact Or.inr rfl) (e_tup (a_cons (e_tup a_nil) (a_cons (e_tup a_nil) (a_cons (e_tup (a_cons (e_tup (a_cons (e_strE e_w12) (a_cons (e_var (pv 6)) (a_cons (e_strE e_w1) a_nil)))) a_nil)) a_nil)))))
 (ss_cons (s_set L 5 (by rfl) (by first | exact Or.inl rfl | exact Or.inr rfl) (e_tup (a_cons (e_tup (a_cons (e_strE e_w13) (a_cons (e_var (pv 6)) (a_cons (e_var (pv 7)) a_nil)))) (a_cons (e_tup (a_cons (e_strE e_w14) (a_cons (e_var (pv 7)) (a_cons (e_var (pv 7)) a_nil)))) (a_cons (e_tup (a_cons (e_strE e_w13) (a_cons (e_var (pv 6)) (a_cons (e_var (pv 8)) a_nil)))) a_nil)))))
 (ss_cons (s_if (t_cmp L .ne (e_callP (C.pure 56) rfl (C.cal 56 "needless_deeds" rfl) hr hk (by rfl) (a_cons (e_var (pv 4)) (a_cons (e_var (pv 5)) (a_cons (e_var (pv 2)) a_nil)))) (e_tup (a_cons e_int (a_cons e_int a_nil))) (by first | exact nobehind _ (by decide) (by decide) | rfl | with_unfolding_all rfl))
 (ss_cons (s_ret e_bl)
 ss_nil)
 ss_nil)
 (ss_cons (s_ret (e_cmp L .eq (e_callP (C.pure 56) rfl (C.cal 56 "needless_deeds" rfl) hr hk (by rfl) (a_cons (e_tup (a_cons (e_tup a_nil) (a_cons (e_tup a_nil) (a_cons (e_tup a_nil) a_nil)))) (a_cons (e_tup (a_cons (e_tup (a_cons (e_strE e_w14) (a_cons (e_var (pv 6)) (a_cons (e_strE e_w1) a_nil)))) (a_cons (e_tup (a_cons (e_strE e_w14) (a_cons (e_var (pv 6)) (a_cons (e_var (pv 7)) a_nil)))) a_nil))) (a_cons (e_var (pv 2)) a_nil)))) (e_tup (a_cons e_int a_nil)) (by first | exact nobehind _ (by decide) (by decide) | rfl | with_unfolding_all rfl)))
 ss_nil))))))))))
def fb0 : FB := ⟨2, 1, b0⟩
def fb1 : FB := ⟨1, 1, b1⟩
def fb2 : FB := ⟨3, 3, b2⟩
def fb3 : FB := ⟨2, 1, b3⟩
def fb4 : FB := ⟨1, 1, b4⟩
def fb5 : FB := ⟨3, 2, b5⟩
def fb6 : FB := ⟨3, 1, b6⟩
def fb7 : FB := ⟨1, 1, b7⟩
def fb8 : FB := ⟨2, 1, b8⟩
def fb9 : FB := ⟨2, 1, b9⟩
def fb10 : FB := ⟨6, 3, b10⟩
def fb11 : FB := ⟨2, 1, b11⟩
def fb12 : FB := ⟨1, 1, b12⟩
def fb13 : FB := ⟨1, 1, b13⟩
def fb14 : FB := ⟨1, 1, b14⟩
def fb15 : FB := ⟨6, 1, b15⟩
def fb16 : FB := ⟨1, 1, b16⟩
def fb17 : FB := ⟨3, 2, b17⟩
def fb18 : FB := ⟨4, 2, b18⟩
def fb19 : FB := ⟨7, 2, b19⟩
def fb20 : FB := ⟨6, 2, b20⟩
def fb21 : FB := ⟨11, 3, b21⟩
def fb22 : FB := ⟨3, 2, b22⟩
def fb23 : FB := ⟨5, 2, b23⟩
def fb24 : FB := ⟨1, 1, b24⟩
def fb25 : FB := ⟨1, 1, b25⟩
def fb26 : FB := ⟨1, 1, b26⟩
def fb27 : FB := ⟨1, 1, b27⟩
def fb28 : FB := ⟨8, 1, b28⟩
def fb29 : FB := ⟨4, 1, b29⟩
def fb30 : FB := ⟨2, 1, b30⟩
def fb31 : FB := ⟨4, 1, b31⟩
def fb32 : FB := ⟨1, 1, b32⟩
def fb33 : FB := ⟨2, 1, b33⟩
def fb34 : FB := ⟨6, 2, b34⟩
def fb35 : FB := ⟨10, 2, b35⟩
def fb36 : FB := ⟨2, 1, b36⟩
def fb37 : FB := ⟨2, 2, b37⟩
def fb38 : FB := ⟨1, 1, b38⟩
def fb39 : FB := ⟨3, 3, b39⟩
def fb40 : FB := ⟨5, 1, b40⟩
def fb41 : FB := ⟨10, 2, b41⟩
def fb42 : FB := ⟨7, 2, b42⟩
def fb43 : FB := ⟨6, 2, b43⟩
def fb44 : FB := ⟨2, 1, b44⟩
def fb45 : FB := ⟨4, 2, b45⟩
def fb46 : FB := ⟨8, 2, b46⟩
def fb47 : FB := ⟨8, 2, b47⟩
def fb48 : FB := ⟨2, 2, b48⟩
def fb49 : FB := ⟨13, 2, b49⟩
def fb50 : FB := ⟨8, 1, b50⟩
def fb51 : FB := ⟨6, 2, b51⟩
def fb52 : FB := ⟨4, 4, b52⟩
def fb53 : FB := ⟨10, 4, b53⟩
def fb54 : FB := ⟨7, 4, b54⟩
def fb55 : FB := ⟨4, 4, b55⟩
def fb56 : FB := ⟨5, 3, b56⟩
def fb57 : FB := ⟨3, 1, b57⟩
def fb58 : FB := ⟨5, 2, b58⟩
def fb59 : FB := ⟨2, 2, b59⟩
def fb60 : FB := ⟨2, 2, b60⟩
def fb61 : FB := ⟨8, 3, b61⟩
def fb62 : FB := ⟨15, 1, b62⟩
def defsL : List FB := [fb0, fb1, fb2, fb3, fb4, fb5, fb6, fb7, fb8, fb9, fb10, fb11, fb12, fb13, fb14, fb15, fb16, fb17, fb18, fb19, fb20, fb21, fb22, fb23, fb24, fb25, fb26, fb27, fb28, fb29, fb30, fb31, fb32, fb33, fb34, fb35, fb36, fb37, fb38, fb39, fb40, fb41, fb42, fb43, fb44, fb45, fb46, fb47, fb48, fb49, fb50, fb51, fb52, fb53, fb54, fb55, fb56, fb57, fb58, fb59, fb60, fb61, fb62]
def prg : Prg := ⟨fun f => defsL[f]?, methT, initT, fun _ => .non, 100000⟩
/-- what a level's function may be: nothing, or a def's body over the level below -/
def Lev (P : Program) (w : World) (K : PySem.W.Frag) (mg : Str → Option Value) (base : Heap) (k : Nat) (fb : FB) (f : List AV → AH → Res AV) : Prop := (∀ vs h, f vs h = .bad) ∨ ∃ T j, k = j + 2 ∧ CallsG P w K mg base T j ∧ f = runF T fb
structure DOk (P : Program) (w : World) (K : PySem.W.Frag) (mg : Str → Option Value) (base : Heap) (k : Nat) (ad : Addr) (ps : List Str) (f : List AV → AH → Res AV) : Prop where
  ex : ∃ fd, FnOk P w K mg base CN0 k ad fd ps (spN (Nc K) f) ∧ PySem.W.keepIn K (.ref ad) = true ∧ Binds K fd ps []
theorem sp_bad {N : Cn} {f : List AV → AH → Res AV} (hf : ∀ vs h, f vs h = .bad) {vs : List V} {H : Hp} {Q : VK} {E : XK} (h : spN N f vs H Q E) : False := by
  obtain ⟨ι, h, as, R, r, p⟩ := h
  rw [hf] at p
  exact p
theorem sp_len {N : Cn} {T : Tab} {fb : FB} {vs : List V} {H : Hp} {Q : VK} {E : XK} (h : spN N (runF T fb) vs H Q E) : vs.length = fb.params := by
  obtain ⟨ι, h, as, R, r, p⟩ := h
  unfold runF at p
  split at p
  · rename_i l
    rw [r.length]
    exact Nat.eq_of_beq_eq_true l
  · exact p.elim
section
variable {P : Program} {w : World} {K : PySem.W.Frag} {mg : Str → Option Value} {base : Heap}
theorem dok {d : He.DefD} {fd : FuncData} {nm ps : List Str} {fb : FB} (F : FunD K d.name d.qual d.params d.body d.scope [] [] (He.fAd K d.at_) fd) (S : FnScope nm ps d.scope) (hs : nm.length = fb.slots) (hp : ps.length = fb.params) (hq : fb.params ≤ fb.slots)
    (hb : ∀ (kV doc pm : Value) (an : Option Addr) (cdv ct : Value) (us : List Value), us.length = ps.length → bindArgs (PySem.W.fnOf d.name d.qual d.params d.body d.scope .none kV doc pm an cdv ct) ⟨us, []⟩ = pure (ps.zip us))
    {k : Nat} {f : List AV → AH → Res AV} (hf : Lev P w K mg base k fb f)
    (hw : ∀ {T : Tab} {k : Nat}, CallsG P w K mg base T k → ∀ {cdv : Value} {A : Around} {outer : List Env} {s : Shared} {H : Hp} {E : XK}, Room (k + 1) (A.deeper (envOfC d.qual d.scope s.heap.objs.size (He.fAd K d.at_) cdv)) →
      PSs (cxOf CN0 P w K mg base nm d.qual d.scope (He.fAd K d.at_) cdv A outer s H E).nox d.body (tS (Nc K) (fb.body T))) : DOk P w K mg base k (He.fAd K d.at_) ps f := by
  refine ⟨fd, ?_, F.kp, F.bindsN hb⟩
  rcases hf with hf | ⟨T, j, rfl, C, rfl⟩
  · exact ⟨fun vs H Q E h => (sp_bad hf h).elim, fun A outer s H args us vs Q E _ _ _ _ h => (sp_bad hf h).elim⟩
  · refine F.ok S (fun vs H Q E h => by rw [sp_len h, hp]) fun cdv A outer s H vs Q E hr h => ⟨_, PSs.nox (hw C hr), body_ok hs hq h⟩
theorem g0 (Z : Hd K mg) {k : Nat} {f : List AV → AH → Res AV} (hf : Lev P w K mg base k fb0 f) : DOk P w K mg base k (He.fAd K d0.at_) p0 f := by
  obtain ⟨fd, F⟩ := Z.c.def_ 0 (d := d0) rfl
  exact dok (d := d0) (nm := n0) F sc0 rfl rfl (by decide) (fun _ _ _ _ _ _ us hl => match us, hl with | [_], _ => rfl) hf (fun C _ _ _ _ _ _ hr => w0 Z C hr)
theorem g1 (Z : Hd K mg) {k : Nat} {f : List AV → AH → Res AV} (hf : Lev P w K mg base k fb1 f) : DOk P w K mg base k (He.fAd K d1.at_) p1 f := by
  obtain ⟨fd, F⟩ := Z.c.def_ 1 (d := d1) rfl
  exact dok (d := d1) (nm := n1) F sc1 rfl rfl (by decide) (fun _ _ _ _ _ _ us hl => match us, hl with | [_], _ => rfl) hf (fun C _ _ _ _ _ _ hr => w1 Z C hr)
theorem g2 (Z : Hd K mg) {k : Nat} {f : List AV → AH → Res AV} (hf : Lev P w K mg base k fb2 f) : DOk P w K mg base k (He.fAd K d2.at_) p2 f := by
  obtain ⟨fd, F⟩ := Z.c.def_ 2 (d := d2) rfl
  exact dok (d := d2) (nm := n2) F sc2 rfl rfl (by decide) (fun _ _ _ _ _ _ us hl => match us, hl with | [_, _, _], _ => rfl) hf (fun C _ _ _ _ _ _ hr => w2 Z C hr)
theorem g3 (Z : Hd K mg) {k : Nat} {f : List AV → AH → Res AV} (hf : Lev P w K mg base k fb3 f) : DOk P w K mg base k (He.fAd K d3.at_) p3 f := by
  obtain ⟨fd, F⟩ := Z.c.def_ 3 (d := d3) rfl
  exact dok (d := d3) (nm := n3) F sc3 rfl rfl (by decide) (fun _ _ _ _ _ _ us hl => match us, hl with | [_], _ => rfl) hf (fun C _ _ _ _ _ _ hr => w3 Z C hr)
theorem g4 (Z : Hd K mg) {k : Nat} {f : List AV → AH → Res AV} (hf : Lev P w K mg base k fb4 f) : DOk P w K mg base k (He.fAd K d4.at_) p4 f := by
  obtain ⟨fd, F⟩ := Z.c.def_ 4 (d := d4) rfl
  exact dok (d := d4) (nm := n4) F sc4 rfl rfl (by decide) (fun _ _ _ _ _ _ us hl => match us, hl with | [_], _ => rfl) hf (fun C _ _ _ _ _ _ hr => w4 Z C hr)
theorem g5 (Z : Hd K mg) {k : Nat} {f : List AV → AH → Res AV} (hf : Lev P w K mg base k fb5 f) : DOk P w K mg base k (He.fAd K d5.at_) p5 f := by
  obtain ⟨fd, F⟩ := Z.c.def_ 5 (d := d5) rfl
  exact dok (d := d5) (nm := n5) F sc5 rfl rfl (by decide) (fun _ _ _ _ _ _ us hl => match us, hl with | [_, _], _ => rfl) hf (fun C _ _ _ _ _ _ hr => w5 Z C hr)
theorem g6 (Z : Hd K mg) {k : Nat} {f : List AV → AH → Res AV} (hf : Lev P w K mg base k fb6 f) : DOk P w K mg base k (He.fAd K d6.at_) p6 f := by
  obtain ⟨fd, F⟩ := Z.c.def_ 6 (d := d6) rfl
  exact dok (d := d6) (nm := n6) F sc6 rfl rfl (by decide) (fun _ _ _ _ _ _ us hl => match us, hl with | [_], _ => rfl) hf (fun C _ _ _ _ _ _ hr => w6 Z C hr)
theorem g7 (Z : Hd K mg) {k : Nat} {f : List AV → AH → Res AV} (hf : Lev P w K mg base k fb7 f) : DOk P w K mg base k (He.fAd K d7.at_) p7 f := by
  obtain ⟨fd, F⟩ := Z.c.def_ 7 (d := d7) rfl
  exact dok (d := d7) (nm := n7) F sc7 rfl rfl (by decide) (fun _ _ _ _ _ _ us hl => match us, hl with | [_], _ => rfl) hf (fun C _ _ _ _ _ _ hr => w7 Z C hr)
theorem g8 (Z : Hd K mg) {k : Nat} {f : List AV → AH → Res AV} (hf : Lev P w K mg base k fb8 f) : DOk P w K mg base k (He.fAd K d8.at_) p8 f := by
  obtain ⟨fd, F⟩ := Z.c.def_ 8 (d := d8) rfl
  exact dok (d := d8) (nm := n8) F sc8 rfl rfl (by decide) (fun _ _ _ _ _ _ us hl => match us, hl with | [_], _ => rfl) hf (fun C _ _ _ _ _ _ hr => w8 Z C hr)
theorem g9 (Z : Hd K mg) {k : Nat} {f : List AV → AH → Res AV} (hf : Lev P w K mg base k fb9 f) : DOk P w K mg base k (He.fAd K d9.at_) p9 f := by
  obtain ⟨fd, F⟩ := Z.c.def_ 9 (d := d9) rfl
  exact dok (d := d9) (nm := n9) F sc9 rfl rfl (by decide) (fun _ _ _ _ _ _ us hl => match us, hl with | [_], _ => rfl) hf (fun C _ _ _ _ _ _ hr => w9 Z C hr)
theorem g10 (Z : Hd K mg) {k : Nat} {f : List AV → AH → Res AV} (hf : Lev P w K mg base k fb10 f) : DOk P w K mg base k (He.fAd K d10.at_) p10 f := by
  obtain ⟨fd, F⟩ := Z.c.def_ 10 (d := d10) rfl
  exact dok (d := d10) (nm := n10) F sc10 rfl rfl (by decide) (fun _ _ _ _ _ _ us hl => match us, hl with | [_, _, _], _ => rfl) hf (fun C _ _ _ _ _ _ hr => w10 Z C hr)
theorem g11 (Z : Hd K mg) {k : Nat} {f : List AV → AH → Res AV} (hf : Lev P w K mg base k fb11 f) : DOk P w K mg base k (He.fAd K d11.at_) p11 f := by
  obtain ⟨fd, F⟩ := Z.c.def_ 11 (d := d11) rfl
  exact dok (d := d11) (nm := n11) F sc11 rfl rfl (by decide) (fun _ _ _ _ _ _ us hl => match us, hl with | [_], _ => rfl) hf (fun C _ _ _ _ _ _ hr => w11 Z C hr)
theorem g12 (Z : Hd K mg) {k : Nat} {f : List AV → AH → Res AV} (hf : Lev P w K mg base k fb12 f) : DOk P w K mg base k (He.fAd K d12.at_) p12 f := by
  obtain ⟨fd, F⟩ := Z.c.def_ 12 (d := d12) rfl
  exact dok (d := d12) (nm := n12) F sc12 rfl rfl (by decide) (fun _ _ _ _ _ _ us hl => match us, hl with | [_], _ => rfl) hf (fun C _ _ _ _ _ _ hr => w12 Z C hr)
theorem g13 (Z : Hd K mg) {k : Nat} {f : List AV → AH → Res AV} (hf : Lev P w K mg base k fb13 f) : DOk P w K mg base k (He.fAd K d13.at_) p13 f := by
  obtain ⟨fd, F⟩ := Z.c.def_ 13 (d := d13) rfl
  exact dok (d := d13) (nm := n13) F sc13 rfl rfl (by decide) (fun _ _ _ _ _ _ us hl => match us, hl with | [_], _ => rfl) hf (fun C _ _ _ _ _ _ hr => w13 Z C hr)
theorem g14 (Z : Hd K mg) {k : Nat} {f : List AV → AH → Res AV} (hf : Lev P w K mg base k fb14 f) : DOk P w K mg base k (He.fAd K d14.at_) p14 f := by
  obtain ⟨fd, F⟩ := Z.c.def_ 14 (d := d14) rfl
  exact dok (d := d14) (nm := n14) F sc14 rfl rfl (by decide) (fun _ _ _ _ _ _ us hl => match us, hl with | [_], _ => rfl) hf (fun C _ _ _ _ _ _ hr => w14 Z C hr)
theorem g15 (Z : Hd K mg) {k : Nat} {f : List AV → AH → Res AV} (hf : Lev P w K mg base k fb15 f) : DOk P w K mg base k (He.fAd K d15.at_) p15 f := by
  obtain ⟨fd, F⟩ := Z.c.def_ 15 (d := d15) rfl
  exact dok (d := d15) (nm := n15) F sc15 rfl rfl (by decide) (fun _ _ _ _ _ _ us hl => match us, hl with | [_], _ => rfl) hf (fun C _ _ _ _ _ _ hr => w15 Z C hr)
theorem g16 (Z : Hd K mg) {k : Nat} {f : List AV → AH → Res AV} (hf : Lev P w K mg base k fb16 f) : DOk P w K mg base k (He.fAd K d16.at_) p16 f := by
  obtain ⟨fd, F⟩ := Z.c.def_ 16 (d := d16) rfl
  exact dok (d := d16) (nm := n16) F sc16 rfl rfl (by decide) (fun _ _ _ _ _ _ us hl => match us, hl with | [_], _ => rfl) hf (fun C _ _ _ _ _ _ hr => w16 Z C hr)
theorem g17 (Z : Hd K mg) {k : Nat} {f : List AV → AH → Res AV} (hf : Lev P w K mg base k fb17 f) : DOk P w K mg base k (He.fAd K d17.at_) p17 f := by
  obtain ⟨fd, F⟩ := Z.c.def_ 17 (d := d17) rfl
  exact dok (d := d17) (nm := n17) F sc17 rfl rfl (by decide) (fun _ _ _ _ _ _ us hl => match us, hl with | [_, _], _ => rfl) hf (fun C _ _ _ _ _ _ hr => w17 Z C hr)
theorem g18 (Z : Hd K mg) {k : Nat} {f : List AV → AH → Res AV} (hf : Lev P w K mg base k fb18 f) : DOk P w K mg base k (He.fAd K d18.at_) p18 f := by
  obtain ⟨fd, F⟩ := Z.c.def_ 18 (d := d18) rfl
  exact dok (d := d18) (nm := n18) F sc18 rfl rfl (by decide) (fun _ _ _ _ _ _ us hl => match us, hl with | [_, _], _ => rfl) hf (fun C _ _ _ _ _ _ hr => w18 Z C hr)
theorem g19 (Z : Hd K mg) {k : Nat} {f : List AV → AH → Res AV} (hf : Lev P w K mg base k fb19 f) : DOk P w K mg base k (He.fAd K d19.at_) p19 f := by
  obtain ⟨fd, F⟩ := Z.c.def_ 19 (d := d19) rfl
  exact dok (d := d19) (nm := n19) F sc19 rfl rfl (by decide) (fun _ _ _ _ _ _ us hl => match us, hl with | [_, _], _ => rfl) hf (fun C _ _ _ _ _ _ hr => w19 Z C hr)
theorem g20 (Z : Hd K mg) {k : Nat} {f : List AV → AH → Res AV} (hf : Lev P w K mg base k fb20 f) : DOk P w K mg base k (He.fAd K d20.at_) p20 f := by
  obtain ⟨fd, F⟩ := Z.c.def_ 20 (d := d20) rfl
  exact dok (d := d20) (nm := n20) F sc20 rfl rfl (by decide) (fun _ _ _ _ _ _ us hl => match us, hl with | [_, _], _ => rfl) hf (fun C _ _ _ _ _ _ hr => w20 Z C hr)
theorem g21 (Z : Hd K mg) {k : Nat} {f : List AV → AH → Res AV} (hf : Lev P w K mg base k fb21 f) : DOk P w K mg base k (He.fAd K d21.at_) p21 f := by
  obtain ⟨fd, F⟩ := Z.c.def_ 21 (d := d21) rfl
  exact dok (d := d21) (nm := n21) F sc21 rfl rfl (by decide) (fun _ _ _ _ _ _ us hl => match us, hl with | [_, _, _], _ => rfl) hf (fun C _ _ _ _ _ _ hr => w21 Z C hr)
theorem g22 (Z : Hd K mg) {k : Nat} {f : List AV → AH → Res AV} (hf : Lev P w K mg base k fb22 f) : DOk P w K mg base k (He.fAd K d22.at_) p22 f := by
  obtain ⟨fd, F⟩ := Z.c.def_ 22 (d := d22) rfl
  exact dok (d := d22) (nm := n22) F sc22 rfl rfl (by decide) (fun _ _ _ _ _ _ us hl => match us, hl with | [_, _], _ => rfl) hf (fun C _ _ _ _ _ _ hr => w22 Z C hr)
theorem g23 (Z : Hd K mg) {k : Nat} {f : List AV → AH → Res AV} (hf : Lev P w K mg base k fb23 f) : DOk P w K mg base k (He.fAd K d23.at_) p23 f := by
  obtain ⟨fd, F⟩ := Z.c.def_ 23 (d := d23) rfl
  exact dok (d := d23) (nm := n23) F sc23 rfl rfl (by decide) (fun _ _ _ _ _ _ us hl => match us, hl with | [_, _], _ => rfl) hf (fun C _ _ _ _ _ _ hr => w23 Z C hr)
theorem g24 (Z : Hd K mg) {k : Nat} {f : List AV → AH → Res AV} (hf : Lev P w K mg base k fb24 f) : DOk P w K mg base k (He.fAd K d24.at_) p24 f := by
  obtain ⟨fd, F⟩ := Z.c.def_ 24 (d := d24) rfl
  exact dok (d := d24) (nm := n24) F sc24 rfl rfl (by decide) (fun _ _ _ _ _ _ us hl => match us, hl with | [_], _ => rfl) hf (fun C _ _ _ _ _ _ hr => w24 Z C hr)
theorem g25 (Z : Hd K mg) {k : Nat} {f : List AV → AH → Res AV} (hf : Lev P w K mg base k fb25 f) : DOk P w K mg base k (He.fAd K d25.at_) p25 f := by
  obtain ⟨fd, F⟩ := Z.c.def_ 25 (d := d25) rfl
  exact dok (d := d25) (nm := n25) F sc25 rfl rfl (by decide) (fun _ _ _ _ _ _ us hl => match us, hl with | [_], _ => rfl) hf (fun C _ _ _ _ _ _ hr => w25 Z C hr)
theorem g26 (Z : Hd K mg) {k : Nat} {f : List AV → AH → Res AV} (hf : Lev P w K mg base k fb26 f) : DOk P w K mg base k (He.fAd K d26.at_) p26 f := by
  obtain ⟨fd, F⟩ := Z.c.def_ 26 (d := d26) rfl
  exact dok (d := d26) (nm := n26) F sc26 rfl rfl (by decide) (fun _ _ _ _ _ _ us hl => match us, hl with | [_], _ => rfl) hf (fun C _ _ _ _ _ _ hr => w26 Z C hr)
theorem g27 (Z : Hd K mg) {k : Nat} {f : List AV → AH → Res AV} (hf : Lev P w K mg base k fb27 f) : DOk P w K mg base k (He.fAd K d27.at_) p27 f := by
  obtain ⟨fd, F⟩ := Z.c.def_ 27 (d := d27) rfl
  exact dok (d := d27) (nm := n27) F sc27 rfl rfl (by decide) (fun _ _ _ _ _ _ us hl => match us, hl with | [_], _ => rfl) hf (fun C _ _ _ _ _ _ hr => w27 Z C hr)
theorem g28 (Z : Hd K mg) {k : Nat} {f : List AV → AH → Res AV} (hf : Lev P w K mg base k fb28 f) : DOk P w K mg base k (He.fAd K d28.at_) p28 f := by
  obtain ⟨fd, F⟩ := Z.c.def_ 28 (d := d28) rfl
  exact dok (d := d28) (nm := n28) F sc28 rfl rfl (by decide) (fun _ _ _ _ _ _ us hl => match us, hl with | [_], _ => rfl) hf (fun C _ _ _ _ _ _ hr => w28 Z C hr)
theorem g29 (Z : Hd K mg) {k : Nat} {f : List AV → AH → Res AV} (hf : Lev P w K mg base k fb29 f) : DOk P w K mg base k (He.fAd K d29.at_) p29 f := by
  obtain ⟨fd, F⟩ := Z.c.def_ 29 (d := d29) rfl
  exact dok (d := d29) (nm := n29) F sc29 rfl rfl (by decide) (fun _ _ _ _ _ _ us hl => match us, hl with | [_], _ => rfl) hf (fun C _ _ _ _ _ _ hr => w29 Z C hr)
theorem g30 (Z : Hd K mg) {k : Nat} {f : List AV → AH → Res AV} (hf : Lev P w K mg base k fb30 f) : DOk P w K mg base k (He.fAd K d30.at_) p30 f := by
  obtain ⟨fd, F⟩ := Z.c.def_ 30 (d := d30) rfl
  exact dok (d := d30) (nm := n30) F sc30 rfl rfl (by decide) (fun _ _ _ _ _ _ us hl => match us, hl with | [_], _ => rfl) hf (fun C _ _ _ _ _ _ hr => w30 Z C hr)
theorem g31 (Z : Hd K mg) {k : Nat} {f : List AV → AH → Res AV} (hf : Lev P w K mg base k fb31 f) : DOk P w K mg base k (He.fAd K d31.at_) p31 f := by
  obtain ⟨fd, F⟩ := Z.c.def_ 31 (d := d31) rfl
  exact dok (d := d31) (nm := n31) F sc31 rfl rfl (by decide) (fun _ _ _ _ _ _ us hl => match us, hl with | [_], _ => rfl) hf (fun C _ _ _ _ _ _ hr => w31 Z C hr)
theorem g32 (Z : Hd K mg) {k : Nat} {f : List AV → AH → Res AV} (hf : Lev P w K mg base k fb32 f) : DOk P w K mg base k (He.fAd K d32.at_) p32 f := by
  obtain ⟨fd, F⟩ := Z.c.def_ 32 (d := d32) rfl
  exact dok (d := d32) (nm := n32) F sc32 rfl rfl (by decide) (fun _ _ _ _ _ _ us hl => match us, hl with | [_], _ => rfl) hf (fun C _ _ _ _ _ _ hr => w32 Z C hr)
theorem g33 (Z : Hd K mg) {k : Nat} {f : List AV → AH → Res AV} (hf : Lev P w K mg base k fb33 f) : DOk P w K mg base k (He.fAd K d33.at_) p33 f := by
  obtain ⟨fd, F⟩ := Z.c.def_ 33 (d := d33) rfl
  exact dok (d := d33) (nm := n33) F sc33 rfl rfl (by decide) (fun _ _ _ _ _ _ us hl => match us, hl with | [_], _ => rfl) hf (fun C _ _ _ _ _ _ hr => w33 Z C hr)
theorem g34 (Z : Hd K mg) {k : Nat} {f : List AV → AH → Res AV} (hf : Lev P w K mg base k fb34 f) : DOk P w K mg base k (He.fAd K d34.at_) p34 f := by
  obtain ⟨fd, F⟩ := Z.c.def_ 34 (d := d34) rfl
  exact dok (d := d34) (nm := n34) F sc34 rfl rfl (by decide) (fun _ _ _ _ _ _ us hl => match us, hl with | [_, _], _ => rfl) hf (fun C _ _ _ _ _ _ hr => w34 Z C hr)
theorem g35 (Z : Hd K mg) {k : Nat} {f : List AV → AH → Res AV} (hf : Lev P w K mg base k fb35 f) : DOk P w K mg base k (He.fAd K d35.at_) p35 f := by
  obtain ⟨fd, F⟩ := Z.c.def_ 35 (d := d35) rfl
  exact dok (d := d35) (nm := n35) F sc35 rfl rfl (by decide) (fun _ _ _ _ _ _ us hl => match us, hl with | [_, _], _ => rfl) hf (fun C _ _ _ _ _ _ hr => w35 Z C hr)
theorem g36 (Z : Hd K mg) {k : Nat} {f : List AV → AH → Res AV} (hf : Lev P w K mg base k fb36 f) : DOk P w K mg base k (He.fAd K d36.at_) p36 f := by
  obtain ⟨fd, F⟩ := Z.c.def_ 36 (d := d36) rfl
  exact dok (d := d36) (nm := n36) F sc36 rfl rfl (by decide) (fun _ _ _ _ _ _ us hl => match us, hl with | [_], _ => rfl) hf (fun C _ _ _ _ _ _ hr => w36 Z C hr)
theorem g37 (Z : Hd K mg) {k : Nat} {f : List AV → AH → Res AV} (hf : Lev P w K mg base k fb37 f) : DOk P w K mg base k (He.fAd K d37.at_) p37 f := by
  obtain ⟨fd, F⟩ := Z.c.def_ 37 (d := d37) rfl
  exact dok (d := d37) (nm := n37) F sc37 rfl rfl (by decide) (fun _ _ _ _ _ _ us hl => match us, hl with | [_, _], _ => rfl) hf (fun C _ _ _ _ _ _ hr => w37 Z C hr)
theorem g38 (Z : Hd K mg) {k : Nat} {f : List AV → AH → Res AV} (hf : Lev P w K mg base k fb38 f) : DOk P w K mg base k (He.fAd K d38.at_) p38 f := by
  obtain ⟨fd, F⟩ := Z.c.def_ 38 (d := d38) rfl
  exact dok (d := d38) (nm := n38) F sc38 rfl rfl (by decide) (fun _ _ _ _ _ _ us hl => match us, hl with | [_], _ => rfl) hf (fun C _ _ _ _ _ _ hr => w38 Z C hr)
theorem g39 (Z : Hd K mg) {k : Nat} {f : List AV → AH → Res AV} (hf : Lev P w K mg base k fb39 f) : DOk P w K mg base k (He.fAd K d39.at_) p39 f := by
  obtain ⟨fd, F⟩ := Z.c.def_ 39 (d := d39) rfl
  exact dok (d := d39) (nm := n39) F sc39 rfl rfl (by decide) (fun _ _ _ _ _ _ us hl => match us, hl with | [_, _, _], _ => rfl) hf (fun C _ _ _ _ _ _ hr => w39 Z C hr)
theorem g40 (Z : Hd K mg) {k : Nat} {f : List AV → AH → Res AV} (hf : Lev P w K mg base k fb40 f) : DOk P w K mg base k (He.fAd K d40.at_) p40 f := by
  obtain ⟨fd, F⟩ := Z.c.def_ 40 (d := d40) rfl
  exact dok (d := d40) (nm := n40) F sc40 rfl rfl (by decide) (fun _ _ _ _ _ _ us hl => match us, hl with | [_], _ => rfl) hf (fun C _ _ _ _ _ _ hr => w40 Z C hr)
theorem g41 (Z : Hd K mg) {k : Nat} {f : List AV → AH → Res AV} (hf : Lev P w K mg base k fb41 f) : DOk P w K mg base k (He.fAd K d41.at_) p41 f := by
  obtain ⟨fd, F⟩ := Z.c.def_ 41 (d := d41) rfl
  exact dok (d := d41) (nm := n41) F sc41 rfl rfl (by decide) (fun _ _ _ _ _ _ us hl => match us, hl with | [_, _], _ => rfl) hf (fun C _ _ _ _ _ _ hr => w41 Z C hr)
theorem g42 (Z : Hd K mg) {k : Nat} {f : List AV → AH → Res AV} (hf : Lev P w K mg base k fb42 f) : DOk P w K mg base k (He.fAd K d42.at_) p42 f := by
  obtain ⟨fd, F⟩ := Z.c.def_ 42 (d := d42) rfl
  exact dok (d := d42) (nm := n42) F sc42 rfl rfl (by decide) (fun _ _ _ _ _ _ us hl => match us, hl with | [_, _], _ => rfl) hf (fun C _ _ _ _ _ _ hr => w42 Z C hr)
theorem g43 (Z : Hd K mg) {k : Nat} {f : List AV → AH → Res AV} (hf : Lev P w K mg base k fb43 f) : DOk P w K mg base k (He.fAd K d43.at_) p43 f := by
  obtain ⟨fd, F⟩ := Z.c.def_ 43 (d := d43) rfl
  exact dok (d := d43) (nm := n43) F sc43 rfl rfl (by decide) (fun _ _ _ _ _ _ us hl => match us, hl with | [_, _], _ => rfl) hf (fun C _ _ _ _ _ _ hr => w43 Z C hr)
theorem g44 (Z : Hd K mg) {k : Nat} {f : List AV → AH → Res AV} (hf : Lev P w K mg base k fb44 f) : DOk P w K mg base k (He.fAd K d44.at_) p44 f := by
  obtain ⟨fd, F⟩ := Z.c.def_ 44 (d := d44) rfl
  exact dok (d := d44) (nm := n44) F sc44 rfl rfl (by decide) (fun _ _ _ _ _ _ us hl => match us, hl with | [_], _ => rfl) hf (fun C _ _ _ _ _ _ hr => w44 Z C hr)
theorem g45 (Z : Hd K mg) {k : Nat} {f : List AV → AH → Res AV} (hf : Lev P w K mg base k fb45 f) : DOk P w K mg base k (He.fAd K d45.at_) p45 f := by
  obtain ⟨fd, F⟩ := Z.c.def_ 45 (d := d45) rfl
  exact dok (d := d45) (nm := n45) F sc45 rfl rfl (by decide) (fun _ _ _ _ _ _ us hl => match us, hl with | [_, _], _ => rfl) hf (fun C _ _ _ _ _ _ hr => w45 Z C hr)
theorem g46 (Z : Hd K mg) {k : Nat} {f : List AV → AH → Res AV} (hf : Lev P w K mg base k fb46 f) : DOk P w K mg base k (He.fAd K d46.at_) p46 f := by
  obtain ⟨fd, F⟩ := Z.c.def_ 46 (d := d46) rfl
  exact dok (d := d46) (nm := n46) F sc46 rfl rfl (by decide) (fun _ _ _ _ _ _ us hl => match us, hl with | [_, _], _ => rfl) hf (fun C _ _ _ _ _ _ hr => w46 Z C hr)
theorem g47 (Z : Hd K mg) {k : Nat} {f : List AV → AH → Res AV} (hf : Lev P w K mg base k fb47 f) : DOk P w K mg base k (He.fAd K d47.at_) p47 f := by
  obtain ⟨fd, F⟩ := Z.c.def_ 47 (d := d47) rfl
  exact dok (d := d47) (nm := n47) F sc47 rfl rfl (by decide) (fun _ _ _ _ _ _ us hl => match us, hl with | [_, _], _ => rfl) hf (fun C _ _ _ _ _ _ hr => w47 Z C hr)
theorem g48 (Z : Hd K mg) {k : Nat} {f : List AV → AH → Res AV} (hf : Lev P w K mg base k fb48 f) : DOk P w K mg base k (He.fAd K d48.at_) p48 f := by
  obtain ⟨fd, F⟩ := Z.c.def_ 48 (d := d48) rfl
  exact dok (d := d48) (nm := n48) F sc48 rfl rfl (by decide) (fun _ _ _ _ _ _ us hl => match us, hl with | [_, _], _ => rfl) hf (fun C _ _ _ _ _ _ hr => w48 Z C hr)
theorem g49 (Z : Hd K mg) {k : Nat} {f : List AV → AH → Res AV} (hf : Lev P w K mg base k fb49 f) : DOk P w K mg base k (He.fAd K d49.at_) p49 f := by
  obtain ⟨fd, F⟩ := Z.c.def_ 49 (d := d49) rfl
  exact dok (d := d49) (nm := n49) F sc49 rfl rfl (by decide) (fun _ _ _ _ _ _ us hl => match us, hl with | [_, _], _ => rfl) hf (fun C _ _ _ _ _ _ hr => w49 Z C hr)
theorem g50 (Z : Hd K mg) {k : Nat} {f : List AV → AH → Res AV} (hf : Lev P w K mg base k fb50 f) : DOk P w K mg base k (He.fAd K d50.at_) p50 f := by
  obtain ⟨fd, F⟩ := Z.c.def_ 50 (d := d50) rfl
  exact dok (d := d50) (nm := n50) F sc50 rfl rfl (by decide) (fun _ _ _ _ _ _ us hl => match us, hl with | [_], _ => rfl) hf (fun C _ _ _ _ _ _ hr => w50 Z C hr)
theorem g51 (Z : Hd K mg) {k : Nat} {f : List AV → AH → Res AV} (hf : Lev P w K mg base k fb51 f) : DOk P w K mg base k (He.fAd K d51.at_) p51 f := by
  obtain ⟨fd, F⟩ := Z.c.def_ 51 (d := d51) rfl
  exact dok (d := d51) (nm := n51) F sc51 rfl rfl (by decide) (fun _ _ _ _ _ _ us hl => match us, hl with | [_, _], _ => rfl) hf (fun C _ _ _ _ _ _ hr => w51 Z C hr)
theorem g52 (Z : Hd K mg) {k : Nat} {f : List AV → AH → Res AV} (hf : Lev P w K mg base k fb52 f) : DOk P w K mg base k (He.fAd K d52.at_) p52 f := by
  obtain ⟨fd, F⟩ := Z.c.def_ 52 (d := d52) rfl
  exact dok (d := d52) (nm := n52) F sc52 rfl rfl (by decide) (fun _ _ _ _ _ _ us hl => match us, hl with | [_, _, _, _], _ => rfl) hf (fun C _ _ _ _ _ _ hr => w52 Z C hr)
theorem g53 (Z : Hd K mg) {k : Nat} {f : List AV → AH → Res AV} (hf : Lev P w K mg base k fb53 f) : DOk P w K mg base k (He.fAd K d53.at_) p53 f := by
  obtain ⟨fd, F⟩ := Z.c.def_ 53 (d := d53) rfl
  exact dok (d := d53) (nm := n53) F sc53 rfl rfl (by decide) (fun _ _ _ _ _ _ us hl => match us, hl with | [_, _, _, _], _ => rfl) hf (fun C _ _ _ _ _ _ hr => w53 Z C hr)
theorem g54 (Z : Hd K mg) {k : Nat} {f : List AV → AH → Res AV} (hf : Lev P w K mg base k fb54 f) : DOk P w K mg base k (He.fAd K d54.at_) p54 f := by
  obtain ⟨fd, F⟩ := Z.c.def_ 54 (d := d54) rfl
  exact dok (d := d54) (nm := n54) F sc54 rfl rfl (by decide) (fun _ _ _ _ _ _ us hl => match us, hl with | [_, _, _, _], _ => rfl) hf (fun C _ _ _ _ _ _ hr => w54 Z C hr)
theorem g55 (Z : Hd K mg) {k : Nat} {f : List AV → AH → Res AV} (hf : Lev P w K mg base k fb55 f) : DOk P w K mg base k (He.fAd K d55.at_) p55 f := by
  obtain ⟨fd, F⟩ := Z.c.def_ 55 (d := d55) rfl
  exact dok (d := d55) (nm := n55) F sc55 rfl rfl (by decide) (fun _ _ _ _ _ _ us hl => match us, hl with | [_, _, _, _], _ => rfl) hf (fun C _ _ _ _ _ _ hr => w55 Z C hr)
theorem g56 (Z : Hd K mg) {k : Nat} {f : List AV → AH → Res AV} (hf : Lev P w K mg base k fb56 f) : DOk P w K mg base k (He.fAd K d56.at_) p56 f := by
  obtain ⟨fd, F⟩ := Z.c.def_ 56 (d := d56) rfl
  exact dok (d := d56) (nm := n56) F sc56 rfl rfl (by decide) (fun _ _ _ _ _ _ us hl => match us, hl with | [_, _, _], _ => rfl) hf (fun C _ _ _ _ _ _ hr => w56 Z C hr)
theorem g57 (Z : Hd K mg) {k : Nat} {f : List AV → AH → Res AV} (hf : Lev P w K mg base k fb57 f) : DOk P w K mg base k (He.fAd K d57.at_) p57 f := by
  obtain ⟨fd, F⟩ := Z.c.def_ 57 (d := d57) rfl
  exact dok (d := d57) (nm := n57) F sc57 rfl rfl (by decide) (fun _ _ _ _ _ _ us hl => match us, hl with | [_], _ => rfl) hf (fun C _ _ _ _ _ _ hr => w57 Z C hr)
theorem g58 (Z : Hd K mg) {k : Nat} {f : List AV → AH → Res AV} (hf : Lev P w K mg base k fb58 f) : DOk P w K mg base k (He.fAd K d58.at_) p58 f := by
  obtain ⟨fd, F⟩ := Z.c.def_ 58 (d := d58) rfl
  exact dok (d := d58) (nm := n58) F sc58 rfl rfl (by decide) (fun _ _ _ _ _ _ us hl => match us, hl with | [_, _], _ => rfl) hf (fun C _ _ _ _ _ _ hr => w58 Z C hr)
theorem g59 (Z : Hd K mg) {k : Nat} {f : List AV → AH → Res AV} (hf : Lev P w K mg base k fb59 f) : DOk P w K mg base k (He.fAd K d59.at_) p59 f := by
  obtain ⟨fd, F⟩ := Z.c.def_ 59 (d := d59) rfl
  exact dok (d := d59) (nm := n59) F sc59 rfl rfl (by decide) (fun _ _ _ _ _ _ us hl => match us, hl with | [_, _], _ => rfl) hf (fun C _ _ _ _ _ _ hr => w59 Z C hr)
theorem g60 (Z : Hd K mg) {k : Nat} {f : List AV → AH → Res AV} (hf : Lev P w K mg base k fb60 f) : DOk P w K mg base k (He.fAd K d60.at_) p60 f := by
  obtain ⟨fd, F⟩ := Z.c.def_ 60 (d := d60) rfl
  exact dok (d := d60) (nm := n60) F sc60 rfl rfl (by decide) (fun _ _ _ _ _ _ us hl => match us, hl with | [_, _], _ => rfl) hf (fun C _ _ _ _ _ _ hr => w60 Z C hr)
theorem g61 (Z : Hd K mg) {k : Nat} {f : List AV → AH → Res AV} (hf : Lev P w K mg base k fb61 f) : DOk P w K mg base k (He.fAd K d61.at_) p61 f := by
  obtain ⟨fd, F⟩ := Z.c.def_ 61 (d := d61) rfl
  exact dok (d := d61) (nm := n61) F sc61 rfl rfl (by decide) (fun _ _ _ _ _ _ us hl => match us, hl with | [_, _, _], _ => rfl) hf (fun C _ _ _ _ _ _ hr => w61 Z C hr)
theorem g62 (Z : Hd K mg) {k : Nat} {f : List AV → AH → Res AV} (hf : Lev P w K mg base k fb62 f) : DOk P w K mg base k (He.fAd K d62.at_) p62 f := by
  obtain ⟨fd, F⟩ := Z.c.def_ 62 (d := d62) rfl
  exact dok (d := d62) (nm := n62) F sc62 rfl rfl (by decide) (fun _ _ _ _ _ _ us hl => match us, hl with | [_], _ => rfl) hf (fun C _ _ _ _ _ _ hr => w62 Z C hr)
theorem calls_of (Z : Hd K mg) {T : Tab} {k : Nat} (hT : ∀ n fb, defsL[n]? = some fb → Lev P w K mg base k fb (T.call n)) (hm : T.meth = methT) (hi : T.init = initT) (hp : ∀ n, PureOk T n (T.call n)) : CallsG P w K mg base T k where
  cal := fun n x h => match n, h with
    | 0, h => by
      cases h
      obtain ⟨fd, F, kp, b⟩ := (g0 Z (hT 0 fb0 rfl)).ex
      exact ⟨_, fd, p0, [], F, q_d_is_name Z, kp, b, .nil⟩
    | 1, h => by
      cases h
      obtain ⟨fd, F, kp, b⟩ := (g1 Z (hT 1 fb1 rfl)).ex
      exact ⟨_, fd, p1, [], F, q_d_is_term Z, kp, b, .nil⟩
    | 2, h => by
      cases h
      obtain ⟨fd, F, kp, b⟩ := (g2 Z (hT 2 fb2 rfl)).ex
      exact ⟨_, fd, p2, [], F, q_d_is_sized Z, kp, b, .nil⟩
    | 3, h => by
      cases h
      obtain ⟨fd, F, kp, b⟩ := (g3 Z (hT 3 fb3 rfl)).ex
      exact ⟨_, fd, p3, [], F, q_d_are_rising Z, kp, b, .nil⟩
    | 4, h => by
      cases h
      obtain ⟨fd, F, kp, b⟩ := (g4 Z (hT 4 fb4 rfl)).ex
      exact ⟨_, fd, p4, [], F, q_d_is_pair_of_terms Z, kp, b, .nil⟩
    | 5, h => by
      cases h
      obtain ⟨fd, F, kp, b⟩ := (g5 Z (hT 5 fb5 rfl)).ex
      exact ⟨_, fd, p5, [], F, q_d_are_names Z, kp, b, .nil⟩
    | 6, h => by
      cases h
      obtain ⟨fd, F, kp, b⟩ := (g6 Z (hT 6 fb6 rfl)).ex
      exact ⟨_, fd, p6, [], F, q_d_without_doubles Z, kp, b, .nil⟩
    | 7, h => by
      cases h
      obtain ⟨fd, F, kp, b⟩ := (g7 Z (hT 7 fb7 rfl)).ex
      exact ⟨_, fd, p7, [], F, q_d_is_atom Z, kp, b, .nil⟩
    | 8, h => by
      cases h
      obtain ⟨fd, F, kp, b⟩ := (g8 Z (hT 8 fb8 rfl)).ex
      exact ⟨_, fd, p8, [], F, q_d_are_facts Z, kp, b, .nil⟩
    | 9, h => by
      cases h
      obtain ⟨fd, F, kp, b⟩ := (g9 Z (hT 9 fb9 rfl)).ex
      exact ⟨_, fd, p9, [], F, q_d_are_atoms Z, kp, b, .nil⟩
    | 10, h => by
      cases h
      obtain ⟨fd, F, kp, b⟩ := (g10 Z (hT 10 fb10 rfl)).ex
      exact ⟨_, fd, p10, [], F, q_d_terms_told Z, kp, b, .nil⟩
    | 11, h => by
      cases h
      obtain ⟨fd, F, kp, b⟩ := (g11 Z (hT 11 fb11 rfl)).ex
      exact ⟨_, fd, p11, [], F, q_d_raw_names Z, kp, b, .nil⟩
    | 12, h => by
      cases h
      obtain ⟨fd, F, kp, b⟩ := (g12 Z (hT 12 fb12 rfl)).ex
      exact ⟨_, fd, p12, [], F, q_d_is_claim Z, kp, b, .nil⟩
    | 13, h => by
      cases h
      obtain ⟨fd, F, kp, b⟩ := (g13 Z (hT 13 fb13 rfl)).ex
      exact ⟨_, fd, p13, [], F, q_d_check_claim Z, kp, b, .nil⟩
    | 14, h => by
      cases h
      obtain ⟨fd, F, kp, b⟩ := (g14 Z (hT 14 fb14 rfl)).ex
      exact ⟨_, fd, p14, [], F, q_d_check_names Z, kp, b, .nil⟩
    | 15, h => by
      cases h
      obtain ⟨fd, F, kp, b⟩ := (g15 Z (hT 15 fb15 rfl)).ex
      exact ⟨_, fd, p15, [], F, q_d_raw_partings Z, kp, b, .nil⟩
    | 16, h => by
      cases h
      obtain ⟨fd, F, kp, b⟩ := (g16 Z (hT 16 fb16 rfl)).ex
      exact ⟨_, fd, p16, [], F, q_d_raw_classes_many Z, kp, b, .nil⟩
    | 17, h => by
      cases h
      obtain ⟨fd, F, kp, b⟩ := (g17 Z (hT 17 fb17 rfl)).ex
      exact ⟨_, fd, p17, [], F, q_d_class_table Z, kp, b, .nil⟩
    | 18, h => by
      cases h
      obtain ⟨fd, F, kp, b⟩ := (g18 Z (hT 18 fb18 rfl)).ex
      exact ⟨_, fd, p18, [], F, q_d_keeps_by Z, kp, b, .nil⟩
    | 19, h => by
      cases h
      obtain ⟨fd, F, kp, b⟩ := (g19 Z (hT 19 fb19 rfl)).ex
      exact ⟨_, fd, p19, [], F, q_d_live_by Z, kp, b, .nil⟩
    | 20, h => by
      cases h
      obtain ⟨fd, F, kp, b⟩ := (g20 Z (hT 20 fb20 rfl)).ex
      exact ⟨_, fd, p20, [], F, q_d_dead_by Z, kp, b, .nil⟩
    | 21, h => by
      cases h
      obtain ⟨fd, F, kp, b⟩ := (g21 Z (hT 21 fb21 rfl)).ex
      exact ⟨_, fd, p21, [], F, q_d_heap_by Z, kp, b, .nil⟩
    | 22, h => by
      cases h
      obtain ⟨fd, F, kp, b⟩ := (g22 Z (hT 22 fb22 rfl)).ex
      exact ⟨_, fd, p22, [], F, q_d_edges_by Z, kp, b, .nil⟩
    | 23, h => by
      cases h
      obtain ⟨fd, F, kp, b⟩ := (g23 Z (hT 23 fb23 rfl)).ex
      exact ⟨_, fd, p23, [], F, q_d_live_partings Z, kp, b, .nil⟩
    | 24, h => by
      cases h
      obtain ⟨fd, F, kp, b⟩ := (g24 Z (hT 24 fb24 rfl)).ex
      exact ⟨_, fd, p24, [], F, q_d_is_test Z, kp, b, .nil⟩
    | 25, h => by
      cases h
      obtain ⟨fd, F, kp, b⟩ := (g25 Z (hT 25 fb25 rfl)).ex
      exact ⟨_, fd, p25, [], F, q_d_is_plain_deed Z, kp, b, .nil⟩
    | 26, h => by
      cases h
      obtain ⟨fd, F, kp, b⟩ := (g26 Z (hT 26 fb26 rfl)).ex
      exact ⟨_, fd, p26, [], F, q_d_has_deed_form Z, kp, b, .nil⟩
    | 27, h => by
      cases h
      obtain ⟨fd, F, kp, b⟩ := (g27 Z (hT 27 fb27 rfl)).ex
      exact ⟨_, fd, p27, [], F, q_d_lists_within Z, kp, b, .nil⟩
    | 28, h => by
      cases h
      obtain ⟨fd, F, kp, b⟩ := (g28 Z (hT 28 fb28 rfl)).ex
      exact ⟨_, fd, p28, [], F, q_d_has_shape Z, kp, b, .nil⟩
    | 29, h => by
      cases h
      obtain ⟨fd, F, kp, b⟩ := (g29 Z (hT 29 fb29 rfl)).ex
      exact ⟨_, fd, p29, [], F, q_d_all_deeds Z, kp, b, .nil⟩
    | 30, h => by
      cases h
      obtain ⟨fd, F, kp, b⟩ := (g30 Z (hT 30 fb30 rfl)).ex
      exact ⟨_, fd, p30, [], F, q_d_terms_of Z, kp, b, .nil⟩
    | 31, h => by
      cases h
      obtain ⟨fd, F, kp, b⟩ := (g31 Z (hT 31 fb31 rfl)).ex
      exact ⟨_, fd, p31, [], F, q_d_raw_used Z, kp, b, .nil⟩
    | 32, h => by
      cases h
      obtain ⟨fd, F, kp, b⟩ := (g32 Z (hT 32 fb32 rfl)).ex
      exact ⟨_, fd, p32, [], F, q_d_is_program Z, kp, b, .nil⟩
    | 33, h => by
      cases h
      obtain ⟨fd, F, kp, b⟩ := (g33 Z (hT 33 fb33 rfl)).ex
      exact ⟨_, fd, p33, [], F, q_d_are_straight Z, kp, b, .nil⟩
    | 34, h => by
      cases h
      obtain ⟨fd, F, kp, b⟩ := (g34 Z (hT 34 fb34 rfl)).ex
      exact ⟨_, fd, p34, [], F, q_d_raw_pictures Z, kp, b, .nil⟩
    | 35, h => nomatch h
    | 36, h => nomatch h
    | 37, h => nomatch h
    | 38, h => nomatch h
    | 39, h => nomatch h
    | 40, h => nomatch h
    | 41, h => by
      cases h
      obtain ⟨fd, F, kp, b⟩ := (g41 Z (hT 41 fb41 rfl)).ex
      exact ⟨_, fd, p41, [], F, q_d_opened_tracks Z, kp, b, .nil⟩
    | 42, h => by
      cases h
      obtain ⟨fd, F, kp, b⟩ := (g42 Z (hT 42 fb42 rfl)).ex
      exact ⟨_, fd, p42, [], F, q_d_new_tracks Z, kp, b, .nil⟩
    | 43, h => by
      cases h
      obtain ⟨fd, F, kp, b⟩ := (g43 Z (hT 43 fb43 rfl)).ex
      exact ⟨_, fd, p43, [], F, q_d_done_tracks Z, kp, b, .nil⟩
    | 44, h => by
      cases h
      obtain ⟨fd, F, kp, b⟩ := (g44 Z (hT 44 fb44 rfl)).ex
      exact ⟨_, fd, p44, [], F, q_d_edges_of Z, kp, b, .nil⟩
    | 45, h => by
      cases h
      obtain ⟨fd, F, kp, b⟩ := (g45 Z (hT 45 fb45 rfl)).ex
      exact ⟨_, fd, p45, [], F, q_d_first_state Z, kp, b, .nil⟩
    | 46, h => by
      cases h
      obtain ⟨fd, F, kp, b⟩ := (g46 Z (hT 46 fb46 rfl)).ex
      exact ⟨_, fd, p46, [], F, q_d_past_ifs Z, kp, b, .nil⟩
    | 47, h => by
      cases h
      obtain ⟨fd, F, kp, b⟩ := (g47 Z (hT 47 fb47 rfl)).ex
      exact ⟨_, fd, p47, [], F, q_d_split_tracks Z, kp, b, .nil⟩
    | 48, h => by
      cases h
      obtain ⟨fd, F, kp, b⟩ := (g48 Z (hT 48 fb48 rfl)).ex
      exact ⟨_, fd, p48, [], F, q_d_needed_node Z, kp, b, .nil⟩
    | 49, h => by
      cases h
      obtain ⟨fd, F, kp, b⟩ := (g49 Z (hT 49 fb49 rfl)).ex
      exact ⟨_, fd, p49, [], F, q_d_all_ways Z, kp, b, .nil⟩
    | 50, h => by
      cases h
      obtain ⟨fd, F, kp, b⟩ := (g50 Z (hT 50 fb50 rfl)).ex
      exact ⟨_, fd, p50, [], F, q_d_begun_again Z, kp, b, .nil⟩
    | 51, h => by
      cases h
      obtain ⟨fd, F, kp, b⟩ := (g51 Z (hT 51 fb51 rfl)).ex
      exact ⟨_, fd, p51, [], F, q_d_refined_edges Z, kp, b, .nil⟩
    | 52, h => by
      cases h
      obtain ⟨fd, F, kp, b⟩ := (g52 Z (hT 52 fb52 rfl)).ex
      exact ⟨_, fd, p52, [], F, q_d_are_ends_alike Z, kp, b, .nil⟩
    | 53, h => by
      cases h
      obtain ⟨fd, F, kp, b⟩ := (g53 Z (hT 53 fb53 rfl)).ex
      exact ⟨_, fd, p53, [], F, q_d_raw_alike_deeds Z, kp, b, .nil⟩
    | 54, h => by
      cases h
      obtain ⟨fd, F, kp, b⟩ := (g54 Z (hT 54 fb54 rfl)).ex
      exact ⟨_, fd, p54, [], F, q_d_check_both Z, kp, b, .nil⟩
    | 55, h => by
      cases h
      obtain ⟨fd, F, kp, b⟩ := (g55 Z (hT 55 fb55 rfl)).ex
      exact ⟨_, fd, p55, [], F, q_d_alike_deeds Z, kp, b, .nil⟩
    | 56, h => by
      cases h
      obtain ⟨fd, F, kp, b⟩ := (g56 Z (hT 56 fb56 rfl)).ex
      exact ⟨_, fd, p56, [], F, q_d_needless_deeds Z, kp, b, .nil⟩
    | 57, h => by
      cases h
      obtain ⟨fd, F, kp, b⟩ := (g57 Z (hT 57 fb57 rfl)).ex
      exact ⟨_, fd, p57, [], F, q_d__law_hand Z, kp, b, .nil⟩
    | 58, h => by
      cases h
      obtain ⟨fd, F, kp, b⟩ := (g58 Z (hT 58 fb58 rfl)).ex
      exact ⟨_, fd, p58, [], F, q_d__law_draw Z, kp, b, .nil⟩
    | 59, h => by
      cases h
      obtain ⟨fd, F, kp, b⟩ := (g59 Z (hT 59 fb59 rfl)).ex
      exact ⟨_, fd, p59, [], F, q_d__law_any Z, kp, b, .nil⟩
    | 60, h => by
      cases h
      obtain ⟨fd, F, kp, b⟩ := (g60 Z (hT 60 fb60 rfl)).ex
      exact ⟨_, fd, p60, [], F, q_d__law_pair Z, kp, b, .nil⟩
    | 61, h => by
      cases h
      obtain ⟨fd, F, kp, b⟩ := (g61 Z (hT 61 fb61 rfl)).ex
      exact ⟨_, fd, p61, [], F, q_d__law_cases Z, kp, b, .nil⟩
    | 62, h => by
      cases h
      obtain ⟨fd, F, kp, b⟩ := (g62 Z (hT 62 fb62 rfl)).ex
      exact ⟨_, fd, p62, [], F, q_d_law Z, kp, b, .nil⟩
    | n + 63, h => nomatch (show (none : Option Str) = some x from h)
  met := fun n c m h => match n, h with
    | 0, h => nomatch h
    | 1, h => nomatch h
    | 2, h => nomatch h
    | 3, h => nomatch h
    | 4, h => nomatch h
    | 5, h => nomatch h
    | 6, h => nomatch h
    | 7, h => nomatch h
    | 8, h => nomatch h
    | 9, h => nomatch h
    | 10, h => nomatch h
    | 11, h => nomatch h
    | 12, h => nomatch h
    | 13, h => nomatch h
    | 14, h => nomatch h
    | 15, h => nomatch h
    | 16, h => nomatch h
    | 17, h => nomatch h
    | 18, h => nomatch h
    | 19, h => nomatch h
    | 20, h => nomatch h
    | 21, h => nomatch h
    | 22, h => nomatch h
    | 23, h => nomatch h
    | 24, h => nomatch h
    | 25, h => nomatch h
    | 26, h => nomatch h
    | 27, h => nomatch h
    | 28, h => nomatch h
    | 29, h => nomatch h
    | 30, h => nomatch h
    | 31, h => nomatch h
    | 32, h => nomatch h
    | 33, h => nomatch h
    | 34, h => nomatch h
    | 35, h => nomatch h
    | 36, h => by
      cases h
      obtain ⟨fd, F, kp, b⟩ := (g36 Z (hT 36 fb36 rfl)).ex
      exact ⟨_, fd, p36, [], q_k_Track Z, q_k_Track_twin Z, F, b, .nil⟩
    | 37, h => by
      cases h
      obtain ⟨fd, F, kp, b⟩ := (g37 Z (hT 37 fb37 rfl)).ex
      exact ⟨_, fd, p37, [], q_k_Track Z, q_k_Track_node_of Z, F, b, .nil⟩
    | 38, h => by
      cases h
      obtain ⟨fd, F, kp, b⟩ := (g38 Z (hT 38 fb38 rfl)).ex
      exact ⟨_, fd, p38, [], q_k_Track Z, q_k_Track_fresh_node Z, F, b, .nil⟩
    | 39, h => by
      cases h
      obtain ⟨fd, F, kp, b⟩ := (g39 Z (hT 39 fb39 rfl)).ex
      exact ⟨_, fd, p39, [], q_k_Track Z, q_k_Track_set_both Z, F, b, .nil⟩
    | 40, h => by
      cases h
      obtain ⟨fd, F, kp, b⟩ := (g40 Z (hT 40 fb40 rfl)).ex
      exact ⟨_, fd, p40, [], q_k_Track Z, q_k_Track_picture Z, F, b, .nil⟩
    | 41, h => nomatch h
    | 42, h => nomatch h
    | 43, h => nomatch h
    | 44, h => nomatch h
    | 45, h => nomatch h
    | 46, h => nomatch h
    | 47, h => nomatch h
    | 48, h => nomatch h
    | 49, h => nomatch h
    | 50, h => nomatch h
    | 51, h => nomatch h
    | 52, h => nomatch h
    | 53, h => nomatch h
    | 54, h => nomatch h
    | 55, h => nomatch h
    | 56, h => nomatch h
    | 57, h => nomatch h
    | 58, h => nomatch h
    | 59, h => nomatch h
    | 60, h => nomatch h
    | 61, h => nomatch h
    | 62, h => nomatch h
    | n + 63, h => nomatch (show (none : Option (Nat × Str)) = some (c, m) from h)
  mak := fun c hc => match c, hc with
    | 0, _ => by
      rw [hi]
      obtain ⟨fd, F, kp, b⟩ := (g35 Z (hT 35 fb35 rfl)).ex
      exact ⟨_, fd, p35, [], q_k_Track_init Z, F, q_c_Track Z, b, .nil⟩
    | c + 1, hc => absurd hc (by omega)
  pure := hp
  meth := hm
  ok := fun c hc => match c, hc with
    | 0, _ => ⟨q_k_Track Z, fun f hf => match f, hf with
      | 0, _ => q_a_Track_most Z
      | 1, _ => q_a_Track_many Z
      | 2, _ => q_a_Track_first_names Z
      | 3, _ => q_a_Track_first_edges Z
      | 4, _ => q_a_Track_now_names Z
      | 5, _ => q_a_Track_now_edges Z
      | 6, _ => q_a_Track_now_bare Z
      | 7, _ => q_a_Track_news_met Z
      | f + 8, hf => absurd hf (by show ¬ f + 8 < 8; omega)⟩
    | c + 1, hc => absurd hc (by omega)
theorem calls (Z : Hd K mg) : ∀ k, CallsG P w K mg base (tabAt prg (runP prg k)) (2 * k)
  | 0 => calls_of Z (fun n fb e => .inl fun _ _ => rfl) rfl rfl fun n vs => .inr rfl
  | k + 1 => calls_of Z (fun n fb e => .inr ⟨tabAt prg (runP prg k), 2 * k, rfl, calls Z k, by
      funext vs h
      show (match defsL[n]? with
        | some fb => runF (tabAt prg (runP prg k)) fb vs h
        | none => .bad) = _
      rw [e]⟩) rfl rfl fun n vs => .inr rfl
end
end G
end

set_option Elab.async false
set_option linter.all false
set_option maxRecDepth 100000
set_option maxHeartbeats 4000000
set_option autoImplicit false
namespace Ev
open PySem L2

abbrev Sg := Nat → Option AV
def Sg.up (σ : Sg) (i : Nat) (v : Option AV) : Sg := fun j => if j = i then v else σ j
theorem up_same {σ : Sg} {i : Nat} {v : Option AV} : σ.up i v i = v := if_pos rfl
theorem up_ne {σ : Sg} {i j : Nat} {v : Option AV} (h : j ≠ i) : σ.up i v j = σ j := if_neg h
/-- the slots are these -/
def SLR (n : Nat) (sl : SL) (σ : Sg) : Prop := ∀ i, sl.get i = if i < n then some (σ i) else none
theorem SLR.set {n : Nat} {sl : SL} {σ : Sg} (r : SLR n sl σ) (i : Nat) (v : Option AV) : SLR n (sl.set i v) (σ.up i v) := fun k => by
  rw [Tr.get_set, r k]
  by_cases e : k = i
  · rw [if_pos e, e, up_same]
    split <;> rfl
  · rw [if_neg e, up_ne e]
theorem SLR.wipe {n : Nat} {sl : SL} {σ : Sg} (r : SLR n sl σ) : ∀ own : List Nat, SLR n (wipeA sl own) (own.foldr (fun i s => s.up i none) σ)
  | [] => r
  | v :: vs => (r.wipe vs).set v none
def Sg.of (vs : List AV) : Sg := fun i => vs[i]?
theorem shape_slr : ∀ n, SLR n (shape n) (fun _ => none)
  | 0 => fun i => by
    show (Tr.lf : SL).get i = _
    rw [Tr.get_lf, if_neg (by omega)]
  | n + 1 => fun i => by
    show ((shape n).put n none).get i = _
    rw [Tr.get_put (shape n) n n none (shape_full n) (Nat.le_refl _), shape_slr n i]
    by_cases e : i = n
    · rw [if_pos e, if_pos (by omega)]
    · rw [if_neg e]
      by_cases l : i < n
      · rw [if_pos l, if_pos (by omega)]
      · rw [if_neg l, if_neg (by omega)]
theorem fill_slr {n : Nat} : ∀ (vs : List AV) (k : Nat) (sl : SL) (σ : Sg), SLR n sl σ → SLR n (fill vs k sl) (fun i => if k ≤ i ∧ i < k + vs.length then vs[i - k]? else σ i)
  | [], k, sl, σ, r => by
    have e : (fun i => if k ≤ i ∧ i < k + ([] : List AV).length then ([] : List AV)[i - k]? else σ i) = σ := by
      funext i
      rw [if_neg (by rw [List.length_nil]; omega)]
    rw [e]
    exact r
  | v :: vs, k, sl, σ, r => by
    have q := fill_slr vs (k + 1) (sl.set k (some v)) (σ.up k (some v)) (r.set k (some v))
    show SLR n (fill vs (k + 1) (sl.set k (some v))) _
    have e : (fun i => if k ≤ i ∧ i < k + (v :: vs).length then (v :: vs)[i - k]? else σ i) = fun i => if k + 1 ≤ i ∧ i < k + 1 + vs.length then vs[i - (k + 1)]? else σ.up k (some v) i := by
      funext i
      rw [List.length_cons]
      by_cases a : i = k
      · rw [if_pos (by omega), if_neg (by omega), a, up_same, Nat.sub_self]
        rfl
      · rw [up_ne a]
        by_cases b : k ≤ i ∧ i < k + (vs.length + 1)
        · rw [if_pos b, if_pos (by omega), show i - k = (i - (k + 1)) + 1 by omega]
          rfl
        · rw [if_neg b, if_neg (by omega)]
    rw [e]
    exact q
theorem start_slr (vs : List AV) (n : Nat) : SLR n (fill vs 0 (shape n)) (Sg.of vs) := by
  have q := fill_slr vs 0 (shape n) (fun _ => none) (shape_slr n)
  have e : (fun i => if 0 ≤ i ∧ i < 0 + vs.length then vs[i - 0]? else none) = Sg.of vs := by
    funext i
    show _ = vs[i]?
    by_cases l : i < vs.length
    · rw [if_pos (by omega), Nat.sub_zero]
    · rw [if_neg (by omega), List.getElem?_eq_none (by omega)]
  rw [e] at q
  exact q

def AH.ok (h : AH) : Prop := Full h.t h.n
theorem AH.nil_ok : AH.nil.ok := fun m => by
  show ((Tr.lf : Tr AO).get m).isSome = decide (m < 0)
  rw [Tr.get_lf, decide_eq_false (by omega)]
  rfl
theorem AH.lt_of {h : AH} (k : h.ok) {i : Nat} {o : AO} (e : h.get i = some o) : i < h.n := by
  have q := k i
  have e : h.t.get i = some o := e
  rw [e] at q
  exact of_decide_eq_true q.symm
theorem AH.push_ok {h : AH} (k : h.ok) (o : AO) : (h.push o).ok := Full.push k
theorem AH.get_push {h : AH} (k : h.ok) (o : AO) (i : Nat) : (h.push o).get i = if i = h.n then some o else h.get i := Tr.get_put h.t h.n h.n o k (Nat.le_refl _) i
theorem AH.push_new {h : AH} (k : h.ok) (o : AO) : (h.push o).get h.n = some o := by rw [AH.get_push k, if_pos rfl]
theorem AH.push_old {h : AH} (k : h.ok) {o u : AO} {i : Nat} (e : h.get i = some u) : (h.push o).get i = some u := by rw [AH.get_push k, if_neg (Nat.ne_of_lt (AH.lt_of k e)), e]
theorem AH.set_ok {h : AH} (k : h.ok) {i : Nat} (hi : i < h.n) (o : AO) : (h.set i o).ok := Full.set k hi
theorem AH.get_set {h : AH} (k : h.ok) {i : Nat} (hi : i < h.n) (o : AO) (j : Nat) : (h.set i o).get j = if j = i then some o else h.get j := Tr.get_put h.t h.n i o k (Nat.le_of_lt hi) j
/-- old things stay, save those of s -/
structure Kp (s : Nat → Prop) (h h' : AH) : Prop where
  ok : h'.ok
  le : h.n ≤ h'.n
  get : ∀ i o, ¬ s i → h.get i = some o → h'.get i = some o
abbrev Ke := Kp fun _ => False
theorem Kp.refl {s : Nat → Prop} {h : AH} (k : h.ok) : Kp s h h := ⟨k, Nat.le_refl _, fun _ _ _ e => e⟩
theorem Kp.trans {s t : Nat → Prop} {h h1 h2 : AH} (a : Kp s h h1) (b : Kp t h1 h2) : Kp (fun i => s i ∨ t i) h h2 := ⟨b.ok, Nat.le_trans a.le b.le, fun i o n e => b.get i o (fun z => n (.inr z)) (a.get i o (fun z => n (.inl z)) e)⟩
theorem Ke.trans {h h1 h2 : AH} (a : Ke h h1) (b : Ke h1 h2) : Ke h h2 := ⟨b.ok, Nat.le_trans a.le b.le, fun i o n e => b.get i o n (a.get i o n e)⟩
theorem Ke.push {h : AH} (k : h.ok) (o : AO) : Ke h (h.push o) := ⟨h.push_ok k o, Nat.le_succ _, fun _ _ _ e => AH.push_old k e⟩
theorem Ke.at {h h' : AH} (a : Ke h h') {i : Nat} {o : AO} (e : h.get i = some o) : h'.get i = some o := a.get i o id e

abbrev XP := Nat → List AV → AH → Prop
def NX : XP := fun _ _ _ => False
def Res.wp {α : Type} (r : Res α) (X : XP) (Q : α → AH → Prop) : Prop := match r with
  | .ok a h => Q a h
  | .exc c vs h => X c vs h
  | .bad => False
theorem Res.wp.mono {α : Type} {r : Res α} {X Y : XP} {Q R : α → AH → Prop} (p : r.wp X Q) (fx : ∀ c vs h, X c vs h → Y c vs h) (f : ∀ a h, Q a h → R a h) : r.wp Y R := by
  cases r with
  | ok a h => exact f a h p
  | exc c vs h => exact fx c vs h p
  | bad => exact p
theorem Res.wp.imp {α : Type} {r : Res α} {X : XP} {Q R : α → AH → Prop} (p : r.wp X Q) (f : ∀ a h, Q a h → R a h) : r.wp X R := p.mono (fun _ _ _ x => x) f
theorem Res.wp.ex {α : Type} {r : Res α} {Q : α → AH → Prop} (p : r.wp NX Q) : ∃ a h, r = .ok a h ∧ Q a h := by
  cases r with
  | ok a h => exact ⟨a, h, rfl, p⟩
  | exc c vs h => exact p.elim
  | bad => exact p.elim
theorem Res.wp.bind {α β : Type} {r : Res α} {f : α → AH → Res β} {X : XP} {Q : β → AH → Prop} (p : r.wp X fun a h => (f a h).wp X Q) : (r.bind f).wp X Q := by
  cases r with
  | ok a h => exact p
  | exc c vs h => exact p
  | bad => exact p
structure Po where
  nx : Sg → AH → Prop
  rt : AV → AH → Prop
  bk : Sg → AH → Prop
  ct : Sg → AH → Prop
  ex : XP
def RSt.wp (n : Nat) (r : RSt) (D : Po) : Prop := match r with
  | .nx sl h => ∃ σ, SLR n sl σ ∧ D.nx σ h
  | .rt v h => D.rt v h
  | .bk sl h => ∃ σ, SLR n sl σ ∧ D.bk σ h
  | .ct sl h => ∃ σ, SLR n sl σ ∧ D.ct σ h
  | .exc c vs h => D.ex c vs h
  | .bad => False
structure Po.Le (D F : Po) : Prop where
  nx : ∀ σ h, D.nx σ h → F.nx σ h
  rt : ∀ v h, D.rt v h → F.rt v h
  bk : ∀ σ h, D.bk σ h → F.bk σ h
  ct : ∀ σ h, D.ct σ h → F.ct σ h
  ex : ∀ c vs h, D.ex c vs h → F.ex c vs h
theorem RSt.wp.mono {n : Nat} {r : RSt} {D F : Po} (p : r.wp n D) (l : D.Le F) : r.wp n F := by
  cases r with
  | nx sl h =>
    obtain ⟨σ, a, b⟩ := p
    exact ⟨σ, a, l.nx _ _ b⟩
  | rt v h => exact l.rt _ _ p
  | bk sl h =>
    obtain ⟨σ, a, b⟩ := p
    exact ⟨σ, a, l.bk _ _ b⟩
  | ct sl h =>
    obtain ⟨σ, a, b⟩ := p
    exact ⟨σ, a, l.ct _ _ b⟩
  | exc c vs h => exact l.ex _ _ _ p
  | bad => exact p
/-- a piece with a result, a piece of a body -/
def WE {α : Type} (n : Nat) (X : XP) (f : SL → AH → Res α) (σ : Sg) (h : AH) (Q : α → AH → Prop) : Prop := ∀ sl, SLR n sl σ → (f sl h).wp X Q
def WS (n : Nat) (f : FS) (σ : Sg) (h : AH) (D : Po) : Prop := ∀ sl, SLR n sl σ → (f sl h).wp n D
section
variable {n : Nat} {X : XP} {σ : Sg} {h : AH}
theorem WE.imp {α : Type} {f : SL → AH → Res α} {Q R : α → AH → Prop} (p : WE n X f σ h Q) (k : ∀ a h, Q a h → R a h) : WE n X f σ h R := fun sl r => (p sl r).imp k
theorem WS.mono {f : FS} {D F : Po} (p : WS n f σ h D) (l : D.Le F) : WS n f σ h F := fun sl r => (p sl r).mono l

variable {Q : AV → AH → Prop} {QT : Bool → AH → Prop} {QA : List AV → AH → Prop} {QI : Src → AH → Prop} {QO : Option Int → AH → Prop}
theorem w_slot {i : Nat} {v : AV} (hi : i < n) (e : σ i = some v) (q : Q v h) : WE n X (cSlot i) σ h Q := fun sl r => by
  unfold cSlot
  rw [r i, if_pos hi, e]
  exact q
theorem w_cst {v : AV} (q : Q v h) : WE n X (cCst v) σ h Q := fun sl r => q
theorem w_anil (q : QA [] h) : WE n X aNil σ h QA := fun sl r => q
theorem w_acons {e : FE} {a : FA} (p : WE n X e σ h fun v h1 => WE n X a σ h1 fun vs h2 => QA (v :: vs) h2) : WE n X (aCons e a) σ h QA := fun sl r =>
  Res.wp.bind ((p sl r).imp fun v h1 q => Res.wp.bind ((q sl r).imp fun vs h2 z => z))
theorem w_tup {a : FA} (p : WE n X a σ h fun vs h1 => vs.length ≤ line ∧ Q (.tup vs) h1) : WE n X (cTup a) σ h Q := fun sl r =>
  Res.wp.bind ((p sl r).imp fun vs h1 ⟨l, q⟩ => by
    rw [if_pos (show short vs = true from Nat.ble_eq.mpr l)]
    exact q)
theorem w_lst {a : FA} (p : WE n X a σ h fun vs h1 => vs.length ≤ line ∧ Q (.ref h1.n) (h1.push (.lst vs))) : WE n X (cLst a) σ h Q := fun sl r =>
  Res.wp.bind ((p sl r).imp fun vs h1 ⟨l, q⟩ => by
    rw [if_pos (show short vs = true from Nat.ble_eq.mpr l)]
    exact q)
theorem w_bin {op : BOp} {a b : FE} (p : WE n X a σ h fun x h1 => WE n X b σ h1 fun y h2 => (binA op x y h2).wp X Q) : WE n X (cBin op a b) σ h Q := fun sl r =>
  Res.wp.bind ((p sl r).imp fun x h1 q => Res.wp.bind ((q sl r).imp fun y h2 z => z))
theorem wp_boolV {o : Option Bool} {b : Bool} (e : o = some b) (q : Q (.bl b) h) : (boolV o h).wp X Q := by
  rw [e]
  exact q
theorem w_cmp {op : COp} {a b : FE} (p : WE n X a σ h fun x h1 => WE n X b σ h1 fun y h2 => ∃ k, cmpA op x y h2 = some k ∧ Q (.bl k) h2) : WE n X (cCmp op a b) σ h Q := fun sl r =>
  Res.wp.bind ((p sl r).imp fun x h1 q => Res.wp.bind ((q sl r).imp fun y h2 ⟨k, e, z⟩ => wp_boolV e z))
theorem w_chn {o1 o2 : COp} {a b c : FE} (p : WE n X a σ h fun x h1 => WE n X b σ h1 fun y h2 => ∃ k, cmpA o1 x y h2 = some k ∧ (k = false → Q (.bl false) h2) ∧ (k = true → WE n X c σ h2 fun z h3 => ∃ j, cmpA o2 y z h3 = some j ∧ Q (.bl j) h3)) : WE n X (cChn o1 o2 a b c) σ h Q := fun sl r =>
  Res.wp.bind ((p sl r).imp fun x h1 q => Res.wp.bind ((q sl r).imp fun y h2 ⟨k, e, f0, f1⟩ => by
    rw [e]
    cases k with
    | false => exact f0 rfl
    | true => exact Res.wp.bind ((f1 rfl sl r).imp fun z h3 ⟨j, e, w⟩ => wp_boolV e w)))
theorem w_ande {a b : FE} (p : WE n X a σ h fun x h1 => ∃ k, x = .bl k ∧ (k = false → Q (.bl false) h1) ∧ (k = true → WE n X b σ h1 Q)) : WE n X (cAnd a b) σ h Q := fun sl r =>
  Res.wp.bind ((p sl r).imp fun x h1 ⟨k, e, f0, f1⟩ => by
    subst e
    cases k with
    | false => exact f0 rfl
    | true => exact f1 rfl sl r)
theorem w_ore {a b : FE} (p : WE n X a σ h fun x h1 => ∃ k, x = .bl k ∧ (k = true → Q (.bl true) h1) ∧ (k = false → WE n X b σ h1 Q)) : WE n X (cOr a b) σ h Q := fun sl r =>
  Res.wp.bind ((p sl r).imp fun x h1 ⟨k, e, f0, f1⟩ => by
    subst e
    cases k with
    | true => exact f0 rfl
    | false => exact f1 rfl sl r)
theorem w_not {a : FE} (p : WE n X a σ h fun x h1 => ∃ k, x = .bl k ∧ Q (.bl (!k)) h1) : WE n X (cNot a) σ h Q := fun sl r =>
  Res.wp.bind ((p sl r).imp fun x h1 ⟨k, e, f0⟩ => by
    subst e
    exact f0)
theorem w_ife {c : FT} {a b : FE} (p : WE n X c σ h fun k h1 => (k = true → WE n X a σ h1 Q) ∧ (k = false → WE n X b σ h1 Q)) : WE n X (cIfe c a b) σ h Q := fun sl r =>
  Res.wp.bind ((p sl r).imp fun k h1 ⟨f1, f0⟩ => by
    cases k with
    | true => exact f1 rfl sl r
    | false => exact f0 rfl sl r)
theorem w_call {T : Tab} {f : Nat} {a : FA} (p : WE n X a σ h fun vs h1 => (T.call f vs h1).wp X Q) : WE n X (cCall T false f a) σ h Q := fun sl r =>
  Res.wp.bind ((p sl r).imp fun vs h1 q => q)
theorem w_callP {T : Tab} {f : Nat} {a : FA} (p : WE n X a σ h fun vs h1 => (callPure T f vs h1).wp X Q) : WE n X (cCall T true f a) σ h Q := fun sl r =>
  Res.wp.bind ((p sl r).imp fun vs h1 q => q)
theorem w_blt {b : BI} {a : FA} (p : WE n X a σ h fun vs h1 => (bltA b vs h1).wp X Q) : WE n X (cBlt b a) σ h Q := fun sl r =>
  Res.wp.bind ((p sl r).imp fun vs h1 q => q)
theorem w_isi {t : Ty} {a : FE} (p : WE n X a σ h fun v h1 => ∃ k, isiA t v h1 = some k ∧ Q (.bl k) h1) : WE n X (cIsi t a) σ h Q := fun sl r =>
  Res.wp.bind ((p sl r).imp fun v h1 ⟨k, e, q⟩ => wp_boolV e q)
theorem w_mk {T : Tab} {c : Nat} {a : FA} (p : WE n X a σ h fun vs h1 => (T.call (T.init c) (.ref h1.n :: vs) (h1.push (.ins c []))).wp X fun v h2 => v = .non ∧ Q (.ref h1.n) h2) : WE n X (cMk T c a) σ h Q := fun sl r =>
  Res.wp.bind ((p sl r).imp fun vs h1 q => Res.wp.bind (q.imp fun v h2 ⟨e, z⟩ => by
    subst e
    exact z))
theorem w_um {T : Tab} {m : Nat} {o : FE} {a : FA} (p : WE n X o σ h fun x h1 => ∃ k c fs f, insAt h1 x = some (k, c, fs) ∧ T.meth c m = some f ∧ WE n X a σ h1 fun vs h2 => (T.call f (x :: vs) h2).wp X Q) : WE n X (cUm T m o a) σ h Q := fun sl r =>
  Res.wp.bind ((p sl r).imp fun x h1 ⟨k, c, fs, f, e1, e2, q⟩ => by
    simp only [e1, e2]
    exact Res.wp.bind ((q sl r).imp fun vs h2 z => z))
theorem w_bm {m : BM} {o : FE} {a : FA} (p : WE n X o σ h fun x h1 => bmKind m x h1 = true ∧ WE n X a σ h1 fun vs h2 => (bmA m x vs h2).wp X Q) : WE n X (cBm m o a) σ h Q := fun sl r =>
  Res.wp.bind ((p sl r).imp fun x h1 ⟨e, q⟩ => by
    rw [if_pos e]
    exact Res.wp.bind ((q sl r).imp fun vs h2 z => z))
theorem w_fld {f : Nat} {o : FE} (p : WE n X o σ h fun x h1 => ∃ k c fs v, insAt h1 x = some (k, c, fs) ∧ fGet f fs = some v ∧ Q v h1) : WE n X (cFld f o) σ h Q := fun sl r =>
  Res.wp.bind ((p sl r).imp fun x h1 ⟨k, c, fs, v, e1, e2, q⟩ => by
    simp only [e1, e2]
    exact q)
theorem w_idx {o i : FE} (p : WE n X o σ h fun x h1 => WE n X i σ h1 fun y h2 => (idxA x y h2).wp X Q) : WE n X (cIdx o i) σ h Q := fun sl r =>
  Res.wp.bind ((p sl r).imp fun x h1 q => Res.wp.bind ((q sl r).imp fun y h2 z => z))
theorem w_onone (q : QO none h) : WE n X oNone σ h QO := fun sl r => q
theorem w_osome {e : FE} (p : WE n X e σ h fun x h1 => ∃ i, x = .int i ∧ QO (some i) h1) : WE n X (oSome e) σ h QO := fun sl r =>
  Res.wp.bind ((p sl r).imp fun x h1 ⟨i, e, q⟩ => by
    subst e
    exact q)
theorem w_slc {o : FE} {lo hi : FO} (p : WE n X o σ h fun x h1 => WE n X lo σ h1 fun l h2 => WE n X hi σ h2 fun u h3 => (slcA x l u h3).wp X Q) : WE n X (cSlc o lo hi) σ h Q := fun sl r =>
  Res.wp.bind ((p sl r).imp fun x h1 q => Res.wp.bind ((q sl r).imp fun l h2 z => Res.wp.bind ((z sl r).imp fun u h3 w => w)))
theorem w_rev {o : FE} (p : WE n X o σ h fun x h1 => (revA x h1).wp X Q) : WE n X (cRev o) σ h Q := fun sl r => Res.wp.bind (p sl r)
theorem w_dnw (q : Q (.ref h.n) (h.push (.dct []))) : WE n X cDnw σ h Q := fun sl r => q
theorem w_neg {a : FE} (p : WE n X a σ h fun x h1 => ∃ i, x = .int i ∧ Q (.int (-i)) h1) : WE n X (cNeg a) σ h Q := fun sl r =>
  Res.wp.bind ((p sl r).imp fun x h1 ⟨i, e, q⟩ => by
    subst e
    exact q)

theorem w_tand {a b : FT} (p : WE n X a σ h fun k h1 => (k = true → WE n X b σ h1 QT) ∧ (k = false → QT false h1)) : WE n X (tAndA a b) σ h QT := fun sl r =>
  Res.wp.bind ((p sl r).imp fun k h1 ⟨f1, f0⟩ => by
    cases k with
    | true => exact f1 rfl sl r
    | false => exact f0 rfl)
theorem w_tor {a b : FT} (p : WE n X a σ h fun k h1 => (k = false → WE n X b σ h1 QT) ∧ (k = true → QT true h1)) : WE n X (tOrA a b) σ h QT := fun sl r =>
  Res.wp.bind ((p sl r).imp fun k h1 ⟨f0, f1⟩ => by
    cases k with
    | true => exact f1 rfl
    | false => exact f0 rfl sl r)
theorem w_tnot {a : FT} (p : WE n X a σ h fun k h1 => QT (!k) h1) : WE n X (tNotA a) σ h QT := fun sl r => Res.wp.bind ((p sl r).imp fun k h1 q => q)
theorem w_tyes (q : QT true h) : WE n X tYesA σ h QT := fun sl r => q
theorem w_tcmp {op : COp} {a b : FE} (p : WE n X a σ h fun x h1 => WE n X b σ h1 fun y h2 => ∃ k, cmpA op x y h2 = some k ∧ QT k h2) : WE n X (tCmpA op a b) σ h QT := fun sl r =>
  Res.wp.bind ((p sl r).imp fun x h1 q => Res.wp.bind ((q sl r).imp fun y h2 ⟨k, e, z⟩ => by
    rw [e]
    exact z))
theorem w_tval {e : FE} (p : WE n X e σ h fun x h1 => ∃ k, x = .bl k ∧ QT k h1) : WE n X (tValA e) σ h QT := fun sl r =>
  Res.wp.bind ((p sl r).imp fun x h1 ⟨k, e, q⟩ => by
    subst e
    exact q)

theorem w_rng1 {a : FE} (p : WE n X a σ h fun x h1 => ∃ j, x = .int j ∧ inRange j = true ∧ QI (.rng 0 j.toNat) h1) : WE n X (iRng1A a) σ h QI := fun sl r =>
  Res.wp.bind ((p sl r).imp fun x h1 ⟨j, e, i, q⟩ => by
    subst e
    show (rngOf 0 j h1).wp X QI
    unfold rngOf
    rw [if_pos (by rw [i]; rfl), Int.sub_zero]
    exact q)
theorem w_rng2 {a b : FE} (p : WE n X a σ h fun x h1 => WE n X b σ h1 fun y h2 => ∃ i j, x = .int i ∧ y = .int j ∧ inRange i = true ∧ inRange j = true ∧ QI (.rng i (j - i).toNat) h2) : WE n X (iRng2A a b) σ h QI := fun sl r =>
  Res.wp.bind ((p sl r).imp fun x h1 q0 => Res.wp.bind ((q0 sl r).imp fun y h2 ⟨i, j, e1, e2, i1, i2, q⟩ => by
    subst e1 e2
    show (rngOf i j h2).wp X QI
    unfold rngOf
    rw [i1, i2]
    exact q))
theorem w_enm {a : FE} (p : WE n X a σ h fun v h1 => ∃ s, seqOf v h1 = some s ∧ QI (.enm s) h1) : WE n X (iEnmA a) σ h QI := fun sl r =>
  Res.wp.bind ((p sl r).imp fun v h1 ⟨s, e, q⟩ => by
    simp only [e]
    exact q)
theorem w_zp {a b : FE} (p : WE n X a σ h fun v h1 => WE n X b σ h1 fun w h2 => (zpOf (seqOf v h2) (seqOf w h2) h2).wp X QI) : WE n X (iZpA a b) σ h QI := fun sl r =>
  Res.wp.bind ((p sl r).imp fun v h1 q => Res.wp.bind ((q sl r).imp fun w h2 z => z))
theorem w_ival {e : FE} (p : WE n X e σ h fun v h1 => ∃ s, srcOf v h1 = some s ∧ QI s h1) : WE n X (iValA e) σ h QI := fun sl r =>
  Res.wp.bind ((p sl r).imp fun v h1 ⟨s, e, q⟩ => by
    rw [e]
    exact q)

def tgtS : RT → AV → Sg → Option Sg
  | .nm i, v, σ => some (σ.up i (some v))
  | .tp ts, v, σ => match v with
    | .tup _ => tgtS ts v σ
    | _ => none
  | .tnil, v, σ => match v with
    | .tup [] => some σ
    | _ => none
  | .tcons t r, v, σ => match v with
    | .tup (x :: xs) => match tgtS t x σ with
      | some σ' => tgtS r (.tup xs) σ'
      | none => none
    | _ => none
theorem tgt_is {sl : SL} : ∀ (t : RT) (v : AV) (σ σ' : Sg) (sl : SL), SLR n sl σ → tgtS t v σ = some σ' → ∃ sl', tgtA t v sl = some sl' ∧ SLR n sl' σ'
  | .nm i, v, σ, σ', sl, r, e => by
    cases e
    exact ⟨_, rfl, r.set i (some v)⟩
  | .tp ts, v, σ, σ', sl, r, e => by
    cases v with
    | tup xs => exact tgt_is (sl := sl) ts (.tup xs) σ σ' sl r e
    | _ => cases e
  | .tnil, v, σ, σ', sl, r, e => by
    cases v with
    | tup xs =>
      cases xs with
      | nil =>
        cases e
        exact ⟨sl, rfl, r⟩
      | cons x xs => cases e
    | _ => cases e
  | .tcons t u, v, σ, σ', sl, r, e => by
    cases v with
    | tup xs =>
      cases xs with
      | nil => cases e
      | cons x xs =>
        have e : (match tgtS t x σ with
          | some σ' => tgtS u (.tup xs) σ'
          | none => none) = some σ' := e
        cases q : tgtS t x σ with
        | none =>
          rw [q] at e
          cases e
        | some σ1 =>
          rw [q] at e
          obtain ⟨sl1, e1, r1⟩ := tgt_is (sl := sl) t x σ σ1 sl r q
          obtain ⟨sl2, e2, r2⟩ := tgt_is (sl := sl) u (.tup xs) σ1 σ' sl1 r1 e
          refine ⟨sl2, ?_, r2⟩
          show (match tgtA t x sl with
            | some sl' => tgtA u (.tup xs) sl'
            | none => none) = some sl2
          rw [e1]
          exact e2
    | _ => cases e

/-- one turn: the target, the test, the item -/
theorem w_stepL {t : RT} {sl : SL} {σ : Sg} {c : FT} {e : FE} {v : AV} {h : AH} {σ2 : Sg} {Q : Option AV → AH → Prop} (r : SLR n sl σ) (ht : tgtS t v σ = some σ2) (p : WE n X c σ2 h fun b h1 => (b = true → WE n X e σ2 h1 fun w h2 => Q (some w) h2) ∧ (b = false → Q none h1)) : (stepL t sl c e v h).wp X Q := by
  obtain ⟨sl2, e2, r2⟩ := tgt_is (sl := sl) t v σ σ2 sl r ht
  unfold stepL tgtR
  rw [e2]
  refine Res.wp.bind (show Res.wp (.ok sl2 h) X _ from Res.wp.bind ((p sl2 r2).imp fun b h1 ⟨f1, f0⟩ => ?_))
  cases b with
  | true => exact Res.wp.bind ((f1 rfl sl2 r2).imp fun w h2 q => q)
  | false => exact f0 rfl
/-- the turns, by what holds ahead of each -/
theorem w_turns {item : AH → Nat → Option (Option AV)} {step : AV → AH → Res (Option AV)} {Q : List AV → AH → Prop} (J : Nat → List AV → AH → Prop) (m : Nat)
    (turn : ∀ i acc h, i < m → J i acc h → ∃ v, item h i = some (some v) ∧ (step v h).wp NX fun o h' => J (i + 1) (match o with
      | some w => acc ++ [w]
      | none => acc) h')
    (last : ∀ acc h, J m acc h → item h m = some none ∧ Q acc h) : ∀ (k i : Nat) (acc : List AV) (h : AH), i + k = m → J i acc.reverse h → (turns item step k i acc h).wp X Q
  | 0, i, acc, h, e, j => by
    have e : i = m := e
    subst e
    obtain ⟨e1, q⟩ := last _ _ j
    show Res.wp (match item h i with
      | some none => .ok acc.reverse h
      | _ => .bad) X Q
    rw [e1]
    exact q
  | k + 1, i, acc, h, e, j => by
    obtain ⟨v, e1, p⟩ := turn i _ h (by omega) j
    show Res.wp (match item h i with
      | none => .bad
      | some none => .ok acc.reverse h
      | some (some v) => (step v h).calm.bind fun o h' => match o with
        | some w => turns item step k (i + 1) (w :: acc) h'
        | none => turns item step k (i + 1) acc h') X Q
    rw [e1]
    obtain ⟨o, h', es, j'⟩ := p.ex
    simp only [es]
    cases o with
    | some w => exact w_turns J m turn last k (i + 1) (w :: acc) h' (by omega) (by rw [List.reverse_cons]; exact j')
    | none => exact w_turns J m turn last k (i + 1) acc h' (by omega) j'
theorem w_lcm {own : List Nat} {t : RT} {it : FI} {c : FT} {e : FE} (p : WE n X it σ h fun src h1 => src.many h1 ≤ line ∧ ∃ J : Nat → List AV → AH → Prop, J 0 [] h1 ∧
    (∀ i acc h, i < src.many h1 → J i acc h → ∃ v, src.item h i = some (some v) ∧ ∃ σ2, tgtS t v (own.foldr (fun i s => s.up i none) σ) = some σ2 ∧ WE n NX c σ2 h fun b h1 => (b = true → WE n NX e σ2 h1 fun w h2 => J (i + 1) (acc ++ [w]) h2) ∧ (b = false → J (i + 1) acc h1)) ∧
    ∀ acc h, J (src.many h1) acc h → src.item h (src.many h1) = some none ∧ Q (.ref h.n) (h.push (.lst acc))) : WE n X (cLcm own t it c e) σ h Q := fun sl r =>
  Res.wp.bind ((p sl r).imp fun src h1 ⟨l, J, j0, turn, last⟩ => by
    rw [if_pos (Nat.ble_eq.mpr l)]
    refine Res.wp.bind (w_turns J (src.many h1) (fun i acc h hi j => ?_) last (src.many h1) 0 [] h1 (Nat.zero_add _) j0)
    obtain ⟨v, e1, σ2, e2, q⟩ := turn i acc h hi j
    refine ⟨v, e1, w_stepL (r.wipe own) e2 (q.imp fun b h1 ⟨f1, f0⟩ => ⟨fun z => f1 z, fun z => f0 z⟩)⟩)
theorem w_stepD {t : RT} {sl : SL} {σ : Sg} {c : FT} {k e : FE} {v : AV} {h : AH} {σ2 : Sg} {Q : Option (Key × AV) → AH → Prop} (r : SLR n sl σ) (ht : tgtS t v σ = some σ2)
    (p : WE n X c σ2 h fun b h1 => (b = true → WE n X k σ2 h1 fun q h2 => WE n X e σ2 h2 fun w h3 => ∃ q', keyOf q = some q' ∧ Q (some (q', w)) h3) ∧ (b = false → Q none h1)) : (stepD t sl c k e v h).wp X Q := by
  obtain ⟨sl2, e2, r2⟩ := tgt_is (sl := sl) t v σ σ2 sl r ht
  unfold stepD tgtR
  rw [e2]
  refine Res.wp.bind (show Res.wp (.ok sl2 h) X _ from Res.wp.bind ((p sl2 r2).imp fun b h1 ⟨f1, f0⟩ => ?_))
  cases b with
  | true => exact Res.wp.bind ((f1 rfl sl2 r2).imp fun q h2 z => Res.wp.bind ((z sl2 r2).imp fun w h3 ⟨q', eq, y⟩ => by
      simp only [eq]
      exact y))
  | false => exact f0 rfl
theorem w_turnsD {item : AH → Nat → Option (Option AV)} {step : AV → AH → Res (Option (Key × AV))} {Q : List (Key × AV) → AH → Prop} (J : Nat → List (Key × AV) → AH → Prop) (m : Nat)
    (turn : ∀ i acc h, i < m → J i acc h → ∃ v, item h i = some (some v) ∧ (step v h).wp NX fun o h' => J (i + 1) (match o with
      | some (q, w) => dPut q w acc
      | none => acc) h')
    (last : ∀ acc h, J m acc h → item h m = some none ∧ Q acc h) : ∀ (k i : Nat) (acc : List (Key × AV)) (h : AH), i + k = m → J i acc h → (turnsD item step k i acc h).wp X Q
  | 0, i, acc, h, e, j => by
    have e : i = m := e
    subst e
    obtain ⟨e1, q⟩ := last _ _ j
    show Res.wp (match item h i with
      | some none => .ok acc h
      | _ => .bad) X Q
    rw [e1]
    exact q
  | k + 1, i, acc, h, e, j => by
    obtain ⟨v, e1, p⟩ := turn i _ h (by omega) j
    show Res.wp (match item h i with
      | none => .bad
      | some none => .ok acc h
      | some (some v) => (step v h).calm.bind fun o h' => match o with
        | some (q, w) => turnsD item step k (i + 1) (dPut q w acc) h'
        | none => turnsD item step k (i + 1) acc h') X Q
    rw [e1]
    obtain ⟨o, h', es, j'⟩ := p.ex
    simp only [es]
    cases o with
    | some w => exact w_turnsD J m turn last k (i + 1) (dPut w.1 w.2 acc) h' (by omega) j'
    | none => exact w_turnsD J m turn last k (i + 1) acc h' (by omega) j'
theorem w_dcm {own : List Nat} {t : RT} {it : FI} {c : FT} {k e : FE} (p : WE n X it σ h fun src h1 => src.many h1 ≤ line ∧ ∃ J : Nat → List (Key × AV) → AH → Prop, J 0 [] h1 ∧
    (∀ i acc h, i < src.many h1 → J i acc h → ∃ v, src.item h i = some (some v) ∧ ∃ σ2, tgtS t v (own.foldr (fun i s => s.up i none) σ) = some σ2 ∧ WE n NX c σ2 h fun b h1 => (b = true → WE n NX k σ2 h1 fun q h2 => WE n NX e σ2 h2 fun w h3 => ∃ q', keyOf q = some q' ∧ J (i + 1) (dPut q' w acc) h3) ∧ (b = false → J (i + 1) acc h1)) ∧
    ∀ acc h, J (src.many h1) acc h → src.item h (src.many h1) = some none ∧ Q (.ref h.n) (h.push (.dct acc))) : WE n X (cDcm own t it c k e) σ h Q := fun sl r =>
  Res.wp.bind ((p sl r).imp fun src h1 ⟨l, J, j0, turn, last⟩ => by
    rw [if_pos (Nat.ble_eq.mpr l)]
    refine Res.wp.bind (w_turnsD J (src.many h1) (fun i acc h hi j => ?_) last (src.many h1) 0 [] h1 (Nat.zero_add _) j0)
    obtain ⟨v, e1, σ2, e2, q⟩ := turn i acc h hi j
    refine ⟨v, e1, w_stepD (r.wipe own) e2 (q.imp fun b h1 ⟨f1, f0⟩ => ⟨fun z => (f1 z).imp fun q h2 y => y.imp fun w h3 ⟨q', eq, u⟩ => ⟨q', eq, u⟩, fun z => f0 z⟩)⟩)
end

section
variable {n : Nat} {σ : Sg} {h : AH} {D : Po}
theorem wp_st {α : Type} {r : Res α} {f : α → AH → RSt} (p : r.wp D.ex fun a h => (f a h).wp n D) : (r.st f).wp n D := by
  cases r with
  | ok a h => exact p
  | exc c vs h => exact p
  | bad => exact p
theorem ws_nil (q : D.nx σ h) : WS n sNil σ h D := fun sl r => ⟨σ, r, q⟩
theorem ws_seq {s t : FS} (p : WS n s σ h { D with nx := fun σ1 h1 => WS n t σ1 h1 D }) : WS n (sSeq s t) σ h D := fun sl r => by
  have q := p sl r
  show ((s sl h).seq t).wp n D
  cases e : s sl h with
  | nx sl1 h1 =>
    rw [e] at q
    obtain ⟨σ1, r1, q⟩ := q
    exact q sl1 r1
  | rt v h1 =>
    rw [e] at q
    exact q
  | bk sl1 h1 =>
    rw [e] at q
    exact q
  | ct sl1 h1 =>
    rw [e] at q
    exact q
  | exc c vs h1 =>
    rw [e] at q
    exact q
  | bad =>
    rw [e] at q
    exact q
theorem ws_asg {t : RT} {e : FE} (p : WE n D.ex e σ h fun v h1 => ∃ σ1, tgtS t v σ = some σ1 ∧ D.nx σ1 h1) : WS n (sAsg t e) σ h D := fun sl r =>
  wp_st ((p sl r).imp fun v h1 ⟨σ1, e1, q⟩ => by
    obtain ⟨sl1, e2, r1⟩ := tgt_is (sl := sl) t v σ σ1 sl r e1
    unfold tgtR
    rw [e2]
    exact ⟨σ1, r1, q⟩)
def setS : List Nat → List AV → Sg → Option Sg
  | [], [], σ => some σ
  | i :: is, v :: vs, σ => setS is vs (σ.up i (some v))
  | _, _, _ => none
theorem set_is : ∀ (is : List Nat) (vs : List AV) (σ σ' : Sg) (sl : SL), SLR n sl σ → setS is vs σ = some σ' → ∃ sl', setAll is vs sl = some sl' ∧ SLR n sl' σ'
  | [], [], σ, σ', sl, r, e => by
    cases e
    exact ⟨sl, rfl, r⟩
  | i :: is, v :: vs, σ, σ', sl, r, e => set_is is vs _ σ' _ (r.set i (some v)) e
  | [], _ :: _, _, _, _, _, e => by cases e
  | _ :: _, [], _, _, _, _, e => by cases e
theorem ws_par {is : List Nat} {a : FA} (p : WE n D.ex a σ h fun vs h1 => ∃ σ1, setS is vs σ = some σ1 ∧ D.nx σ1 h1) : WS n (sPar is a) σ h D := fun sl r =>
  wp_st ((p sl r).imp fun vs h1 ⟨σ1, e1, q⟩ => by
    obtain ⟨sl1, e2, r1⟩ := set_is is vs σ σ1 sl r e1
    rw [e2]
    exact ⟨σ1, r1, q⟩)
theorem ws_setF {f : Nat} {o e : FE} (p : WE n D.ex e σ h fun v h1 => WE n D.ex o σ h1 fun x h2 => ∃ k c fs, insAt h2 x = some (k, c, fs) ∧ fs.length < 100 ∧ D.nx σ (h2.set k (.ins c (fPut f v fs)))) : WS n (sSetF f o e) σ h D := fun sl r =>
  wp_st ((p sl r).imp fun v h1 q => wp_st ((q sl r).imp fun x h2 ⟨k, c, fs, e1, e2, q⟩ => by
    unfold putF
    simp only [e1]
    rw [if_pos (show Nat.blt fs.length 100 = true from Nat.ble_eq.mpr e2)]
    exact ⟨σ, r, q⟩))
theorem ws_setI {o i e : FE} (p : WE n D.ex e σ h fun v h1 => WE n D.ex o σ h1 fun x h2 => WE n D.ex i σ h2 fun j h3 => (putI x j v h3).wp D.ex fun _ h4 => D.nx σ h4) : WS n (sSetI o i e) σ h D := fun sl r =>
  wp_st ((p sl r).imp fun v h1 q => wp_st ((q sl r).imp fun x h2 q => wp_st ((q sl r).imp fun j h3 q => wp_st (q.imp fun _ h4 q => ⟨σ, r, q⟩))))
theorem ws_aug {i : Nat} {op : BOp} {e : FE} (p : WE n D.ex (cSlot i) σ h fun x h1 => WE n D.ex e σ h1 fun y h2 => (augA op x y h2).wp D.ex fun z h3 => D.nx (σ.up i (some z)) h3) : WS n (sAug i op e) σ h D := fun sl r =>
  wp_st ((p sl r).imp fun x h1 q => wp_st ((q sl r).imp fun y h2 q => wp_st (q.imp fun z h3 q => ⟨_, r.set i (some z), q⟩)))
theorem ws_exp {e : FE} (p : WE n D.ex e σ h fun _ h1 => D.nx σ h1) : WS n (sExp e) σ h D := fun sl r => wp_st ((p sl r).imp fun _ h1 q => ⟨σ, r, q⟩)
theorem ws_ret {e : FE} (p : WE n D.ex e σ h D.rt) : WS n (sRet e) σ h D := fun sl r => wp_st ((p sl r).imp fun _ h1 q => q)
theorem ws_retN (q : D.rt .non h) : WS n sRetN σ h D := fun sl r => q
theorem ws_if {c : FT} {a b : FS} (p : WE n D.ex c σ h fun k h1 => (k = true → WS n a σ h1 D) ∧ (k = false → WS n b σ h1 D)) : WS n (sIf c a b) σ h D := fun sl r =>
  wp_st ((p sl r).imp fun k h1 ⟨f1, f0⟩ => by
    cases k with
    | true => exact f1 rfl sl r
    | false => exact f0 rfl sl r)
theorem ws_brk (q : D.bk σ h) : WS n sBrk σ h D := fun sl r => ⟨σ, r, q⟩
theorem ws_cont (q : D.ct σ h) : WS n sCont σ h D := fun sl r => ⟨σ, r, q⟩
theorem ws_raise {c : Nat} {a : FA} (p : WE n D.ex a σ h fun vs h1 => D.ex c vs h1) : WS n (sRaise c a) σ h D := fun sl r => wp_st ((p sl r).imp fun vs h1 q => q)
/-- a turn's end, told by what follows -/
theorem wp_turn {r : RSt} {again : SL → AH → RSt} {I : Sg → AH → Prop} (p : r.wp n { nx := I, ct := I, bk := D.nx, rt := D.rt, ex := D.ex }) (q : ∀ sl σ h, SLR n sl σ → I σ h → (again sl h).wp n D) : (r.turn again).wp n D := by
  cases r with
  | nx sl h =>
    obtain ⟨σ, r, p⟩ := p
    exact q sl σ h r p
  | ct sl h =>
    obtain ⟨σ, r, p⟩ := p
    exact q sl σ h r p
  | bk sl h => exact p
  | rt v h => exact p
  | exc c vs h => exact p
  | bad => exact p
theorem w_loopF {item : AH → Nat → Option (Option AV)} {body : AV → SL → AH → RSt} (I : Nat → Sg → AH → Prop) (m : Nat)
    (turn : ∀ i sl σ h, i < m → SLR n sl σ → I i σ h → ∃ v, item h i = some (some v) ∧ (body v sl h).wp n { nx := I (i + 1), ct := I (i + 1), bk := D.nx, rt := D.rt, ex := D.ex })
    (last : ∀ σ h, I m σ h → item h m = some none ∧ D.nx σ h) : ∀ (k i : Nat) (sl : SL) (σ : Sg) (h : AH), i + k = m → SLR n sl σ → I i σ h → (loopF item body k i sl h).wp n D
  | 0, i, sl, σ, h, e, r, j => by
    have e : i = m := e
    subst e
    obtain ⟨e1, q⟩ := last _ _ j
    show RSt.wp n (match item h i with
      | some none => .nx sl h
      | _ => .bad) D
    rw [e1]
    exact ⟨σ, r, q⟩
  | k + 1, i, sl, σ, h, e, r, j => by
    obtain ⟨v, e1, p⟩ := turn i sl σ h (by omega) r j
    show RSt.wp n (match item h i with
      | none => .bad
      | some none => .nx sl h
      | some (some v) => (body v sl h).turn fun sl' h' => loopF item body k (i + 1) sl' h') D
    rw [e1]
    exact wp_turn p fun sl σ h r q => w_loopF I m turn last k (i + 1) sl σ h (by omega) r q
theorem ws_for {t : RT} {it : FI} {b : FS} (p : WE n D.ex it σ h fun src h1 => ∃ I : Nat → Sg → AH → Prop, I 0 σ h1 ∧
    (∀ i σ h, i < src.many h1 → I i σ h → ∃ v σ1, src.item h i = some (some v) ∧ tgtS t v σ = some σ1 ∧ WS n b σ1 h { nx := I (i + 1), ct := I (i + 1), bk := D.nx, rt := D.rt, ex := D.ex }) ∧
    ∀ σ h, I (src.many h1) σ h → src.item h (src.many h1) = some none ∧ D.nx σ h) : WS n (sFor t it b) σ h D := fun sl r =>
  wp_st ((p sl r).imp fun src h1 ⟨I, i0, turn, last⟩ => by
    refine w_loopF I (src.many h1) (fun i sl σ h hi r j => ?_) last (src.many h1) 0 sl σ h1 (Nat.zero_add _) r i0
    obtain ⟨v, σ1, e1, e2, q⟩ := turn i σ h hi j
    refine ⟨v, e1, ?_⟩
    obtain ⟨sl1, e3, r1⟩ := tgt_is (sl := sl) t v σ σ1 sl r e2
    unfold bodyF tgtR
    rw [e3]
    exact q sl1 r1)
theorem w_loopW {c : SL → AH → Res Bool} {body : SL → AH → RSt} (I : Sg → AH → Prop) (μ : Sg → AH → Nat)
    (turn : ∀ sl σ h, SLR n sl σ → I σ h → (c sl h).wp D.ex fun b h1 => (b = false → D.nx σ h1) ∧ (b = true → (body sl h1).wp n { nx := fun σ1 h2 => I σ1 h2 ∧ μ σ1 h2 < μ σ h, ct := fun σ1 h2 => I σ1 h2 ∧ μ σ1 h2 < μ σ h, bk := D.nx, rt := D.rt, ex := D.ex })) :
    ∀ (k : Nat) (sl : SL) (σ : Sg) (h : AH), μ σ h < k → SLR n sl σ → I σ h → (loopW c body k sl h).wp n D
  | 0, _, _, _, e, _, _ => by omega
  | k + 1, sl, σ, h, e, r, j => wp_st ((turn sl σ h r j).imp fun b h1 ⟨f0, f1⟩ => by
      cases b with
      | false => exact ⟨σ, r, f0 rfl⟩
      | true => exact wp_turn (f1 rfl) fun sl σ h r ⟨q, l⟩ => w_loopW I μ turn k sl σ h (by omega) r q)
theorem ws_whl {c : FT} {b : FS} {k : Nat} (I : Sg → AH → Prop) (μ : Sg → AH → Nat) (i0 : I σ h) (hk : μ σ h < k)
    (turn : ∀ σ h, I σ h → WE n D.ex c σ h fun k h1 => (k = false → D.nx σ h1) ∧ (k = true → WS n b σ h1 { nx := fun σ1 h2 => I σ1 h2 ∧ μ σ1 h2 < μ σ h, ct := fun σ1 h2 => I σ1 h2 ∧ μ σ1 h2 < μ σ h, bk := D.nx, rt := D.rt, ex := D.ex })) : WS n (loopW c b k) σ h D := fun sl r =>
  w_loopW I μ (fun sl σ h r j => ((turn σ h j) sl r).imp fun k h1 ⟨f0, f1⟩ => ⟨f0, fun z => f1 z sl r⟩) k sl σ h hk r i0
end

/-- a def's body, by what is wanted -/
theorem wp_def {T : Tab} {f : FB} {vs : List AV} {h : AH} {X : XP} {Q : AV → AH → Prop} (l : vs.length = f.params)
    (p : WS f.slots (f.body T) (Sg.of vs) h { nx := fun _ h1 => Q .non h1, rt := Q, bk := fun _ _ => False, ct := fun _ _ => False, ex := X }) : (runF T f vs h).wp X Q := by
  unfold runF
  rw [if_pos (by rw [l]; exact Nat.beq_refl _)]
  have q := p _ (start_slr vs f.slots)
  cases e : f.body T (fill vs 0 (shape f.slots)) h with
  | nx sl h1 =>
    rw [e] at q
    obtain ⟨_, _, q⟩ := q
    exact q
  | rt v h1 =>
    rw [e] at q
    exact q
  | bk sl h1 =>
    rw [e] at q
    obtain ⟨_, _, q⟩ := q
    exact q.elim
  | ct sl h1 =>
    rw [e] at q
    obtain ⟨_, _, q⟩ := q
    exact q.elim
  | exc c us h1 =>
    rw [e] at q
    exact q
  | bad =>
    rw [e] at q
    exact q
theorem wp_call {P : Prg} {k f : Nat} {fb : FB} {vs : List AV} {h : AH} {X : XP} {Q : AV → AH → Prop} (e : P.defs f = some fb) (l : vs.length = fb.params)
    (p : WS fb.slots (fb.body (tabAt P (runP P k))) (Sg.of vs) h { nx := fun _ h1 => Q .non h1, rt := Q, bk := fun _ _ => False, ct := fun _ _ => False, ex := X }) : (runP P (k + 1) f vs h).wp X Q := by
  show Res.wp (match P.defs f with
    | some fb => runF (tabAt P (runP P k)) fb vs h
    | none => .bad) X Q
  rw [e]
  exact wp_def l p
/-- a call with data alone, told of the empty heap -/
theorem wp_pure {T : Tab} {f : Nat} {vs : List AV} {h : AH} {X : XP} {Q : AV → AH → Prop} (nr : noRefs vs = true) (hp : T.pcall f vs = pureVal (T.call f vs .nil))
    (p : (T.call f vs .nil).wp (fun c us _ => noRefs us = true ∧ X c us h) fun v _ => noRef v = true ∧ Q v h) : (callPure T f vs h).wp X Q := by
  unfold callPure
  rw [if_pos nr, hp]
  cases e : T.call f vs .nil with
  | ok v h1 =>
    rw [e] at p
    obtain ⟨a, b⟩ := p
    show Res.wp (pureEnd h (if noRef v then .val v else .bad)) X Q
    rw [if_pos a]
    exact b
  | exc c us h1 =>
    rw [e] at p
    obtain ⟨a, b⟩ := p
    show Res.wp (pureEnd h (if noRefs us then .exc c us else .bad)) X Q
    rw [if_pos a]
    exact b
  | bad =>
    rw [e] at p
    exact p

section
variable {X : XP} {h : AH} {Q : AV → AH → Prop}
theorem wp_ok {v : AV} (q : Q v h) : Res.wp (.ok v h) X Q := q
theorem wp_add {i j : Int} (q : Q (.int (i + j)) h) : (binA .add (.int i) (.int j) h).wp X Q := q
theorem wp_sub {i j : Int} (q : Q (.int (i - j)) h) : (binA .sub (.int i) (.int j) h).wp X Q := q
theorem wp_mul {i j : Int} (s : (smallI i || smallI j) = true) (q : Q (.int (i * j)) h) : (binA .mul (.int i) (.int j) h).wp X Q := by
  show Res.wp (if smallI i || smallI j then okI (i * j) h else .bad) X Q
  rw [if_pos s]
  exact q
theorem wp_mod {i j : Int} (s : 0 < j) (q : Q (.int (i % j)) h) : (binA .mod (.int i) (.int j) h).wp X Q := by
  show Res.wp (if decide (0 < j) then okI (i % j) h else .bad) X Q
  rw [if_pos (decide_eq_true s)]
  exact q
theorem wp_div {i j : Int} (s : 0 < j) (l : j < 1073741824) (q : Q (.int (i / j)) h) : (binA .fdiv (.int i) (.int j) h).wp X Q := by
  show Res.wp (if decide (0 < j) && decide (j < 1073741824) then okI (i / j) h else .bad) X Q
  rw [if_pos (by rw [decide_eq_true s, decide_eq_true l]; rfl)]
  exact q
theorem wp_pow {i j : Int} (s : (decide (0 ≤ j) && decide (j ≤ 1000) && smallI i) = true) (q : Q (.int (i ^ j.toNat)) h) : (binA .pow (.int i) (.int j) h).wp X Q := by
  show Res.wp (if decide (0 ≤ j) && decide (j ≤ 1000) && smallI i then okI (i ^ j.toNat) h else .bad) X Q
  rw [if_pos s]
  exact q
theorem wp_int {i : Int} (q : Q (.int i) h) : (bltA .int1 [.int i] h).wp X Q := q
theorem wp_intb {b : Bool} (q : Q (.int (b2z b)) h) : (bltA .int1 [.bl b] h).wp X Q := q
theorem wp_abs {i : Int} (q : Q (.int (if decide (i < 0) then -i else i)) h) : (bltA .abs1 [.int i] h).wp X Q := q
theorem wp_lenT {xs : List AV} (q : Q (.int xs.length) h) : (bltA .len [.tup xs] h).wp X Q := q
theorem wp_lenL {k : Nat} {xs : List AV} (e : h.get k = some (.lst xs)) (q : Q (.int xs.length) h) : (bltA .len [.ref k] h).wp X Q := by
  show Res.wp (match h.get k with
    | some (.lst xs) => okI xs.length h
    | some (.dct ks) => okI ks.length h
    | _ => .bad) X Q
  rw [e]
  exact q
theorem wp_lenD {k : Nat} {xs : List (Key × AV)} (e : h.get k = some (.dct xs)) (q : Q (.int xs.length) h) : (bltA .len [.ref k] h).wp X Q := by
  show Res.wp (match h.get k with
    | some (.lst xs) => okI xs.length h
    | some (.dct ks) => okI ks.length h
    | _ => .bad) X Q
  rw [e]
  exact q
theorem atA_nat {α : Type} {xs : List α} {j : Nat} {i : Int} (ei : i = j) {v : α} (e : xs[j]? = some v) : atA xs i = some v := by
  subst ei
  have hj := (List.getElem?_eq_some_iff.mp e).1
  unfold atA toNix
  rw [if_pos (decide_eq_true (by omega)), if_pos (decide_eq_true (by omega))]
  simpa using e
theorem wp_idxT {xs : List AV} {i : Int} {v : AV} (e : atA xs i = some v) (q : Q v h) : (idxA (.tup xs) (.int i) h).wp X Q := by
  show (optR (atA xs i) h).wp X Q
  rw [e]
  exact q
theorem wp_idxL {k : Nat} {xs : List AV} {i : Int} {v : AV} (g : h.get k = some (.lst xs)) (e : atA xs i = some v) (q : Q v h) : (idxA (.ref k) (.int i) h).wp X Q := by
  unfold idxA
  simp only [g]
  rw [e]
  exact q
theorem wp_idxD {k : Nat} {ks : List (Key × AV)} {y : AV} {qk : Key} {v : AV} (g : h.get k = some (.dct ks)) (ek : keyOf y = some qk) (e : dGet qk ks = some v) (q : Q v h) : (idxA (.ref k) y h).wp X Q := by
  unfold idxA
  simp only [g, ek]
  rw [e]
  exact q
theorem toNix_nat {n j : Nat} {i : Int} (ei : i = j) (l : j < n) : toNix n i = some j := by
  subst ei
  unfold toNix
  rw [if_pos (decide_eq_true (by omega)), if_pos (decide_eq_true (by omega))]
  rfl
theorem wp_putL {k : Nat} {xs : List AV} {i : Int} {j : Nat} {v : AV} {R : Unit → AH → Prop} (g : h.get k = some (.lst xs)) (ei : i = j) (l : j < xs.length) (q : R () (h.set k (.lst (xs.set j v)))) : (putI (.ref k) (.int i) v h).wp X R := by
  unfold putI
  simp only [g, toNix_nat ei l]
  exact q
end
end Ev

set_option Elab.async false
set_option linter.all false
set_option maxRecDepth 100000
set_option maxHeartbeats 0
set_option autoImplicit false
noncomputable section
namespace G
open PySem Ev
/-- a call, its things, what comes of it -/
structure Ent where
  f : Nat
  vs : List AV
  v : AV
def isVal (v : AV) : PR → Bool
  | .val u => eqD u v && ordD u && ordD v
  | _ => false
def Ent.ok (e : Ent) : Bool := ordD.ordDs e.vs && isVal e.v (pureVal (runP prg 12 e.f e.vs .nil))
end G
end

set_option Elab.async false
set_option linter.all false
set_option maxRecDepth 100000
set_option maxHeartbeats 0
set_option autoImplicit false
noncomputable section
namespace G
open PySem Ev
def e0_0 : Ent := ⟨55, [(.tup [(.tup []), (.tup []), (.tup [])]), (.tup [(.tup [(.str ⟨#[108, 101, 116]⟩), (.str ⟨#[120]⟩), (.str ⟨#[121]⟩)]), (.tup [(.str ⟨#[108, 101, 116]⟩), (.str ⟨#[122]⟩), (.str ⟨#[110, 105, 108]⟩)])]), (.tup [(.tup [(.str ⟨#[108, 101, 116]⟩), (.str ⟨#[122]⟩), (.str ⟨#[110, 105, 108]⟩)]), (.tup [(.str ⟨#[108, 101, 116]⟩), (.str ⟨#[120]⟩), (.str ⟨#[121]⟩)])]), (.tup [(.str ⟨#[120]⟩), (.str ⟨#[121]⟩), (.str ⟨#[122]⟩)])], (.tup [(.str ⟨#[97, 108, 105, 107, 101]⟩), (.int 15)])⟩
theorem t0_0 : e0_0.ok = true := by decide +kernel
def e0_1 : Ent := ⟨55, [(.tup [(.tup []), (.tup []), (.tup [])]), (.tup [(.tup [(.str ⟨#[108, 101, 116]⟩), (.str ⟨#[122]⟩), (.str ⟨#[110, 105, 108]⟩)]), (.tup [(.str ⟨#[108, 101, 116]⟩), (.str ⟨#[120]⟩), (.str ⟨#[121]⟩)])]), (.tup [(.tup [(.str ⟨#[108, 101, 116]⟩), (.str ⟨#[120]⟩), (.str ⟨#[121]⟩)]), (.tup [(.str ⟨#[108, 101, 116]⟩), (.str ⟨#[122]⟩), (.str ⟨#[110, 105, 108]⟩)])]), (.tup [(.str ⟨#[120]⟩), (.str ⟨#[121]⟩), (.str ⟨#[122]⟩)])], (.tup [(.str ⟨#[97, 108, 105, 107, 101]⟩), (.int 15)])⟩
theorem t0_1 : e0_1.ok = true := by decide +kernel
def e0_2 : Ent := ⟨55, [(.tup [(.tup []), (.tup []), (.tup [])]), (.tup [(.tup [(.str ⟨#[108, 101, 116]⟩), (.str ⟨#[120]⟩), (.str ⟨#[121]⟩)])]), (.tup [(.tup [(.str ⟨#[108, 101, 116]⟩), (.str ⟨#[121]⟩), (.str ⟨#[120]⟩)])]), (.tup [(.str ⟨#[120]⟩), (.str ⟨#[121]⟩), (.str ⟨#[122]⟩)])], (.tup [(.str ⟨#[97, 112, 97, 114, 116]⟩), (.tup [(.tup [(.tup [(.str ⟨#[120]⟩), (.int 0)]), (.tup [(.str ⟨#[121]⟩), (.int 1)]), (.tup [(.str ⟨#[122]⟩), (.int 0)])]), (.tup [])])])⟩
theorem t0_2 : e0_2.ok = true := by decide +kernel
def e0_3 : Ent := ⟨55, [(.tup [(.tup []), (.tup []), (.tup [])]), (.tup [(.tup [(.str ⟨#[108, 101, 116]⟩), (.str ⟨#[121]⟩), (.str ⟨#[120]⟩)])]), (.tup [(.tup [(.str ⟨#[108, 101, 116]⟩), (.str ⟨#[120]⟩), (.str ⟨#[121]⟩)])]), (.tup [(.str ⟨#[120]⟩), (.str ⟨#[121]⟩), (.str ⟨#[122]⟩)])], (.tup [(.str ⟨#[97, 112, 97, 114, 116]⟩), (.tup [(.tup [(.tup [(.str ⟨#[120]⟩), (.int 0)]), (.tup [(.str ⟨#[121]⟩), (.int 1)]), (.tup [(.str ⟨#[122]⟩), (.int 0)])]), (.tup [])])])⟩
theorem t0_3 : e0_3.ok = true := by decide +kernel
def e0_4 : Ent := ⟨55, [(.tup [(.tup []), (.tup []), (.tup [(.tup [(.str ⟨#[99, 101, 108, 108]⟩), (.str ⟨#[120]⟩), (.str ⟨#[110, 105, 108]⟩)])])]), (.tup [(.tup [(.str ⟨#[119, 114, 105, 116, 101]⟩), (.str ⟨#[120]⟩), (.str ⟨#[121]⟩)]), (.tup [(.str ⟨#[119, 114, 105, 116, 101]⟩), (.str ⟨#[120]⟩), (.str ⟨#[122]⟩)])]), (.tup [(.tup [(.str ⟨#[119, 114, 105, 116, 101]⟩), (.str ⟨#[120]⟩), (.str ⟨#[122]⟩)])]), (.tup [(.str ⟨#[120]⟩), (.str ⟨#[121]⟩), (.str ⟨#[122]⟩)])], (.tup [(.str ⟨#[97, 108, 105, 107, 101]⟩), (.int 10)])⟩
theorem t0_4 : e0_4.ok = true := by decide +kernel
def e0_5 : Ent := ⟨55, [(.tup [(.tup []), (.tup []), (.tup [(.tup [(.str ⟨#[99, 101, 108, 108]⟩), (.str ⟨#[120]⟩), (.str ⟨#[110, 105, 108]⟩)])])]), (.tup [(.tup [(.str ⟨#[119, 114, 105, 116, 101]⟩), (.str ⟨#[120]⟩), (.str ⟨#[122]⟩)])]), (.tup [(.tup [(.str ⟨#[119, 114, 105, 116, 101]⟩), (.str ⟨#[120]⟩), (.str ⟨#[121]⟩)]), (.tup [(.str ⟨#[119, 114, 105, 116, 101]⟩), (.str ⟨#[120]⟩), (.str ⟨#[122]⟩)])]), (.tup [(.str ⟨#[120]⟩), (.str ⟨#[121]⟩), (.str ⟨#[122]⟩)])], (.tup [(.str ⟨#[97, 108, 105, 107, 101]⟩), (.int 10)])⟩
theorem t0_5 : e0_5.ok = true := by decide +kernel
def e0_6 : Ent := ⟨55, [(.tup [(.tup []), (.tup []), (.tup [(.tup [(.str ⟨#[99, 101, 108, 108]⟩), (.str ⟨#[120]⟩), (.str ⟨#[110, 105, 108]⟩)])])]), (.tup [(.tup [(.str ⟨#[119, 114, 105, 116, 101]⟩), (.str ⟨#[120]⟩), (.str ⟨#[121]⟩)]), (.tup [(.str ⟨#[114, 101, 97, 100]⟩), (.str ⟨#[122]⟩), (.str ⟨#[120]⟩)])]), (.tup [(.tup [(.str ⟨#[119, 114, 105, 116, 101]⟩), (.str ⟨#[120]⟩), (.str ⟨#[121]⟩)]), (.tup [(.str ⟨#[108, 101, 116]⟩), (.str ⟨#[122]⟩), (.str ⟨#[121]⟩)])]), (.tup [(.str ⟨#[120]⟩), (.str ⟨#[121]⟩), (.str ⟨#[122]⟩)])], (.tup [(.str ⟨#[97, 108, 105, 107, 101]⟩), (.int 10)])⟩
theorem t0_6 : e0_6.ok = true := by decide +kernel
def e0_7 : Ent := ⟨55, [(.tup [(.tup []), (.tup []), (.tup [(.tup [(.str ⟨#[99, 101, 108, 108]⟩), (.str ⟨#[120]⟩), (.str ⟨#[110, 105, 108]⟩)])])]), (.tup [(.tup [(.str ⟨#[119, 114, 105, 116, 101]⟩), (.str ⟨#[120]⟩), (.str ⟨#[121]⟩)]), (.tup [(.str ⟨#[108, 101, 116]⟩), (.str ⟨#[122]⟩), (.str ⟨#[121]⟩)])]), (.tup [(.tup [(.str ⟨#[119, 114, 105, 116, 101]⟩), (.str ⟨#[120]⟩), (.str ⟨#[121]⟩)]), (.tup [(.str ⟨#[114, 101, 97, 100]⟩), (.str ⟨#[122]⟩), (.str ⟨#[120]⟩)])]), (.tup [(.str ⟨#[120]⟩), (.str ⟨#[121]⟩), (.str ⟨#[122]⟩)])], (.tup [(.str ⟨#[97, 108, 105, 107, 101]⟩), (.int 10)])⟩
theorem t0_7 : e0_7.ok = true := by decide +kernel
def e0_8 : Ent := ⟨55, [(.tup [(.tup []), (.tup []), (.tup [])]), (.tup [(.tup [(.str ⟨#[119, 114, 105, 116, 101]⟩), (.str ⟨#[120]⟩), (.str ⟨#[121]⟩)])]), (.tup []), (.tup [(.str ⟨#[120]⟩), (.str ⟨#[121]⟩), (.str ⟨#[122]⟩)])], (.tup [(.str ⟨#[97, 112, 97, 114, 116]⟩), (.tup [(.tup [(.tup [(.str ⟨#[120]⟩), (.int 0)]), (.tup [(.str ⟨#[121]⟩), (.int 0)]), (.tup [(.str ⟨#[122]⟩), (.int 0)])]), (.tup [])])])⟩
theorem t0_8 : e0_8.ok = true := by decide +kernel
def e0_9 : Ent := ⟨55, [(.tup [(.tup []), (.tup []), (.tup [])]), (.tup []), (.tup [(.tup [(.str ⟨#[119, 114, 105, 116, 101]⟩), (.str ⟨#[120]⟩), (.str ⟨#[121]⟩)])]), (.tup [(.str ⟨#[120]⟩), (.str ⟨#[121]⟩), (.str ⟨#[122]⟩)])], (.tup [(.str ⟨#[97, 112, 97, 114, 116]⟩), (.tup [(.tup [(.tup [(.str ⟨#[120]⟩), (.int 0)]), (.tup [(.str ⟨#[121]⟩), (.int 0)]), (.tup [(.str ⟨#[122]⟩), (.int 0)])]), (.tup [])])])⟩
theorem t0_9 : e0_9.ok = true := by decide +kernel
def e0_10 : Ent := ⟨55, [(.tup [(.tup []), (.tup []), (.tup [])]), (.tup [(.tup [(.str ⟨#[102, 114, 101, 101]⟩), (.str ⟨#[120]⟩)])]), (.tup [(.tup [(.str ⟨#[114, 101, 97, 100]⟩), (.str ⟨#[121]⟩), (.str ⟨#[120]⟩)])]), (.tup [(.str ⟨#[120]⟩), (.str ⟨#[121]⟩), (.str ⟨#[122]⟩)])], (.tup [(.str ⟨#[97, 108, 105, 107, 101]⟩), (.int 15)])⟩
theorem t0_10 : e0_10.ok = true := by decide +kernel
def e0_11 : Ent := ⟨55, [(.tup [(.tup []), (.tup []), (.tup [])]), (.tup [(.tup [(.str ⟨#[114, 101, 97, 100]⟩), (.str ⟨#[121]⟩), (.str ⟨#[120]⟩)])]), (.tup [(.tup [(.str ⟨#[102, 114, 101, 101]⟩), (.str ⟨#[120]⟩)])]), (.tup [(.str ⟨#[120]⟩), (.str ⟨#[121]⟩), (.str ⟨#[122]⟩)])], (.tup [(.str ⟨#[97, 108, 105, 107, 101]⟩), (.int 15)])⟩
theorem t0_11 : e0_11.ok = true := by decide +kernel
def e0_12 : Ent := ⟨55, [(.tup [(.tup []), (.tup []), (.tup [(.tup [(.str ⟨#[99, 101, 108, 108]⟩), (.str ⟨#[120]⟩), (.str ⟨#[110, 105, 108]⟩)])])]), (.tup [(.tup [(.str ⟨#[102, 114, 101, 101]⟩), (.str ⟨#[120]⟩)]), (.tup [(.str ⟨#[102, 114, 101, 101]⟩), (.str ⟨#[120]⟩)])]), (.tup [(.tup [(.str ⟨#[102, 114, 101, 101]⟩), (.str ⟨#[120]⟩)]), (.tup [(.str ⟨#[114, 101, 97, 100]⟩), (.str ⟨#[121]⟩), (.str ⟨#[120]⟩)])]), (.tup [(.str ⟨#[120]⟩), (.str ⟨#[121]⟩), (.str ⟨#[122]⟩)])], (.tup [(.str ⟨#[97, 108, 105, 107, 101]⟩), (.int 10)])⟩
theorem t0_12 : e0_12.ok = true := by decide +kernel
def e0_13 : Ent := ⟨55, [(.tup [(.tup []), (.tup []), (.tup [(.tup [(.str ⟨#[99, 101, 108, 108]⟩), (.str ⟨#[120]⟩), (.str ⟨#[110, 105, 108]⟩)])])]), (.tup [(.tup [(.str ⟨#[102, 114, 101, 101]⟩), (.str ⟨#[120]⟩)]), (.tup [(.str ⟨#[114, 101, 97, 100]⟩), (.str ⟨#[121]⟩), (.str ⟨#[120]⟩)])]), (.tup [(.tup [(.str ⟨#[102, 114, 101, 101]⟩), (.str ⟨#[120]⟩)]), (.tup [(.str ⟨#[102, 114, 101, 101]⟩), (.str ⟨#[120]⟩)])]), (.tup [(.str ⟨#[120]⟩), (.str ⟨#[121]⟩), (.str ⟨#[122]⟩)])], (.tup [(.str ⟨#[97, 108, 105, 107, 101]⟩), (.int 10)])⟩
theorem t0_13 : e0_13.ok = true := by decide +kernel
def e0_14 : Ent := ⟨55, [(.tup [(.tup []), (.tup []), (.tup [(.tup [(.str ⟨#[99, 101, 108, 108]⟩), (.str ⟨#[120]⟩), (.str ⟨#[110, 105, 108]⟩)]), (.tup [(.str ⟨#[99, 101, 108, 108]⟩), (.str ⟨#[121]⟩), (.str ⟨#[110, 105, 108]⟩)])])]), (.tup [(.tup [(.str ⟨#[119, 114, 105, 116, 101]⟩), (.str ⟨#[120]⟩), (.str ⟨#[122]⟩)]), (.tup [(.str ⟨#[119, 114, 105, 116, 101]⟩), (.str ⟨#[121]⟩), (.str ⟨#[122]⟩)])]), (.tup [(.tup [(.str ⟨#[119, 114, 105, 116, 101]⟩), (.str ⟨#[121]⟩), (.str ⟨#[122]⟩)]), (.tup [(.str ⟨#[119, 114, 105, 116, 101]⟩), (.str ⟨#[120]⟩), (.str ⟨#[122]⟩)])]), (.tup [(.str ⟨#[120]⟩), (.str ⟨#[121]⟩), (.str ⟨#[122]⟩)])], (.tup [(.str ⟨#[97, 108, 105, 107, 101]⟩), (.int 4)])⟩
theorem t0_14 : e0_14.ok = true := by decide +kernel
def e0_15 : Ent := ⟨55, [(.tup [(.tup []), (.tup []), (.tup [(.tup [(.str ⟨#[99, 101, 108, 108]⟩), (.str ⟨#[120]⟩), (.str ⟨#[110, 105, 108]⟩)]), (.tup [(.str ⟨#[99, 101, 108, 108]⟩), (.str ⟨#[121]⟩), (.str ⟨#[110, 105, 108]⟩)])])]), (.tup [(.tup [(.str ⟨#[119, 114, 105, 116, 101]⟩), (.str ⟨#[121]⟩), (.str ⟨#[122]⟩)]), (.tup [(.str ⟨#[119, 114, 105, 116, 101]⟩), (.str ⟨#[120]⟩), (.str ⟨#[122]⟩)])]), (.tup [(.tup [(.str ⟨#[119, 114, 105, 116, 101]⟩), (.str ⟨#[120]⟩), (.str ⟨#[122]⟩)]), (.tup [(.str ⟨#[119, 114, 105, 116, 101]⟩), (.str ⟨#[121]⟩), (.str ⟨#[122]⟩)])]), (.tup [(.str ⟨#[120]⟩), (.str ⟨#[121]⟩), (.str ⟨#[122]⟩)])], (.tup [(.str ⟨#[97, 108, 105, 107, 101]⟩), (.int 4)])⟩
theorem t0_15 : e0_15.ok = true := by decide +kernel
def e0_16 : Ent := ⟨55, [(.tup [(.tup []), (.tup []), (.tup [(.tup [(.str ⟨#[99, 101, 108, 108]⟩), (.str ⟨#[120]⟩), (.str ⟨#[110, 105, 108]⟩)]), (.tup [(.str ⟨#[99, 101, 108, 108]⟩), (.str ⟨#[121]⟩), (.str ⟨#[110, 105, 108]⟩)])])]), (.tup [(.tup [(.str ⟨#[114, 101, 97, 100]⟩), (.str ⟨#[122]⟩), (.str ⟨#[120]⟩)])]), (.tup [(.tup [(.str ⟨#[114, 101, 97, 100]⟩), (.str ⟨#[122]⟩), (.str ⟨#[121]⟩)])]), (.tup [(.str ⟨#[120]⟩), (.str ⟨#[121]⟩), (.str ⟨#[122]⟩)])], (.tup [(.str ⟨#[97, 108, 105, 107, 101]⟩), (.int 4)])⟩
theorem t0_16 : e0_16.ok = true := by decide +kernel
def e0_17 : Ent := ⟨55, [(.tup [(.tup []), (.tup []), (.tup [(.tup [(.str ⟨#[99, 101, 108, 108]⟩), (.str ⟨#[120]⟩), (.str ⟨#[110, 105, 108]⟩)]), (.tup [(.str ⟨#[99, 101, 108, 108]⟩), (.str ⟨#[121]⟩), (.str ⟨#[110, 105, 108]⟩)])])]), (.tup [(.tup [(.str ⟨#[114, 101, 97, 100]⟩), (.str ⟨#[122]⟩), (.str ⟨#[121]⟩)])]), (.tup [(.tup [(.str ⟨#[114, 101, 97, 100]⟩), (.str ⟨#[122]⟩), (.str ⟨#[120]⟩)])]), (.tup [(.str ⟨#[120]⟩), (.str ⟨#[121]⟩), (.str ⟨#[122]⟩)])], (.tup [(.str ⟨#[97, 108, 105, 107, 101]⟩), (.int 4)])⟩
theorem t0_17 : e0_17.ok = true := by decide +kernel
def e0_18 : Ent := ⟨55, [(.tup [(.tup []), (.tup [(.tup [(.str ⟨#[110, 105, 108]⟩), (.str ⟨#[120]⟩)])]), (.tup [(.tup [(.str ⟨#[99, 104, 97, 105, 110]⟩), (.str ⟨#[120]⟩), (.str ⟨#[110, 105, 108]⟩)])])]), (.tup [(.tup [(.str ⟨#[114, 101, 97, 100]⟩), (.str ⟨#[121]⟩), (.str ⟨#[120]⟩)]), (.tup [(.str ⟨#[108, 101, 116]⟩), (.str ⟨#[122]⟩), (.str ⟨#[121]⟩)])]), (.tup [(.tup [(.str ⟨#[114, 101, 97, 100]⟩), (.str ⟨#[122]⟩), (.str ⟨#[120]⟩)]), (.tup [(.str ⟨#[108, 101, 116]⟩), (.str ⟨#[121]⟩), (.str ⟨#[122]⟩)])]), (.tup [(.str ⟨#[120]⟩), (.str ⟨#[121]⟩), (.str ⟨#[122]⟩)])], (.tup [(.str ⟨#[97, 108, 105, 107, 101]⟩), (.int 27)])⟩
theorem t0_18 : e0_18.ok = true := by decide +kernel
def e0_19 : Ent := ⟨55, [(.tup [(.tup []), (.tup [(.tup [(.str ⟨#[110, 105, 108]⟩), (.str ⟨#[120]⟩)])]), (.tup [(.tup [(.str ⟨#[99, 104, 97, 105, 110]⟩), (.str ⟨#[120]⟩), (.str ⟨#[110, 105, 108]⟩)])])]), (.tup [(.tup [(.str ⟨#[114, 101, 97, 100]⟩), (.str ⟨#[122]⟩), (.str ⟨#[120]⟩)]), (.tup [(.str ⟨#[108, 101, 116]⟩), (.str ⟨#[121]⟩), (.str ⟨#[122]⟩)])]), (.tup [(.tup [(.str ⟨#[114, 101, 97, 100]⟩), (.str ⟨#[121]⟩), (.str ⟨#[120]⟩)]), (.tup [(.str ⟨#[108, 101, 116]⟩), (.str ⟨#[122]⟩), (.str ⟨#[121]⟩)])]), (.tup [(.str ⟨#[120]⟩), (.str ⟨#[121]⟩), (.str ⟨#[122]⟩)])], (.tup [(.str ⟨#[97, 108, 105, 107, 101]⟩), (.int 27)])⟩
theorem t0_19 : e0_19.ok = true := by decide +kernel
def e0_20 : Ent := ⟨55, [(.tup [(.tup []), (.tup [(.tup [(.str ⟨#[110, 105, 108]⟩), (.str ⟨#[120]⟩)])]), (.tup [(.tup [(.str ⟨#[99, 104, 97, 105, 110]⟩), (.str ⟨#[120]⟩), (.str ⟨#[110, 105, 108]⟩)])])]), (.tup [(.tup [(.str ⟨#[114, 101, 97, 100]⟩), (.str ⟨#[121]⟩), (.str ⟨#[120]⟩)]), (.tup [(.str ⟨#[114, 101, 97, 100]⟩), (.str ⟨#[121]⟩), (.str ⟨#[121]⟩)])]), (.tup [(.tup [(.str ⟨#[114, 101, 97, 100]⟩), (.str ⟨#[121]⟩), (.str ⟨#[120]⟩)])]), (.tup [(.str ⟨#[120]⟩), (.str ⟨#[121]⟩), (.str ⟨#[122]⟩)])], (.tup [(.str ⟨#[97, 112, 97, 114, 116]⟩), (.tup [(.tup [(.tup [(.str ⟨#[120]⟩), (.int 1)]), (.tup [(.str ⟨#[121]⟩), (.int 0)]), (.tup [(.str ⟨#[122]⟩), (.int 0)])]), (.tup [(.tup [(.int 1), (.int 0)])])])])⟩
theorem t0_20 : e0_20.ok = true := by decide +kernel
def e0_21 : Ent := ⟨55, [(.tup [(.tup []), (.tup [(.tup [(.str ⟨#[110, 105, 108]⟩), (.str ⟨#[120]⟩)])]), (.tup [(.tup [(.str ⟨#[99, 104, 97, 105, 110]⟩), (.str ⟨#[120]⟩), (.str ⟨#[110, 105, 108]⟩)])])]), (.tup [(.tup [(.str ⟨#[114, 101, 97, 100]⟩), (.str ⟨#[121]⟩), (.str ⟨#[120]⟩)])]), (.tup [(.tup [(.str ⟨#[114, 101, 97, 100]⟩), (.str ⟨#[121]⟩), (.str ⟨#[120]⟩)]), (.tup [(.str ⟨#[114, 101, 97, 100]⟩), (.str ⟨#[121]⟩), (.str ⟨#[121]⟩)])]), (.tup [(.str ⟨#[120]⟩), (.str ⟨#[121]⟩), (.str ⟨#[122]⟩)])], (.tup [(.str ⟨#[97, 112, 97, 114, 116]⟩), (.tup [(.tup [(.tup [(.str ⟨#[120]⟩), (.int 1)]), (.tup [(.str ⟨#[121]⟩), (.int 0)]), (.tup [(.str ⟨#[122]⟩), (.int 0)])]), (.tup [(.tup [(.int 1), (.int 0)])])])])⟩
theorem t0_21 : e0_21.ok = true := by decide +kernel
def e0_22 : Ent := ⟨55, [(.tup [(.tup []), (.tup []), (.tup [])]), (.tup [(.tup [(.str ⟨#[105, 102]⟩), (.tup [(.str ⟨#[115, 97, 109, 101]⟩), (.str ⟨#[120]⟩), (.str ⟨#[121]⟩)]), (.tup [(.tup [(.str ⟨#[108, 101, 116]⟩), (.str ⟨#[120]⟩), (.str ⟨#[121]⟩)])]), (.tup [])])]), (.tup []), (.tup [(.str ⟨#[120]⟩), (.str ⟨#[121]⟩), (.str ⟨#[122]⟩)])], (.tup [(.str ⟨#[97, 108, 105, 107, 101]⟩), (.int 15)])⟩
theorem t0_22 : e0_22.ok = true := by decide +kernel
def e0_23 : Ent := ⟨55, [(.tup [(.tup []), (.tup []), (.tup [])]), (.tup []), (.tup [(.tup [(.str ⟨#[105, 102]⟩), (.tup [(.str ⟨#[115, 97, 109, 101]⟩), (.str ⟨#[120]⟩), (.str ⟨#[121]⟩)]), (.tup [(.tup [(.str ⟨#[108, 101, 116]⟩), (.str ⟨#[120]⟩), (.str ⟨#[121]⟩)])]), (.tup [])])]), (.tup [(.str ⟨#[120]⟩), (.str ⟨#[121]⟩), (.str ⟨#[122]⟩)])], (.tup [(.str ⟨#[97, 108, 105, 107, 101]⟩), (.int 15)])⟩
theorem t0_23 : e0_23.ok = true := by decide +kernel
def e0_24 : Ent := ⟨55, [(.tup [(.tup []), (.tup []), (.tup [])]), (.tup [(.tup [(.str ⟨#[105, 102]⟩), (.tup [(.str ⟨#[111, 116, 104, 101, 114]⟩), (.str ⟨#[120]⟩), (.str ⟨#[121]⟩)]), (.tup [(.tup [(.str ⟨#[108, 101, 116]⟩), (.str ⟨#[120]⟩), (.str ⟨#[121]⟩)])]), (.tup [])])]), (.tup [(.tup [(.str ⟨#[108, 101, 116]⟩), (.str ⟨#[120]⟩), (.str ⟨#[121]⟩)])]), (.tup [(.str ⟨#[120]⟩), (.str ⟨#[121]⟩), (.str ⟨#[122]⟩)])], (.tup [(.str ⟨#[97, 108, 105, 107, 101]⟩), (.int 15)])⟩
theorem t0_24 : e0_24.ok = true := by decide +kernel
def e0_25 : Ent := ⟨55, [(.tup [(.tup []), (.tup []), (.tup [])]), (.tup [(.tup [(.str ⟨#[108, 101, 116]⟩), (.str ⟨#[120]⟩), (.str ⟨#[121]⟩)])]), (.tup [(.tup [(.str ⟨#[105, 102]⟩), (.tup [(.str ⟨#[111, 116, 104, 101, 114]⟩), (.str ⟨#[120]⟩), (.str ⟨#[121]⟩)]), (.tup [(.tup [(.str ⟨#[108, 101, 116]⟩), (.str ⟨#[120]⟩), (.str ⟨#[121]⟩)])]), (.tup [])])]), (.tup [(.str ⟨#[120]⟩), (.str ⟨#[121]⟩), (.str ⟨#[122]⟩)])], (.tup [(.str ⟨#[97, 108, 105, 107, 101]⟩), (.int 15)])⟩
theorem t0_25 : e0_25.ok = true := by decide +kernel
def e0_26 : Ent := ⟨55, [(.tup [(.tup []), (.tup []), (.tup [(.tup [(.str ⟨#[99, 101, 108, 108]⟩), (.str ⟨#[120]⟩), (.str ⟨#[121]⟩)]), (.tup [(.str ⟨#[99, 101, 108, 108]⟩), (.str ⟨#[120]⟩), (.str ⟨#[122]⟩)])])]), (.tup [(.tup [(.str ⟨#[102, 114, 101, 101]⟩), (.str ⟨#[121]⟩)])]), (.tup []), (.tup [(.str ⟨#[120]⟩), (.str ⟨#[121]⟩), (.str ⟨#[122]⟩)])], (.tup [(.str ⟨#[97, 108, 105, 107, 101]⟩), (.int 0)])⟩
theorem t0_26 : e0_26.ok = true := by decide +kernel
def e0_27 : Ent := ⟨56, [(.tup [(.tup []), (.tup []), (.tup [(.tup [(.str ⟨#[99, 101, 108, 108]⟩), (.str ⟨#[120]⟩), (.str ⟨#[110, 105, 108]⟩)])])]), (.tup [(.tup [(.str ⟨#[119, 114, 105, 116, 101]⟩), (.str ⟨#[120]⟩), (.str ⟨#[121]⟩)]), (.tup [(.str ⟨#[108, 101, 116]⟩), (.str ⟨#[121]⟩), (.str ⟨#[121]⟩)]), (.tup [(.str ⟨#[119, 114, 105, 116, 101]⟩), (.str ⟨#[120]⟩), (.str ⟨#[122]⟩)])]), (.tup [(.str ⟨#[120]⟩), (.str ⟨#[121]⟩), (.str ⟨#[122]⟩)])], (.tup [(.int 0), (.int 1)])⟩
theorem t0_27 : e0_27.ok = true := by decide +kernel
def e0_28 : Ent := ⟨56, [(.tup [(.tup []), (.tup []), (.tup [])]), (.tup [(.tup [(.str ⟨#[108, 101, 116]⟩), (.str ⟨#[120]⟩), (.str ⟨#[110, 105, 108]⟩)]), (.tup [(.str ⟨#[108, 101, 116]⟩), (.str ⟨#[120]⟩), (.str ⟨#[121]⟩)])]), (.tup [(.str ⟨#[120]⟩), (.str ⟨#[121]⟩), (.str ⟨#[122]⟩)])], (.tup [(.int 0)])⟩
theorem t0_28 : e0_28.ok = true := by decide +kernel
def tb0 : List Ent := [e0_0, e0_1, e0_2, e0_3, e0_4, e0_5, e0_6, e0_7, e0_8, e0_9, e0_10, e0_11, e0_12, e0_13, e0_14, e0_15, e0_16, e0_17, e0_18, e0_19, e0_20, e0_21, e0_22, e0_23, e0_24, e0_25, e0_26, e0_27, e0_28]
theorem tb0_ok : ∀ e ∈ tb0, e.ok = true := by
  intro e he
  simp only [tb0, List.mem_cons, List.not_mem_nil, or_false] at he
  rcases he with rfl | rfl | rfl | rfl | rfl | rfl | rfl | rfl | rfl | rfl | rfl | rfl | rfl | rfl | rfl | rfl | rfl | rfl | rfl | rfl | rfl | rfl | rfl | rfl | rfl | rfl | rfl | rfl | rfl
  · exact t0_0
  · exact t0_1
  · exact t0_2
  · exact t0_3
  · exact t0_4
  · exact t0_5
  · exact t0_6
  · exact t0_7
  · exact t0_8
  · exact t0_9
  · exact t0_10
  · exact t0_11
  · exact t0_12
  · exact t0_13
  · exact t0_14
  · exact t0_15
  · exact t0_16
  · exact t0_17
  · exact t0_18
  · exact t0_19
  · exact t0_20
  · exact t0_21
  · exact t0_22
  · exact t0_23
  · exact t0_24
  · exact t0_25
  · exact t0_26
  · exact t0_27
  · exact t0_28
end G
end

set_option Elab.async false
set_option linter.all false
set_option maxRecDepth 100000
set_option maxHeartbeats 0
set_option autoImplicit false
noncomputable section
namespace G
open PySem Ev
def e1_0 : Ent := ⟨55, [(.tup [(.tup []), (.tup []), (.tup [])]), (.tup [(.tup [(.str ⟨#[108, 101, 116]⟩), (.str ⟨#[122]⟩), (.str ⟨#[120]⟩)]), (.tup [(.str ⟨#[108, 101, 116]⟩), (.str ⟨#[121]⟩), (.str ⟨#[110, 105, 108]⟩)])]), (.tup [(.tup [(.str ⟨#[108, 101, 116]⟩), (.str ⟨#[121]⟩), (.str ⟨#[110, 105, 108]⟩)]), (.tup [(.str ⟨#[108, 101, 116]⟩), (.str ⟨#[122]⟩), (.str ⟨#[120]⟩)])]), (.tup [(.str ⟨#[120]⟩), (.str ⟨#[121]⟩), (.str ⟨#[122]⟩)])], (.tup [(.str ⟨#[97, 108, 105, 107, 101]⟩), (.int 15)])⟩
theorem t1_0 : e1_0.ok = true := by decide +kernel
def e1_1 : Ent := ⟨55, [(.tup [(.tup []), (.tup []), (.tup [])]), (.tup [(.tup [(.str ⟨#[108, 101, 116]⟩), (.str ⟨#[121]⟩), (.str ⟨#[110, 105, 108]⟩)]), (.tup [(.str ⟨#[108, 101, 116]⟩), (.str ⟨#[122]⟩), (.str ⟨#[120]⟩)])]), (.tup [(.tup [(.str ⟨#[108, 101, 116]⟩), (.str ⟨#[122]⟩), (.str ⟨#[120]⟩)]), (.tup [(.str ⟨#[108, 101, 116]⟩), (.str ⟨#[121]⟩), (.str ⟨#[110, 105, 108]⟩)])]), (.tup [(.str ⟨#[120]⟩), (.str ⟨#[121]⟩), (.str ⟨#[122]⟩)])], (.tup [(.str ⟨#[97, 108, 105, 107, 101]⟩), (.int 15)])⟩
theorem t1_1 : e1_1.ok = true := by decide +kernel
def e1_2 : Ent := ⟨55, [(.tup [(.tup []), (.tup []), (.tup [])]), (.tup [(.tup [(.str ⟨#[108, 101, 116]⟩), (.str ⟨#[122]⟩), (.str ⟨#[120]⟩)])]), (.tup [(.tup [(.str ⟨#[108, 101, 116]⟩), (.str ⟨#[120]⟩), (.str ⟨#[122]⟩)])]), (.tup [(.str ⟨#[120]⟩), (.str ⟨#[121]⟩), (.str ⟨#[122]⟩)])], (.tup [(.str ⟨#[97, 112, 97, 114, 116]⟩), (.tup [(.tup [(.tup [(.str ⟨#[120]⟩), (.int 0)]), (.tup [(.str ⟨#[121]⟩), (.int 0)]), (.tup [(.str ⟨#[122]⟩), (.int 1)])]), (.tup [])])])⟩
theorem t1_2 : e1_2.ok = true := by decide +kernel
def e1_3 : Ent := ⟨55, [(.tup [(.tup []), (.tup []), (.tup [])]), (.tup [(.tup [(.str ⟨#[108, 101, 116]⟩), (.str ⟨#[120]⟩), (.str ⟨#[122]⟩)])]), (.tup [(.tup [(.str ⟨#[108, 101, 116]⟩), (.str ⟨#[122]⟩), (.str ⟨#[120]⟩)])]), (.tup [(.str ⟨#[120]⟩), (.str ⟨#[121]⟩), (.str ⟨#[122]⟩)])], (.tup [(.str ⟨#[97, 112, 97, 114, 116]⟩), (.tup [(.tup [(.tup [(.str ⟨#[120]⟩), (.int 0)]), (.tup [(.str ⟨#[121]⟩), (.int 0)]), (.tup [(.str ⟨#[122]⟩), (.int 1)])]), (.tup [])])])⟩
theorem t1_3 : e1_3.ok = true := by decide +kernel
def e1_4 : Ent := ⟨55, [(.tup [(.tup []), (.tup []), (.tup [(.tup [(.str ⟨#[99, 101, 108, 108]⟩), (.str ⟨#[122]⟩), (.str ⟨#[110, 105, 108]⟩)])])]), (.tup [(.tup [(.str ⟨#[119, 114, 105, 116, 101]⟩), (.str ⟨#[122]⟩), (.str ⟨#[120]⟩)]), (.tup [(.str ⟨#[119, 114, 105, 116, 101]⟩), (.str ⟨#[122]⟩), (.str ⟨#[121]⟩)])]), (.tup [(.tup [(.str ⟨#[119, 114, 105, 116, 101]⟩), (.str ⟨#[122]⟩), (.str ⟨#[121]⟩)])]), (.tup [(.str ⟨#[120]⟩), (.str ⟨#[121]⟩), (.str ⟨#[122]⟩)])], (.tup [(.str ⟨#[97, 108, 105, 107, 101]⟩), (.int 10)])⟩
theorem t1_4 : e1_4.ok = true := by decide +kernel
def e1_5 : Ent := ⟨55, [(.tup [(.tup []), (.tup []), (.tup [(.tup [(.str ⟨#[99, 101, 108, 108]⟩), (.str ⟨#[122]⟩), (.str ⟨#[110, 105, 108]⟩)])])]), (.tup [(.tup [(.str ⟨#[119, 114, 105, 116, 101]⟩), (.str ⟨#[122]⟩), (.str ⟨#[121]⟩)])]), (.tup [(.tup [(.str ⟨#[119, 114, 105, 116, 101]⟩), (.str ⟨#[122]⟩), (.str ⟨#[120]⟩)]), (.tup [(.str ⟨#[119, 114, 105, 116, 101]⟩), (.str ⟨#[122]⟩), (.str ⟨#[121]⟩)])]), (.tup [(.str ⟨#[120]⟩), (.str ⟨#[121]⟩), (.str ⟨#[122]⟩)])], (.tup [(.str ⟨#[97, 108, 105, 107, 101]⟩), (.int 10)])⟩
theorem t1_5 : e1_5.ok = true := by decide +kernel
def e1_6 : Ent := ⟨55, [(.tup [(.tup []), (.tup []), (.tup [(.tup [(.str ⟨#[99, 101, 108, 108]⟩), (.str ⟨#[122]⟩), (.str ⟨#[110, 105, 108]⟩)])])]), (.tup [(.tup [(.str ⟨#[119, 114, 105, 116, 101]⟩), (.str ⟨#[122]⟩), (.str ⟨#[120]⟩)]), (.tup [(.str ⟨#[114, 101, 97, 100]⟩), (.str ⟨#[121]⟩), (.str ⟨#[122]⟩)])]), (.tup [(.tup [(.str ⟨#[119, 114, 105, 116, 101]⟩), (.str ⟨#[122]⟩), (.str ⟨#[120]⟩)]), (.tup [(.str ⟨#[108, 101, 116]⟩), (.str ⟨#[121]⟩), (.str ⟨#[120]⟩)])]), (.tup [(.str ⟨#[120]⟩), (.str ⟨#[121]⟩), (.str ⟨#[122]⟩)])], (.tup [(.str ⟨#[97, 108, 105, 107, 101]⟩), (.int 10)])⟩
theorem t1_6 : e1_6.ok = true := by decide +kernel
def e1_7 : Ent := ⟨55, [(.tup [(.tup []), (.tup []), (.tup [(.tup [(.str ⟨#[99, 101, 108, 108]⟩), (.str ⟨#[122]⟩), (.str ⟨#[110, 105, 108]⟩)])])]), (.tup [(.tup [(.str ⟨#[119, 114, 105, 116, 101]⟩), (.str ⟨#[122]⟩), (.str ⟨#[120]⟩)]), (.tup [(.str ⟨#[108, 101, 116]⟩), (.str ⟨#[121]⟩), (.str ⟨#[120]⟩)])]), (.tup [(.tup [(.str ⟨#[119, 114, 105, 116, 101]⟩), (.str ⟨#[122]⟩), (.str ⟨#[120]⟩)]), (.tup [(.str ⟨#[114, 101, 97, 100]⟩), (.str ⟨#[121]⟩), (.str ⟨#[122]⟩)])]), (.tup [(.str ⟨#[120]⟩), (.str ⟨#[121]⟩), (.str ⟨#[122]⟩)])], (.tup [(.str ⟨#[97, 108, 105, 107, 101]⟩), (.int 10)])⟩
theorem t1_7 : e1_7.ok = true := by decide +kernel
def e1_8 : Ent := ⟨55, [(.tup [(.tup []), (.tup []), (.tup [])]), (.tup [(.tup [(.str ⟨#[119, 114, 105, 116, 101]⟩), (.str ⟨#[122]⟩), (.str ⟨#[120]⟩)])]), (.tup []), (.tup [(.str ⟨#[120]⟩), (.str ⟨#[121]⟩), (.str ⟨#[122]⟩)])], (.tup [(.str ⟨#[97, 112, 97, 114, 116]⟩), (.tup [(.tup [(.tup [(.str ⟨#[120]⟩), (.int 0)]), (.tup [(.str ⟨#[121]⟩), (.int 0)]), (.tup [(.str ⟨#[122]⟩), (.int 0)])]), (.tup [])])])⟩
theorem t1_8 : e1_8.ok = true := by decide +kernel
def e1_9 : Ent := ⟨55, [(.tup [(.tup []), (.tup []), (.tup [])]), (.tup []), (.tup [(.tup [(.str ⟨#[119, 114, 105, 116, 101]⟩), (.str ⟨#[122]⟩), (.str ⟨#[120]⟩)])]), (.tup [(.str ⟨#[120]⟩), (.str ⟨#[121]⟩), (.str ⟨#[122]⟩)])], (.tup [(.str ⟨#[97, 112, 97, 114, 116]⟩), (.tup [(.tup [(.tup [(.str ⟨#[120]⟩), (.int 0)]), (.tup [(.str ⟨#[121]⟩), (.int 0)]), (.tup [(.str ⟨#[122]⟩), (.int 0)])]), (.tup [])])])⟩
theorem t1_9 : e1_9.ok = true := by decide +kernel
def e1_10 : Ent := ⟨55, [(.tup [(.tup []), (.tup []), (.tup [])]), (.tup [(.tup [(.str ⟨#[102, 114, 101, 101]⟩), (.str ⟨#[122]⟩)])]), (.tup [(.tup [(.str ⟨#[114, 101, 97, 100]⟩), (.str ⟨#[120]⟩), (.str ⟨#[122]⟩)])]), (.tup [(.str ⟨#[120]⟩), (.str ⟨#[121]⟩), (.str ⟨#[122]⟩)])], (.tup [(.str ⟨#[97, 108, 105, 107, 101]⟩), (.int 15)])⟩
theorem t1_10 : e1_10.ok = true := by decide +kernel
def e1_11 : Ent := ⟨55, [(.tup [(.tup []), (.tup []), (.tup [])]), (.tup [(.tup [(.str ⟨#[114, 101, 97, 100]⟩), (.str ⟨#[120]⟩), (.str ⟨#[122]⟩)])]), (.tup [(.tup [(.str ⟨#[102, 114, 101, 101]⟩), (.str ⟨#[122]⟩)])]), (.tup [(.str ⟨#[120]⟩), (.str ⟨#[121]⟩), (.str ⟨#[122]⟩)])], (.tup [(.str ⟨#[97, 108, 105, 107, 101]⟩), (.int 15)])⟩
theorem t1_11 : e1_11.ok = true := by decide +kernel
def e1_12 : Ent := ⟨55, [(.tup [(.tup []), (.tup []), (.tup [(.tup [(.str ⟨#[99, 101, 108, 108]⟩), (.str ⟨#[122]⟩), (.str ⟨#[110, 105, 108]⟩)])])]), (.tup [(.tup [(.str ⟨#[102, 114, 101, 101]⟩), (.str ⟨#[122]⟩)]), (.tup [(.str ⟨#[102, 114, 101, 101]⟩), (.str ⟨#[122]⟩)])]), (.tup [(.tup [(.str ⟨#[102, 114, 101, 101]⟩), (.str ⟨#[122]⟩)]), (.tup [(.str ⟨#[114, 101, 97, 100]⟩), (.str ⟨#[120]⟩), (.str ⟨#[122]⟩)])]), (.tup [(.str ⟨#[120]⟩), (.str ⟨#[121]⟩), (.str ⟨#[122]⟩)])], (.tup [(.str ⟨#[97, 108, 105, 107, 101]⟩), (.int 10)])⟩
theorem t1_12 : e1_12.ok = true := by decide +kernel
def e1_13 : Ent := ⟨55, [(.tup [(.tup []), (.tup []), (.tup [(.tup [(.str ⟨#[99, 101, 108, 108]⟩), (.str ⟨#[122]⟩), (.str ⟨#[110, 105, 108]⟩)])])]), (.tup [(.tup [(.str ⟨#[102, 114, 101, 101]⟩), (.str ⟨#[122]⟩)]), (.tup [(.str ⟨#[114, 101, 97, 100]⟩), (.str ⟨#[120]⟩), (.str ⟨#[122]⟩)])]), (.tup [(.tup [(.str ⟨#[102, 114, 101, 101]⟩), (.str ⟨#[122]⟩)]), (.tup [(.str ⟨#[102, 114, 101, 101]⟩), (.str ⟨#[122]⟩)])]), (.tup [(.str ⟨#[120]⟩), (.str ⟨#[121]⟩), (.str ⟨#[122]⟩)])], (.tup [(.str ⟨#[97, 108, 105, 107, 101]⟩), (.int 10)])⟩
theorem t1_13 : e1_13.ok = true := by decide +kernel
def e1_14 : Ent := ⟨55, [(.tup [(.tup []), (.tup []), (.tup [(.tup [(.str ⟨#[99, 101, 108, 108]⟩), (.str ⟨#[120]⟩), (.str ⟨#[110, 105, 108]⟩)]), (.tup [(.str ⟨#[99, 101, 108, 108]⟩), (.str ⟨#[122]⟩), (.str ⟨#[110, 105, 108]⟩)])])]), (.tup [(.tup [(.str ⟨#[119, 114, 105, 116, 101]⟩), (.str ⟨#[122]⟩), (.str ⟨#[121]⟩)]), (.tup [(.str ⟨#[119, 114, 105, 116, 101]⟩), (.str ⟨#[120]⟩), (.str ⟨#[121]⟩)])]), (.tup [(.tup [(.str ⟨#[119, 114, 105, 116, 101]⟩), (.str ⟨#[120]⟩), (.str ⟨#[121]⟩)]), (.tup [(.str ⟨#[119, 114, 105, 116, 101]⟩), (.str ⟨#[122]⟩), (.str ⟨#[121]⟩)])]), (.tup [(.str ⟨#[120]⟩), (.str ⟨#[121]⟩), (.str ⟨#[122]⟩)])], (.tup [(.str ⟨#[97, 108, 105, 107, 101]⟩), (.int 4)])⟩
theorem t1_14 : e1_14.ok = true := by decide +kernel
def e1_15 : Ent := ⟨55, [(.tup [(.tup []), (.tup []), (.tup [(.tup [(.str ⟨#[99, 101, 108, 108]⟩), (.str ⟨#[120]⟩), (.str ⟨#[110, 105, 108]⟩)]), (.tup [(.str ⟨#[99, 101, 108, 108]⟩), (.str ⟨#[122]⟩), (.str ⟨#[110, 105, 108]⟩)])])]), (.tup [(.tup [(.str ⟨#[119, 114, 105, 116, 101]⟩), (.str ⟨#[120]⟩), (.str ⟨#[121]⟩)]), (.tup [(.str ⟨#[119, 114, 105, 116, 101]⟩), (.str ⟨#[122]⟩), (.str ⟨#[121]⟩)])]), (.tup [(.tup [(.str ⟨#[119, 114, 105, 116, 101]⟩), (.str ⟨#[122]⟩), (.str ⟨#[121]⟩)]), (.tup [(.str ⟨#[119, 114, 105, 116, 101]⟩), (.str ⟨#[120]⟩), (.str ⟨#[121]⟩)])]), (.tup [(.str ⟨#[120]⟩), (.str ⟨#[121]⟩), (.str ⟨#[122]⟩)])], (.tup [(.str ⟨#[97, 108, 105, 107, 101]⟩), (.int 4)])⟩
theorem t1_15 : e1_15.ok = true := by decide +kernel
def e1_16 : Ent := ⟨55, [(.tup [(.tup []), (.tup []), (.tup [(.tup [(.str ⟨#[99, 101, 108, 108]⟩), (.str ⟨#[120]⟩), (.str ⟨#[110, 105, 108]⟩)]), (.tup [(.str ⟨#[99, 101, 108, 108]⟩), (.str ⟨#[122]⟩), (.str ⟨#[110, 105, 108]⟩)])])]), (.tup [(.tup [(.str ⟨#[114, 101, 97, 100]⟩), (.str ⟨#[121]⟩), (.str ⟨#[122]⟩)])]), (.tup [(.tup [(.str ⟨#[114, 101, 97, 100]⟩), (.str ⟨#[121]⟩), (.str ⟨#[120]⟩)])]), (.tup [(.str ⟨#[120]⟩), (.str ⟨#[121]⟩), (.str ⟨#[122]⟩)])], (.tup [(.str ⟨#[97, 108, 105, 107, 101]⟩), (.int 4)])⟩
theorem t1_16 : e1_16.ok = true := by decide +kernel
def e1_17 : Ent := ⟨55, [(.tup [(.tup []), (.tup []), (.tup [(.tup [(.str ⟨#[99, 101, 108, 108]⟩), (.str ⟨#[120]⟩), (.str ⟨#[110, 105, 108]⟩)]), (.tup [(.str ⟨#[99, 101, 108, 108]⟩), (.str ⟨#[122]⟩), (.str ⟨#[110, 105, 108]⟩)])])]), (.tup [(.tup [(.str ⟨#[114, 101, 97, 100]⟩), (.str ⟨#[121]⟩), (.str ⟨#[120]⟩)])]), (.tup [(.tup [(.str ⟨#[114, 101, 97, 100]⟩), (.str ⟨#[121]⟩), (.str ⟨#[122]⟩)])]), (.tup [(.str ⟨#[120]⟩), (.str ⟨#[121]⟩), (.str ⟨#[122]⟩)])], (.tup [(.str ⟨#[97, 108, 105, 107, 101]⟩), (.int 4)])⟩
theorem t1_17 : e1_17.ok = true := by decide +kernel
def e1_18 : Ent := ⟨55, [(.tup [(.tup []), (.tup [(.tup [(.str ⟨#[110, 105, 108]⟩), (.str ⟨#[122]⟩)])]), (.tup [(.tup [(.str ⟨#[99, 104, 97, 105, 110]⟩), (.str ⟨#[122]⟩), (.str ⟨#[110, 105, 108]⟩)])])]), (.tup [(.tup [(.str ⟨#[114, 101, 97, 100]⟩), (.str ⟨#[120]⟩), (.str ⟨#[122]⟩)]), (.tup [(.str ⟨#[108, 101, 116]⟩), (.str ⟨#[121]⟩), (.str ⟨#[120]⟩)])]), (.tup [(.tup [(.str ⟨#[114, 101, 97, 100]⟩), (.str ⟨#[121]⟩), (.str ⟨#[122]⟩)]), (.tup [(.str ⟨#[108, 101, 116]⟩), (.str ⟨#[120]⟩), (.str ⟨#[121]⟩)])]), (.tup [(.str ⟨#[120]⟩), (.str ⟨#[121]⟩), (.str ⟨#[122]⟩)])], (.tup [(.str ⟨#[97, 108, 105, 107, 101]⟩), (.int 27)])⟩
theorem t1_18 : e1_18.ok = true := by decide +kernel
def e1_19 : Ent := ⟨55, [(.tup [(.tup []), (.tup [(.tup [(.str ⟨#[110, 105, 108]⟩), (.str ⟨#[122]⟩)])]), (.tup [(.tup [(.str ⟨#[99, 104, 97, 105, 110]⟩), (.str ⟨#[122]⟩), (.str ⟨#[110, 105, 108]⟩)])])]), (.tup [(.tup [(.str ⟨#[114, 101, 97, 100]⟩), (.str ⟨#[121]⟩), (.str ⟨#[122]⟩)]), (.tup [(.str ⟨#[108, 101, 116]⟩), (.str ⟨#[120]⟩), (.str ⟨#[121]⟩)])]), (.tup [(.tup [(.str ⟨#[114, 101, 97, 100]⟩), (.str ⟨#[120]⟩), (.str ⟨#[122]⟩)]), (.tup [(.str ⟨#[108, 101, 116]⟩), (.str ⟨#[121]⟩), (.str ⟨#[120]⟩)])]), (.tup [(.str ⟨#[120]⟩), (.str ⟨#[121]⟩), (.str ⟨#[122]⟩)])], (.tup [(.str ⟨#[97, 108, 105, 107, 101]⟩), (.int 27)])⟩
theorem t1_19 : e1_19.ok = true := by decide +kernel
def e1_20 : Ent := ⟨55, [(.tup [(.tup []), (.tup [(.tup [(.str ⟨#[110, 105, 108]⟩), (.str ⟨#[122]⟩)])]), (.tup [(.tup [(.str ⟨#[99, 104, 97, 105, 110]⟩), (.str ⟨#[122]⟩), (.str ⟨#[110, 105, 108]⟩)])])]), (.tup [(.tup [(.str ⟨#[114, 101, 97, 100]⟩), (.str ⟨#[120]⟩), (.str ⟨#[122]⟩)]), (.tup [(.str ⟨#[114, 101, 97, 100]⟩), (.str ⟨#[120]⟩), (.str ⟨#[120]⟩)])]), (.tup [(.tup [(.str ⟨#[114, 101, 97, 100]⟩), (.str ⟨#[120]⟩), (.str ⟨#[122]⟩)])]), (.tup [(.str ⟨#[120]⟩), (.str ⟨#[121]⟩), (.str ⟨#[122]⟩)])], (.tup [(.str ⟨#[97, 112, 97, 114, 116]⟩), (.tup [(.tup [(.tup [(.str ⟨#[120]⟩), (.int 0)]), (.tup [(.str ⟨#[121]⟩), (.int 0)]), (.tup [(.str ⟨#[122]⟩), (.int 1)])]), (.tup [(.tup [(.int 1), (.int 0)])])])])⟩
theorem t1_20 : e1_20.ok = true := by decide +kernel
def e1_21 : Ent := ⟨55, [(.tup [(.tup []), (.tup [(.tup [(.str ⟨#[110, 105, 108]⟩), (.str ⟨#[122]⟩)])]), (.tup [(.tup [(.str ⟨#[99, 104, 97, 105, 110]⟩), (.str ⟨#[122]⟩), (.str ⟨#[110, 105, 108]⟩)])])]), (.tup [(.tup [(.str ⟨#[114, 101, 97, 100]⟩), (.str ⟨#[120]⟩), (.str ⟨#[122]⟩)])]), (.tup [(.tup [(.str ⟨#[114, 101, 97, 100]⟩), (.str ⟨#[120]⟩), (.str ⟨#[122]⟩)]), (.tup [(.str ⟨#[114, 101, 97, 100]⟩), (.str ⟨#[120]⟩), (.str ⟨#[120]⟩)])]), (.tup [(.str ⟨#[120]⟩), (.str ⟨#[121]⟩), (.str ⟨#[122]⟩)])], (.tup [(.str ⟨#[97, 112, 97, 114, 116]⟩), (.tup [(.tup [(.tup [(.str ⟨#[120]⟩), (.int 0)]), (.tup [(.str ⟨#[121]⟩), (.int 0)]), (.tup [(.str ⟨#[122]⟩), (.int 1)])]), (.tup [(.tup [(.int 1), (.int 0)])])])])⟩
theorem t1_21 : e1_21.ok = true := by decide +kernel
def e1_22 : Ent := ⟨55, [(.tup [(.tup []), (.tup []), (.tup [])]), (.tup [(.tup [(.str ⟨#[105, 102]⟩), (.tup [(.str ⟨#[115, 97, 109, 101]⟩), (.str ⟨#[122]⟩), (.str ⟨#[120]⟩)]), (.tup [(.tup [(.str ⟨#[108, 101, 116]⟩), (.str ⟨#[122]⟩), (.str ⟨#[120]⟩)])]), (.tup [])])]), (.tup []), (.tup [(.str ⟨#[120]⟩), (.str ⟨#[121]⟩), (.str ⟨#[122]⟩)])], (.tup [(.str ⟨#[97, 108, 105, 107, 101]⟩), (.int 15)])⟩
theorem t1_22 : e1_22.ok = true := by decide +kernel
def e1_23 : Ent := ⟨55, [(.tup [(.tup []), (.tup []), (.tup [])]), (.tup []), (.tup [(.tup [(.str ⟨#[105, 102]⟩), (.tup [(.str ⟨#[115, 97, 109, 101]⟩), (.str ⟨#[122]⟩), (.str ⟨#[120]⟩)]), (.tup [(.tup [(.str ⟨#[108, 101, 116]⟩), (.str ⟨#[122]⟩), (.str ⟨#[120]⟩)])]), (.tup [])])]), (.tup [(.str ⟨#[120]⟩), (.str ⟨#[121]⟩), (.str ⟨#[122]⟩)])], (.tup [(.str ⟨#[97, 108, 105, 107, 101]⟩), (.int 15)])⟩
theorem t1_23 : e1_23.ok = true := by decide +kernel
def e1_24 : Ent := ⟨55, [(.tup [(.tup []), (.tup []), (.tup [])]), (.tup [(.tup [(.str ⟨#[105, 102]⟩), (.tup [(.str ⟨#[111, 116, 104, 101, 114]⟩), (.str ⟨#[122]⟩), (.str ⟨#[120]⟩)]), (.tup [(.tup [(.str ⟨#[108, 101, 116]⟩), (.str ⟨#[122]⟩), (.str ⟨#[120]⟩)])]), (.tup [])])]), (.tup [(.tup [(.str ⟨#[108, 101, 116]⟩), (.str ⟨#[122]⟩), (.str ⟨#[120]⟩)])]), (.tup [(.str ⟨#[120]⟩), (.str ⟨#[121]⟩), (.str ⟨#[122]⟩)])], (.tup [(.str ⟨#[97, 108, 105, 107, 101]⟩), (.int 15)])⟩
theorem t1_24 : e1_24.ok = true := by decide +kernel
def e1_25 : Ent := ⟨55, [(.tup [(.tup []), (.tup []), (.tup [])]), (.tup [(.tup [(.str ⟨#[108, 101, 116]⟩), (.str ⟨#[122]⟩), (.str ⟨#[120]⟩)])]), (.tup [(.tup [(.str ⟨#[105, 102]⟩), (.tup [(.str ⟨#[111, 116, 104, 101, 114]⟩), (.str ⟨#[122]⟩), (.str ⟨#[120]⟩)]), (.tup [(.tup [(.str ⟨#[108, 101, 116]⟩), (.str ⟨#[122]⟩), (.str ⟨#[120]⟩)])]), (.tup [])])]), (.tup [(.str ⟨#[120]⟩), (.str ⟨#[121]⟩), (.str ⟨#[122]⟩)])], (.tup [(.str ⟨#[97, 108, 105, 107, 101]⟩), (.int 15)])⟩
theorem t1_25 : e1_25.ok = true := by decide +kernel
def e1_26 : Ent := ⟨55, [(.tup [(.tup []), (.tup []), (.tup [(.tup [(.str ⟨#[99, 101, 108, 108]⟩), (.str ⟨#[122]⟩), (.str ⟨#[120]⟩)]), (.tup [(.str ⟨#[99, 101, 108, 108]⟩), (.str ⟨#[122]⟩), (.str ⟨#[121]⟩)])])]), (.tup [(.tup [(.str ⟨#[102, 114, 101, 101]⟩), (.str ⟨#[120]⟩)])]), (.tup []), (.tup [(.str ⟨#[120]⟩), (.str ⟨#[121]⟩), (.str ⟨#[122]⟩)])], (.tup [(.str ⟨#[97, 108, 105, 107, 101]⟩), (.int 0)])⟩
theorem t1_26 : e1_26.ok = true := by decide +kernel
def e1_27 : Ent := ⟨56, [(.tup [(.tup []), (.tup []), (.tup [(.tup [(.str ⟨#[99, 101, 108, 108]⟩), (.str ⟨#[122]⟩), (.str ⟨#[110, 105, 108]⟩)])])]), (.tup [(.tup [(.str ⟨#[119, 114, 105, 116, 101]⟩), (.str ⟨#[122]⟩), (.str ⟨#[120]⟩)]), (.tup [(.str ⟨#[108, 101, 116]⟩), (.str ⟨#[120]⟩), (.str ⟨#[120]⟩)]), (.tup [(.str ⟨#[119, 114, 105, 116, 101]⟩), (.str ⟨#[122]⟩), (.str ⟨#[121]⟩)])]), (.tup [(.str ⟨#[120]⟩), (.str ⟨#[121]⟩), (.str ⟨#[122]⟩)])], (.tup [(.int 0), (.int 1)])⟩
theorem t1_27 : e1_27.ok = true := by decide +kernel
def e1_28 : Ent := ⟨56, [(.tup [(.tup []), (.tup []), (.tup [])]), (.tup [(.tup [(.str ⟨#[108, 101, 116]⟩), (.str ⟨#[122]⟩), (.str ⟨#[110, 105, 108]⟩)]), (.tup [(.str ⟨#[108, 101, 116]⟩), (.str ⟨#[122]⟩), (.str ⟨#[120]⟩)])]), (.tup [(.str ⟨#[120]⟩), (.str ⟨#[121]⟩), (.str ⟨#[122]⟩)])], (.tup [(.int 0)])⟩
theorem t1_28 : e1_28.ok = true := by decide +kernel
def tb1 : List Ent := [e1_0, e1_1, e1_2, e1_3, e1_4, e1_5, e1_6, e1_7, e1_8, e1_9, e1_10, e1_11, e1_12, e1_13, e1_14, e1_15, e1_16, e1_17, e1_18, e1_19, e1_20, e1_21, e1_22, e1_23, e1_24, e1_25, e1_26, e1_27, e1_28]
theorem tb1_ok : ∀ e ∈ tb1, e.ok = true := by
  intro e he
  simp only [tb1, List.mem_cons, List.not_mem_nil, or_false] at he
  rcases he with rfl | rfl | rfl | rfl | rfl | rfl | rfl | rfl | rfl | rfl | rfl | rfl | rfl | rfl | rfl | rfl | rfl | rfl | rfl | rfl | rfl | rfl | rfl | rfl | rfl | rfl | rfl | rfl | rfl
  · exact t1_0
  · exact t1_1
  · exact t1_2
  · exact t1_3
  · exact t1_4
  · exact t1_5
  · exact t1_6
  · exact t1_7
  · exact t1_8
  · exact t1_9
  · exact t1_10
  · exact t1_11
  · exact t1_12
  · exact t1_13
  · exact t1_14
  · exact t1_15
  · exact t1_16
  · exact t1_17
  · exact t1_18
  · exact t1_19
  · exact t1_20
  · exact t1_21
  · exact t1_22
  · exact t1_23
  · exact t1_24
  · exact t1_25
  · exact t1_26
  · exact t1_27
  · exact t1_28
end G
end

set_option Elab.async false
set_option linter.all false
set_option maxRecDepth 100000
set_option maxHeartbeats 0
set_option autoImplicit false
noncomputable section
namespace G
open PySem Ev
def e2_0 : Ent := ⟨55, [(.tup [(.tup []), (.tup []), (.tup [])]), (.tup [(.tup [(.str ⟨#[108, 101, 116]⟩), (.str ⟨#[98]⟩), (.str ⟨#[97]⟩)]), (.tup [(.str ⟨#[108, 101, 116]⟩), (.str ⟨#[99]⟩), (.str ⟨#[110, 105, 108]⟩)])]), (.tup [(.tup [(.str ⟨#[108, 101, 116]⟩), (.str ⟨#[99]⟩), (.str ⟨#[110, 105, 108]⟩)]), (.tup [(.str ⟨#[108, 101, 116]⟩), (.str ⟨#[98]⟩), (.str ⟨#[97]⟩)])]), (.tup [(.str ⟨#[97]⟩), (.str ⟨#[98]⟩), (.str ⟨#[99]⟩)])], (.tup [(.str ⟨#[97, 108, 105, 107, 101]⟩), (.int 15)])⟩
theorem t2_0 : e2_0.ok = true := by decide +kernel
def e2_1 : Ent := ⟨55, [(.tup [(.tup []), (.tup []), (.tup [])]), (.tup [(.tup [(.str ⟨#[108, 101, 116]⟩), (.str ⟨#[99]⟩), (.str ⟨#[110, 105, 108]⟩)]), (.tup [(.str ⟨#[108, 101, 116]⟩), (.str ⟨#[98]⟩), (.str ⟨#[97]⟩)])]), (.tup [(.tup [(.str ⟨#[108, 101, 116]⟩), (.str ⟨#[98]⟩), (.str ⟨#[97]⟩)]), (.tup [(.str ⟨#[108, 101, 116]⟩), (.str ⟨#[99]⟩), (.str ⟨#[110, 105, 108]⟩)])]), (.tup [(.str ⟨#[97]⟩), (.str ⟨#[98]⟩), (.str ⟨#[99]⟩)])], (.tup [(.str ⟨#[97, 108, 105, 107, 101]⟩), (.int 15)])⟩
theorem t2_1 : e2_1.ok = true := by decide +kernel
def e2_2 : Ent := ⟨55, [(.tup [(.tup []), (.tup []), (.tup [])]), (.tup [(.tup [(.str ⟨#[108, 101, 116]⟩), (.str ⟨#[98]⟩), (.str ⟨#[97]⟩)])]), (.tup [(.tup [(.str ⟨#[108, 101, 116]⟩), (.str ⟨#[97]⟩), (.str ⟨#[98]⟩)])]), (.tup [(.str ⟨#[97]⟩), (.str ⟨#[98]⟩), (.str ⟨#[99]⟩)])], (.tup [(.str ⟨#[97, 112, 97, 114, 116]⟩), (.tup [(.tup [(.tup [(.str ⟨#[97]⟩), (.int 0)]), (.tup [(.str ⟨#[98]⟩), (.int 1)]), (.tup [(.str ⟨#[99]⟩), (.int 0)])]), (.tup [])])])⟩
theorem t2_2 : e2_2.ok = true := by decide +kernel
def e2_3 : Ent := ⟨55, [(.tup [(.tup []), (.tup []), (.tup [])]), (.tup [(.tup [(.str ⟨#[108, 101, 116]⟩), (.str ⟨#[97]⟩), (.str ⟨#[98]⟩)])]), (.tup [(.tup [(.str ⟨#[108, 101, 116]⟩), (.str ⟨#[98]⟩), (.str ⟨#[97]⟩)])]), (.tup [(.str ⟨#[97]⟩), (.str ⟨#[98]⟩), (.str ⟨#[99]⟩)])], (.tup [(.str ⟨#[97, 112, 97, 114, 116]⟩), (.tup [(.tup [(.tup [(.str ⟨#[97]⟩), (.int 0)]), (.tup [(.str ⟨#[98]⟩), (.int 1)]), (.tup [(.str ⟨#[99]⟩), (.int 0)])]), (.tup [])])])⟩
theorem t2_3 : e2_3.ok = true := by decide +kernel
def e2_4 : Ent := ⟨55, [(.tup [(.tup []), (.tup []), (.tup [(.tup [(.str ⟨#[99, 101, 108, 108]⟩), (.str ⟨#[98]⟩), (.str ⟨#[110, 105, 108]⟩)])])]), (.tup [(.tup [(.str ⟨#[119, 114, 105, 116, 101]⟩), (.str ⟨#[98]⟩), (.str ⟨#[97]⟩)]), (.tup [(.str ⟨#[119, 114, 105, 116, 101]⟩), (.str ⟨#[98]⟩), (.str ⟨#[99]⟩)])]), (.tup [(.tup [(.str ⟨#[119, 114, 105, 116, 101]⟩), (.str ⟨#[98]⟩), (.str ⟨#[99]⟩)])]), (.tup [(.str ⟨#[97]⟩), (.str ⟨#[98]⟩), (.str ⟨#[99]⟩)])], (.tup [(.str ⟨#[97, 108, 105, 107, 101]⟩), (.int 10)])⟩
theorem t2_4 : e2_4.ok = true := by decide +kernel
def e2_5 : Ent := ⟨55, [(.tup [(.tup []), (.tup []), (.tup [(.tup [(.str ⟨#[99, 101, 108, 108]⟩), (.str ⟨#[98]⟩), (.str ⟨#[110, 105, 108]⟩)])])]), (.tup [(.tup [(.str ⟨#[119, 114, 105, 116, 101]⟩), (.str ⟨#[98]⟩), (.str ⟨#[99]⟩)])]), (.tup [(.tup [(.str ⟨#[119, 114, 105, 116, 101]⟩), (.str ⟨#[98]⟩), (.str ⟨#[97]⟩)]), (.tup [(.str ⟨#[119, 114, 105, 116, 101]⟩), (.str ⟨#[98]⟩), (.str ⟨#[99]⟩)])]), (.tup [(.str ⟨#[97]⟩), (.str ⟨#[98]⟩), (.str ⟨#[99]⟩)])], (.tup [(.str ⟨#[97, 108, 105, 107, 101]⟩), (.int 10)])⟩
theorem t2_5 : e2_5.ok = true := by decide +kernel
def e2_6 : Ent := ⟨55, [(.tup [(.tup []), (.tup []), (.tup [(.tup [(.str ⟨#[99, 101, 108, 108]⟩), (.str ⟨#[98]⟩), (.str ⟨#[110, 105, 108]⟩)])])]), (.tup [(.tup [(.str ⟨#[119, 114, 105, 116, 101]⟩), (.str ⟨#[98]⟩), (.str ⟨#[97]⟩)]), (.tup [(.str ⟨#[114, 101, 97, 100]⟩), (.str ⟨#[99]⟩), (.str ⟨#[98]⟩)])]), (.tup [(.tup [(.str ⟨#[119, 114, 105, 116, 101]⟩), (.str ⟨#[98]⟩), (.str ⟨#[97]⟩)]), (.tup [(.str ⟨#[108, 101, 116]⟩), (.str ⟨#[99]⟩), (.str ⟨#[97]⟩)])]), (.tup [(.str ⟨#[97]⟩), (.str ⟨#[98]⟩), (.str ⟨#[99]⟩)])], (.tup [(.str ⟨#[97, 108, 105, 107, 101]⟩), (.int 10)])⟩
theorem t2_6 : e2_6.ok = true := by decide +kernel
def e2_7 : Ent := ⟨55, [(.tup [(.tup []), (.tup []), (.tup [(.tup [(.str ⟨#[99, 101, 108, 108]⟩), (.str ⟨#[98]⟩), (.str ⟨#[110, 105, 108]⟩)])])]), (.tup [(.tup [(.str ⟨#[119, 114, 105, 116, 101]⟩), (.str ⟨#[98]⟩), (.str ⟨#[97]⟩)]), (.tup [(.str ⟨#[108, 101, 116]⟩), (.str ⟨#[99]⟩), (.str ⟨#[97]⟩)])]), (.tup [(.tup [(.str ⟨#[119, 114, 105, 116, 101]⟩), (.str ⟨#[98]⟩), (.str ⟨#[97]⟩)]), (.tup [(.str ⟨#[114, 101, 97, 100]⟩), (.str ⟨#[99]⟩), (.str ⟨#[98]⟩)])]), (.tup [(.str ⟨#[97]⟩), (.str ⟨#[98]⟩), (.str ⟨#[99]⟩)])], (.tup [(.str ⟨#[97, 108, 105, 107, 101]⟩), (.int 10)])⟩
theorem t2_7 : e2_7.ok = true := by decide +kernel
def e2_8 : Ent := ⟨55, [(.tup [(.tup []), (.tup []), (.tup [])]), (.tup [(.tup [(.str ⟨#[119, 114, 105, 116, 101]⟩), (.str ⟨#[98]⟩), (.str ⟨#[97]⟩)])]), (.tup []), (.tup [(.str ⟨#[97]⟩), (.str ⟨#[98]⟩), (.str ⟨#[99]⟩)])], (.tup [(.str ⟨#[97, 112, 97, 114, 116]⟩), (.tup [(.tup [(.tup [(.str ⟨#[97]⟩), (.int 0)]), (.tup [(.str ⟨#[98]⟩), (.int 0)]), (.tup [(.str ⟨#[99]⟩), (.int 0)])]), (.tup [])])])⟩
theorem t2_8 : e2_8.ok = true := by decide +kernel
def e2_9 : Ent := ⟨55, [(.tup [(.tup []), (.tup []), (.tup [])]), (.tup []), (.tup [(.tup [(.str ⟨#[119, 114, 105, 116, 101]⟩), (.str ⟨#[98]⟩), (.str ⟨#[97]⟩)])]), (.tup [(.str ⟨#[97]⟩), (.str ⟨#[98]⟩), (.str ⟨#[99]⟩)])], (.tup [(.str ⟨#[97, 112, 97, 114, 116]⟩), (.tup [(.tup [(.tup [(.str ⟨#[97]⟩), (.int 0)]), (.tup [(.str ⟨#[98]⟩), (.int 0)]), (.tup [(.str ⟨#[99]⟩), (.int 0)])]), (.tup [])])])⟩
theorem t2_9 : e2_9.ok = true := by decide +kernel
def e2_10 : Ent := ⟨55, [(.tup [(.tup []), (.tup []), (.tup [])]), (.tup [(.tup [(.str ⟨#[102, 114, 101, 101]⟩), (.str ⟨#[98]⟩)])]), (.tup [(.tup [(.str ⟨#[114, 101, 97, 100]⟩), (.str ⟨#[97]⟩), (.str ⟨#[98]⟩)])]), (.tup [(.str ⟨#[97]⟩), (.str ⟨#[98]⟩), (.str ⟨#[99]⟩)])], (.tup [(.str ⟨#[97, 108, 105, 107, 101]⟩), (.int 15)])⟩
theorem t2_10 : e2_10.ok = true := by decide +kernel
def e2_11 : Ent := ⟨55, [(.tup [(.tup []), (.tup []), (.tup [])]), (.tup [(.tup [(.str ⟨#[114, 101, 97, 100]⟩), (.str ⟨#[97]⟩), (.str ⟨#[98]⟩)])]), (.tup [(.tup [(.str ⟨#[102, 114, 101, 101]⟩), (.str ⟨#[98]⟩)])]), (.tup [(.str ⟨#[97]⟩), (.str ⟨#[98]⟩), (.str ⟨#[99]⟩)])], (.tup [(.str ⟨#[97, 108, 105, 107, 101]⟩), (.int 15)])⟩
theorem t2_11 : e2_11.ok = true := by decide +kernel
def e2_12 : Ent := ⟨55, [(.tup [(.tup []), (.tup []), (.tup [(.tup [(.str ⟨#[99, 101, 108, 108]⟩), (.str ⟨#[98]⟩), (.str ⟨#[110, 105, 108]⟩)])])]), (.tup [(.tup [(.str ⟨#[102, 114, 101, 101]⟩), (.str ⟨#[98]⟩)]), (.tup [(.str ⟨#[102, 114, 101, 101]⟩), (.str ⟨#[98]⟩)])]), (.tup [(.tup [(.str ⟨#[102, 114, 101, 101]⟩), (.str ⟨#[98]⟩)]), (.tup [(.str ⟨#[114, 101, 97, 100]⟩), (.str ⟨#[97]⟩), (.str ⟨#[98]⟩)])]), (.tup [(.str ⟨#[97]⟩), (.str ⟨#[98]⟩), (.str ⟨#[99]⟩)])], (.tup [(.str ⟨#[97, 108, 105, 107, 101]⟩), (.int 10)])⟩
theorem t2_12 : e2_12.ok = true := by decide +kernel
def e2_13 : Ent := ⟨55, [(.tup [(.tup []), (.tup []), (.tup [(.tup [(.str ⟨#[99, 101, 108, 108]⟩), (.str ⟨#[98]⟩), (.str ⟨#[110, 105, 108]⟩)])])]), (.tup [(.tup [(.str ⟨#[102, 114, 101, 101]⟩), (.str ⟨#[98]⟩)]), (.tup [(.str ⟨#[114, 101, 97, 100]⟩), (.str ⟨#[97]⟩), (.str ⟨#[98]⟩)])]), (.tup [(.tup [(.str ⟨#[102, 114, 101, 101]⟩), (.str ⟨#[98]⟩)]), (.tup [(.str ⟨#[102, 114, 101, 101]⟩), (.str ⟨#[98]⟩)])]), (.tup [(.str ⟨#[97]⟩), (.str ⟨#[98]⟩), (.str ⟨#[99]⟩)])], (.tup [(.str ⟨#[97, 108, 105, 107, 101]⟩), (.int 10)])⟩
theorem t2_13 : e2_13.ok = true := by decide +kernel
def e2_14 : Ent := ⟨55, [(.tup [(.tup []), (.tup []), (.tup [(.tup [(.str ⟨#[99, 101, 108, 108]⟩), (.str ⟨#[97]⟩), (.str ⟨#[110, 105, 108]⟩)]), (.tup [(.str ⟨#[99, 101, 108, 108]⟩), (.str ⟨#[98]⟩), (.str ⟨#[110, 105, 108]⟩)])])]), (.tup [(.tup [(.str ⟨#[119, 114, 105, 116, 101]⟩), (.str ⟨#[98]⟩), (.str ⟨#[99]⟩)]), (.tup [(.str ⟨#[119, 114, 105, 116, 101]⟩), (.str ⟨#[97]⟩), (.str ⟨#[99]⟩)])]), (.tup [(.tup [(.str ⟨#[119, 114, 105, 116, 101]⟩), (.str ⟨#[97]⟩), (.str ⟨#[99]⟩)]), (.tup [(.str ⟨#[119, 114, 105, 116, 101]⟩), (.str ⟨#[98]⟩), (.str ⟨#[99]⟩)])]), (.tup [(.str ⟨#[97]⟩), (.str ⟨#[98]⟩), (.str ⟨#[99]⟩)])], (.tup [(.str ⟨#[97, 108, 105, 107, 101]⟩), (.int 4)])⟩
theorem t2_14 : e2_14.ok = true := by decide +kernel
def e2_15 : Ent := ⟨55, [(.tup [(.tup []), (.tup []), (.tup [(.tup [(.str ⟨#[99, 101, 108, 108]⟩), (.str ⟨#[97]⟩), (.str ⟨#[110, 105, 108]⟩)]), (.tup [(.str ⟨#[99, 101, 108, 108]⟩), (.str ⟨#[98]⟩), (.str ⟨#[110, 105, 108]⟩)])])]), (.tup [(.tup [(.str ⟨#[119, 114, 105, 116, 101]⟩), (.str ⟨#[97]⟩), (.str ⟨#[99]⟩)]), (.tup [(.str ⟨#[119, 114, 105, 116, 101]⟩), (.str ⟨#[98]⟩), (.str ⟨#[99]⟩)])]), (.tup [(.tup [(.str ⟨#[119, 114, 105, 116, 101]⟩), (.str ⟨#[98]⟩), (.str ⟨#[99]⟩)]), (.tup [(.str ⟨#[119, 114, 105, 116, 101]⟩), (.str ⟨#[97]⟩), (.str ⟨#[99]⟩)])]), (.tup [(.str ⟨#[97]⟩), (.str ⟨#[98]⟩), (.str ⟨#[99]⟩)])], (.tup [(.str ⟨#[97, 108, 105, 107, 101]⟩), (.int 4)])⟩
theorem t2_15 : e2_15.ok = true := by decide +kernel
def e2_16 : Ent := ⟨55, [(.tup [(.tup []), (.tup []), (.tup [(.tup [(.str ⟨#[99, 101, 108, 108]⟩), (.str ⟨#[97]⟩), (.str ⟨#[110, 105, 108]⟩)]), (.tup [(.str ⟨#[99, 101, 108, 108]⟩), (.str ⟨#[98]⟩), (.str ⟨#[110, 105, 108]⟩)])])]), (.tup [(.tup [(.str ⟨#[114, 101, 97, 100]⟩), (.str ⟨#[99]⟩), (.str ⟨#[98]⟩)])]), (.tup [(.tup [(.str ⟨#[114, 101, 97, 100]⟩), (.str ⟨#[99]⟩), (.str ⟨#[97]⟩)])]), (.tup [(.str ⟨#[97]⟩), (.str ⟨#[98]⟩), (.str ⟨#[99]⟩)])], (.tup [(.str ⟨#[97, 108, 105, 107, 101]⟩), (.int 4)])⟩
theorem t2_16 : e2_16.ok = true := by decide +kernel
def e2_17 : Ent := ⟨55, [(.tup [(.tup []), (.tup []), (.tup [(.tup [(.str ⟨#[99, 101, 108, 108]⟩), (.str ⟨#[97]⟩), (.str ⟨#[110, 105, 108]⟩)]), (.tup [(.str ⟨#[99, 101, 108, 108]⟩), (.str ⟨#[98]⟩), (.str ⟨#[110, 105, 108]⟩)])])]), (.tup [(.tup [(.str ⟨#[114, 101, 97, 100]⟩), (.str ⟨#[99]⟩), (.str ⟨#[97]⟩)])]), (.tup [(.tup [(.str ⟨#[114, 101, 97, 100]⟩), (.str ⟨#[99]⟩), (.str ⟨#[98]⟩)])]), (.tup [(.str ⟨#[97]⟩), (.str ⟨#[98]⟩), (.str ⟨#[99]⟩)])], (.tup [(.str ⟨#[97, 108, 105, 107, 101]⟩), (.int 4)])⟩
theorem t2_17 : e2_17.ok = true := by decide +kernel
def e2_18 : Ent := ⟨55, [(.tup [(.tup []), (.tup [(.tup [(.str ⟨#[98]⟩), (.str ⟨#[110, 105, 108]⟩)])]), (.tup [(.tup [(.str ⟨#[99, 104, 97, 105, 110]⟩), (.str ⟨#[98]⟩), (.str ⟨#[110, 105, 108]⟩)])])]), (.tup [(.tup [(.str ⟨#[114, 101, 97, 100]⟩), (.str ⟨#[97]⟩), (.str ⟨#[98]⟩)]), (.tup [(.str ⟨#[108, 101, 116]⟩), (.str ⟨#[99]⟩), (.str ⟨#[97]⟩)])]), (.tup [(.tup [(.str ⟨#[114, 101, 97, 100]⟩), (.str ⟨#[99]⟩), (.str ⟨#[98]⟩)]), (.tup [(.str ⟨#[108, 101, 116]⟩), (.str ⟨#[97]⟩), (.str ⟨#[99]⟩)])]), (.tup [(.str ⟨#[97]⟩), (.str ⟨#[98]⟩), (.str ⟨#[99]⟩)])], (.tup [(.str ⟨#[97, 108, 105, 107, 101]⟩), (.int 27)])⟩
theorem t2_18 : e2_18.ok = true := by decide +kernel
def e2_19 : Ent := ⟨55, [(.tup [(.tup []), (.tup [(.tup [(.str ⟨#[98]⟩), (.str ⟨#[110, 105, 108]⟩)])]), (.tup [(.tup [(.str ⟨#[99, 104, 97, 105, 110]⟩), (.str ⟨#[98]⟩), (.str ⟨#[110, 105, 108]⟩)])])]), (.tup [(.tup [(.str ⟨#[114, 101, 97, 100]⟩), (.str ⟨#[99]⟩), (.str ⟨#[98]⟩)]), (.tup [(.str ⟨#[108, 101, 116]⟩), (.str ⟨#[97]⟩), (.str ⟨#[99]⟩)])]), (.tup [(.tup [(.str ⟨#[114, 101, 97, 100]⟩), (.str ⟨#[97]⟩), (.str ⟨#[98]⟩)]), (.tup [(.str ⟨#[108, 101, 116]⟩), (.str ⟨#[99]⟩), (.str ⟨#[97]⟩)])]), (.tup [(.str ⟨#[97]⟩), (.str ⟨#[98]⟩), (.str ⟨#[99]⟩)])], (.tup [(.str ⟨#[97, 108, 105, 107, 101]⟩), (.int 27)])⟩
theorem t2_19 : e2_19.ok = true := by decide +kernel
def e2_20 : Ent := ⟨55, [(.tup [(.tup []), (.tup [(.tup [(.str ⟨#[98]⟩), (.str ⟨#[110, 105, 108]⟩)])]), (.tup [(.tup [(.str ⟨#[99, 104, 97, 105, 110]⟩), (.str ⟨#[98]⟩), (.str ⟨#[110, 105, 108]⟩)])])]), (.tup [(.tup [(.str ⟨#[114, 101, 97, 100]⟩), (.str ⟨#[97]⟩), (.str ⟨#[98]⟩)]), (.tup [(.str ⟨#[114, 101, 97, 100]⟩), (.str ⟨#[97]⟩), (.str ⟨#[97]⟩)])]), (.tup [(.tup [(.str ⟨#[114, 101, 97, 100]⟩), (.str ⟨#[97]⟩), (.str ⟨#[98]⟩)])]), (.tup [(.str ⟨#[97]⟩), (.str ⟨#[98]⟩), (.str ⟨#[99]⟩)])], (.tup [(.str ⟨#[97, 112, 97, 114, 116]⟩), (.tup [(.tup [(.tup [(.str ⟨#[97]⟩), (.int 0)]), (.tup [(.str ⟨#[98]⟩), (.int 1)]), (.tup [(.str ⟨#[99]⟩), (.int 0)])]), (.tup [(.tup [(.int 1), (.int 0)])])])])⟩
theorem t2_20 : e2_20.ok = true := by decide +kernel
def e2_21 : Ent := ⟨55, [(.tup [(.tup []), (.tup [(.tup [(.str ⟨#[98]⟩), (.str ⟨#[110, 105, 108]⟩)])]), (.tup [(.tup [(.str ⟨#[99, 104, 97, 105, 110]⟩), (.str ⟨#[98]⟩), (.str ⟨#[110, 105, 108]⟩)])])]), (.tup [(.tup [(.str ⟨#[114, 101, 97, 100]⟩), (.str ⟨#[97]⟩), (.str ⟨#[98]⟩)])]), (.tup [(.tup [(.str ⟨#[114, 101, 97, 100]⟩), (.str ⟨#[97]⟩), (.str ⟨#[98]⟩)]), (.tup [(.str ⟨#[114, 101, 97, 100]⟩), (.str ⟨#[97]⟩), (.str ⟨#[97]⟩)])]), (.tup [(.str ⟨#[97]⟩), (.str ⟨#[98]⟩), (.str ⟨#[99]⟩)])], (.tup [(.str ⟨#[97, 112, 97, 114, 116]⟩), (.tup [(.tup [(.tup [(.str ⟨#[97]⟩), (.int 0)]), (.tup [(.str ⟨#[98]⟩), (.int 1)]), (.tup [(.str ⟨#[99]⟩), (.int 0)])]), (.tup [(.tup [(.int 1), (.int 0)])])])])⟩
theorem t2_21 : e2_21.ok = true := by decide +kernel
def e2_22 : Ent := ⟨55, [(.tup [(.tup []), (.tup []), (.tup [])]), (.tup [(.tup [(.str ⟨#[105, 102]⟩), (.tup [(.str ⟨#[115, 97, 109, 101]⟩), (.str ⟨#[98]⟩), (.str ⟨#[97]⟩)]), (.tup [(.tup [(.str ⟨#[108, 101, 116]⟩), (.str ⟨#[98]⟩), (.str ⟨#[97]⟩)])]), (.tup [])])]), (.tup []), (.tup [(.str ⟨#[97]⟩), (.str ⟨#[98]⟩), (.str ⟨#[99]⟩)])], (.tup [(.str ⟨#[97, 108, 105, 107, 101]⟩), (.int 15)])⟩
theorem t2_22 : e2_22.ok = true := by decide +kernel
def e2_23 : Ent := ⟨55, [(.tup [(.tup []), (.tup []), (.tup [])]), (.tup []), (.tup [(.tup [(.str ⟨#[105, 102]⟩), (.tup [(.str ⟨#[115, 97, 109, 101]⟩), (.str ⟨#[98]⟩), (.str ⟨#[97]⟩)]), (.tup [(.tup [(.str ⟨#[108, 101, 116]⟩), (.str ⟨#[98]⟩), (.str ⟨#[97]⟩)])]), (.tup [])])]), (.tup [(.str ⟨#[97]⟩), (.str ⟨#[98]⟩), (.str ⟨#[99]⟩)])], (.tup [(.str ⟨#[97, 108, 105, 107, 101]⟩), (.int 15)])⟩
theorem t2_23 : e2_23.ok = true := by decide +kernel
def e2_24 : Ent := ⟨55, [(.tup [(.tup []), (.tup []), (.tup [])]), (.tup [(.tup [(.str ⟨#[105, 102]⟩), (.tup [(.str ⟨#[111, 116, 104, 101, 114]⟩), (.str ⟨#[98]⟩), (.str ⟨#[97]⟩)]), (.tup [(.tup [(.str ⟨#[108, 101, 116]⟩), (.str ⟨#[98]⟩), (.str ⟨#[97]⟩)])]), (.tup [])])]), (.tup [(.tup [(.str ⟨#[108, 101, 116]⟩), (.str ⟨#[98]⟩), (.str ⟨#[97]⟩)])]), (.tup [(.str ⟨#[97]⟩), (.str ⟨#[98]⟩), (.str ⟨#[99]⟩)])], (.tup [(.str ⟨#[97, 108, 105, 107, 101]⟩), (.int 15)])⟩
theorem t2_24 : e2_24.ok = true := by decide +kernel
def e2_25 : Ent := ⟨55, [(.tup [(.tup []), (.tup []), (.tup [])]), (.tup [(.tup [(.str ⟨#[108, 101, 116]⟩), (.str ⟨#[98]⟩), (.str ⟨#[97]⟩)])]), (.tup [(.tup [(.str ⟨#[105, 102]⟩), (.tup [(.str ⟨#[111, 116, 104, 101, 114]⟩), (.str ⟨#[98]⟩), (.str ⟨#[97]⟩)]), (.tup [(.tup [(.str ⟨#[108, 101, 116]⟩), (.str ⟨#[98]⟩), (.str ⟨#[97]⟩)])]), (.tup [])])]), (.tup [(.str ⟨#[97]⟩), (.str ⟨#[98]⟩), (.str ⟨#[99]⟩)])], (.tup [(.str ⟨#[97, 108, 105, 107, 101]⟩), (.int 15)])⟩
theorem t2_25 : e2_25.ok = true := by decide +kernel
def e2_26 : Ent := ⟨55, [(.tup [(.tup []), (.tup []), (.tup [(.tup [(.str ⟨#[99, 101, 108, 108]⟩), (.str ⟨#[98]⟩), (.str ⟨#[97]⟩)]), (.tup [(.str ⟨#[99, 101, 108, 108]⟩), (.str ⟨#[98]⟩), (.str ⟨#[99]⟩)])])]), (.tup [(.tup [(.str ⟨#[102, 114, 101, 101]⟩), (.str ⟨#[97]⟩)])]), (.tup []), (.tup [(.str ⟨#[97]⟩), (.str ⟨#[98]⟩), (.str ⟨#[99]⟩)])], (.tup [(.str ⟨#[97, 108, 105, 107, 101]⟩), (.int 0)])⟩
theorem t2_26 : e2_26.ok = true := by decide +kernel
def e2_27 : Ent := ⟨56, [(.tup [(.tup []), (.tup []), (.tup [(.tup [(.str ⟨#[99, 101, 108, 108]⟩), (.str ⟨#[98]⟩), (.str ⟨#[110, 105, 108]⟩)])])]), (.tup [(.tup [(.str ⟨#[119, 114, 105, 116, 101]⟩), (.str ⟨#[98]⟩), (.str ⟨#[97]⟩)]), (.tup [(.str ⟨#[108, 101, 116]⟩), (.str ⟨#[97]⟩), (.str ⟨#[97]⟩)]), (.tup [(.str ⟨#[119, 114, 105, 116, 101]⟩), (.str ⟨#[98]⟩), (.str ⟨#[99]⟩)])]), (.tup [(.str ⟨#[97]⟩), (.str ⟨#[98]⟩), (.str ⟨#[99]⟩)])], (.tup [(.int 0), (.int 1)])⟩
theorem t2_27 : e2_27.ok = true := by decide +kernel
def e2_28 : Ent := ⟨56, [(.tup [(.tup []), (.tup []), (.tup [])]), (.tup [(.tup [(.str ⟨#[108, 101, 116]⟩), (.str ⟨#[98]⟩), (.str ⟨#[110, 105, 108]⟩)]), (.tup [(.str ⟨#[108, 101, 116]⟩), (.str ⟨#[98]⟩), (.str ⟨#[97]⟩)])]), (.tup [(.str ⟨#[97]⟩), (.str ⟨#[98]⟩), (.str ⟨#[99]⟩)])], (.tup [(.int 0)])⟩
theorem t2_28 : e2_28.ok = true := by decide +kernel
def tb2 : List Ent := [e2_0, e2_1, e2_2, e2_3, e2_4, e2_5, e2_6, e2_7, e2_8, e2_9, e2_10, e2_11, e2_12, e2_13, e2_14, e2_15, e2_16, e2_17, e2_18, e2_19, e2_20, e2_21, e2_22, e2_23, e2_24, e2_25, e2_26, e2_27, e2_28]
theorem tb2_ok : ∀ e ∈ tb2, e.ok = true := by
  intro e he
  simp only [tb2, List.mem_cons, List.not_mem_nil, or_false] at he
  rcases he with rfl | rfl | rfl | rfl | rfl | rfl | rfl | rfl | rfl | rfl | rfl | rfl | rfl | rfl | rfl | rfl | rfl | rfl | rfl | rfl | rfl | rfl | rfl | rfl | rfl | rfl | rfl | rfl | rfl
  · exact t2_0
  · exact t2_1
  · exact t2_2
  · exact t2_3
  · exact t2_4
  · exact t2_5
  · exact t2_6
  · exact t2_7
  · exact t2_8
  · exact t2_9
  · exact t2_10
  · exact t2_11
  · exact t2_12
  · exact t2_13
  · exact t2_14
  · exact t2_15
  · exact t2_16
  · exact t2_17
  · exact t2_18
  · exact t2_19
  · exact t2_20
  · exact t2_21
  · exact t2_22
  · exact t2_23
  · exact t2_24
  · exact t2_25
  · exact t2_26
  · exact t2_27
  · exact t2_28
end G
end

set_option Elab.async false
set_option linter.all false
set_option maxRecDepth 100000
set_option maxHeartbeats 0
set_option autoImplicit false
noncomputable section
namespace G
open PySem Ev
def e3_0 : Ent := ⟨55, [(.tup [(.tup []), (.tup []), (.tup [])]), (.tup [(.tup [(.str ⟨#[108, 101, 116]⟩), (.str ⟨#[113]⟩), (.str ⟨#[114]⟩)]), (.tup [(.str ⟨#[108, 101, 116]⟩), (.str ⟨#[112]⟩), (.str ⟨#[110, 105, 108]⟩)])]), (.tup [(.tup [(.str ⟨#[108, 101, 116]⟩), (.str ⟨#[112]⟩), (.str ⟨#[110, 105, 108]⟩)]), (.tup [(.str ⟨#[108, 101, 116]⟩), (.str ⟨#[113]⟩), (.str ⟨#[114]⟩)])]), (.tup [(.str ⟨#[112]⟩), (.str ⟨#[113]⟩), (.str ⟨#[114]⟩)])], (.tup [(.str ⟨#[97, 108, 105, 107, 101]⟩), (.int 15)])⟩
theorem t3_0 : e3_0.ok = true := by decide +kernel
def e3_1 : Ent := ⟨55, [(.tup [(.tup []), (.tup []), (.tup [])]), (.tup [(.tup [(.str ⟨#[108, 101, 116]⟩), (.str ⟨#[112]⟩), (.str ⟨#[110, 105, 108]⟩)]), (.tup [(.str ⟨#[108, 101, 116]⟩), (.str ⟨#[113]⟩), (.str ⟨#[114]⟩)])]), (.tup [(.tup [(.str ⟨#[108, 101, 116]⟩), (.str ⟨#[113]⟩), (.str ⟨#[114]⟩)]), (.tup [(.str ⟨#[108, 101, 116]⟩), (.str ⟨#[112]⟩), (.str ⟨#[110, 105, 108]⟩)])]), (.tup [(.str ⟨#[112]⟩), (.str ⟨#[113]⟩), (.str ⟨#[114]⟩)])], (.tup [(.str ⟨#[97, 108, 105, 107, 101]⟩), (.int 15)])⟩
theorem t3_1 : e3_1.ok = true := by decide +kernel
def e3_2 : Ent := ⟨55, [(.tup [(.tup []), (.tup []), (.tup [])]), (.tup [(.tup [(.str ⟨#[108, 101, 116]⟩), (.str ⟨#[113]⟩), (.str ⟨#[114]⟩)])]), (.tup [(.tup [(.str ⟨#[108, 101, 116]⟩), (.str ⟨#[114]⟩), (.str ⟨#[113]⟩)])]), (.tup [(.str ⟨#[112]⟩), (.str ⟨#[113]⟩), (.str ⟨#[114]⟩)])], (.tup [(.str ⟨#[97, 112, 97, 114, 116]⟩), (.tup [(.tup [(.tup [(.str ⟨#[112]⟩), (.int 0)]), (.tup [(.str ⟨#[113]⟩), (.int 0)]), (.tup [(.str ⟨#[114]⟩), (.int 1)])]), (.tup [])])])⟩
theorem t3_2 : e3_2.ok = true := by decide +kernel
def e3_3 : Ent := ⟨55, [(.tup [(.tup []), (.tup []), (.tup [])]), (.tup [(.tup [(.str ⟨#[108, 101, 116]⟩), (.str ⟨#[114]⟩), (.str ⟨#[113]⟩)])]), (.tup [(.tup [(.str ⟨#[108, 101, 116]⟩), (.str ⟨#[113]⟩), (.str ⟨#[114]⟩)])]), (.tup [(.str ⟨#[112]⟩), (.str ⟨#[113]⟩), (.str ⟨#[114]⟩)])], (.tup [(.str ⟨#[97, 112, 97, 114, 116]⟩), (.tup [(.tup [(.tup [(.str ⟨#[112]⟩), (.int 0)]), (.tup [(.str ⟨#[113]⟩), (.int 0)]), (.tup [(.str ⟨#[114]⟩), (.int 1)])]), (.tup [])])])⟩
theorem t3_3 : e3_3.ok = true := by decide +kernel
def e3_4 : Ent := ⟨55, [(.tup [(.tup []), (.tup []), (.tup [(.tup [(.str ⟨#[99, 101, 108, 108]⟩), (.str ⟨#[113]⟩), (.str ⟨#[110, 105, 108]⟩)])])]), (.tup [(.tup [(.str ⟨#[119, 114, 105, 116, 101]⟩), (.str ⟨#[113]⟩), (.str ⟨#[114]⟩)]), (.tup [(.str ⟨#[119, 114, 105, 116, 101]⟩), (.str ⟨#[113]⟩), (.str ⟨#[112]⟩)])]), (.tup [(.tup [(.str ⟨#[119, 114, 105, 116, 101]⟩), (.str ⟨#[113]⟩), (.str ⟨#[112]⟩)])]), (.tup [(.str ⟨#[112]⟩), (.str ⟨#[113]⟩), (.str ⟨#[114]⟩)])], (.tup [(.str ⟨#[97, 108, 105, 107, 101]⟩), (.int 10)])⟩
theorem t3_4 : e3_4.ok = true := by decide +kernel
def e3_5 : Ent := ⟨55, [(.tup [(.tup []), (.tup []), (.tup [(.tup [(.str ⟨#[99, 101, 108, 108]⟩), (.str ⟨#[113]⟩), (.str ⟨#[110, 105, 108]⟩)])])]), (.tup [(.tup [(.str ⟨#[119, 114, 105, 116, 101]⟩), (.str ⟨#[113]⟩), (.str ⟨#[112]⟩)])]), (.tup [(.tup [(.str ⟨#[119, 114, 105, 116, 101]⟩), (.str ⟨#[113]⟩), (.str ⟨#[114]⟩)]), (.tup [(.str ⟨#[119, 114, 105, 116, 101]⟩), (.str ⟨#[113]⟩), (.str ⟨#[112]⟩)])]), (.tup [(.str ⟨#[112]⟩), (.str ⟨#[113]⟩), (.str ⟨#[114]⟩)])], (.tup [(.str ⟨#[97, 108, 105, 107, 101]⟩), (.int 10)])⟩
theorem t3_5 : e3_5.ok = true := by decide +kernel
def e3_6 : Ent := ⟨55, [(.tup [(.tup []), (.tup []), (.tup [(.tup [(.str ⟨#[99, 101, 108, 108]⟩), (.str ⟨#[113]⟩), (.str ⟨#[110, 105, 108]⟩)])])]), (.tup [(.tup [(.str ⟨#[119, 114, 105, 116, 101]⟩), (.str ⟨#[113]⟩), (.str ⟨#[114]⟩)]), (.tup [(.str ⟨#[114, 101, 97, 100]⟩), (.str ⟨#[112]⟩), (.str ⟨#[113]⟩)])]), (.tup [(.tup [(.str ⟨#[119, 114, 105, 116, 101]⟩), (.str ⟨#[113]⟩), (.str ⟨#[114]⟩)]), (.tup [(.str ⟨#[108, 101, 116]⟩), (.str ⟨#[112]⟩), (.str ⟨#[114]⟩)])]), (.tup [(.str ⟨#[112]⟩), (.str ⟨#[113]⟩), (.str ⟨#[114]⟩)])], (.tup [(.str ⟨#[97, 108, 105, 107, 101]⟩), (.int 10)])⟩
theorem t3_6 : e3_6.ok = true := by decide +kernel
def e3_7 : Ent := ⟨55, [(.tup [(.tup []), (.tup []), (.tup [(.tup [(.str ⟨#[99, 101, 108, 108]⟩), (.str ⟨#[113]⟩), (.str ⟨#[110, 105, 108]⟩)])])]), (.tup [(.tup [(.str ⟨#[119, 114, 105, 116, 101]⟩), (.str ⟨#[113]⟩), (.str ⟨#[114]⟩)]), (.tup [(.str ⟨#[108, 101, 116]⟩), (.str ⟨#[112]⟩), (.str ⟨#[114]⟩)])]), (.tup [(.tup [(.str ⟨#[119, 114, 105, 116, 101]⟩), (.str ⟨#[113]⟩), (.str ⟨#[114]⟩)]), (.tup [(.str ⟨#[114, 101, 97, 100]⟩), (.str ⟨#[112]⟩), (.str ⟨#[113]⟩)])]), (.tup [(.str ⟨#[112]⟩), (.str ⟨#[113]⟩), (.str ⟨#[114]⟩)])], (.tup [(.str ⟨#[97, 108, 105, 107, 101]⟩), (.int 10)])⟩
theorem t3_7 : e3_7.ok = true := by decide +kernel
def e3_8 : Ent := ⟨55, [(.tup [(.tup []), (.tup []), (.tup [])]), (.tup [(.tup [(.str ⟨#[119, 114, 105, 116, 101]⟩), (.str ⟨#[113]⟩), (.str ⟨#[114]⟩)])]), (.tup []), (.tup [(.str ⟨#[112]⟩), (.str ⟨#[113]⟩), (.str ⟨#[114]⟩)])], (.tup [(.str ⟨#[97, 112, 97, 114, 116]⟩), (.tup [(.tup [(.tup [(.str ⟨#[112]⟩), (.int 0)]), (.tup [(.str ⟨#[113]⟩), (.int 0)]), (.tup [(.str ⟨#[114]⟩), (.int 0)])]), (.tup [])])])⟩
theorem t3_8 : e3_8.ok = true := by decide +kernel
def e3_9 : Ent := ⟨55, [(.tup [(.tup []), (.tup []), (.tup [])]), (.tup []), (.tup [(.tup [(.str ⟨#[119, 114, 105, 116, 101]⟩), (.str ⟨#[113]⟩), (.str ⟨#[114]⟩)])]), (.tup [(.str ⟨#[112]⟩), (.str ⟨#[113]⟩), (.str ⟨#[114]⟩)])], (.tup [(.str ⟨#[97, 112, 97, 114, 116]⟩), (.tup [(.tup [(.tup [(.str ⟨#[112]⟩), (.int 0)]), (.tup [(.str ⟨#[113]⟩), (.int 0)]), (.tup [(.str ⟨#[114]⟩), (.int 0)])]), (.tup [])])])⟩
theorem t3_9 : e3_9.ok = true := by decide +kernel
def e3_10 : Ent := ⟨55, [(.tup [(.tup []), (.tup []), (.tup [])]), (.tup [(.tup [(.str ⟨#[102, 114, 101, 101]⟩), (.str ⟨#[113]⟩)])]), (.tup [(.tup [(.str ⟨#[114, 101, 97, 100]⟩), (.str ⟨#[114]⟩), (.str ⟨#[113]⟩)])]), (.tup [(.str ⟨#[112]⟩), (.str ⟨#[113]⟩), (.str ⟨#[114]⟩)])], (.tup [(.str ⟨#[97, 108, 105, 107, 101]⟩), (.int 15)])⟩
theorem t3_10 : e3_10.ok = true := by decide +kernel
def e3_11 : Ent := ⟨55, [(.tup [(.tup []), (.tup []), (.tup [])]), (.tup [(.tup [(.str ⟨#[114, 101, 97, 100]⟩), (.str ⟨#[114]⟩), (.str ⟨#[113]⟩)])]), (.tup [(.tup [(.str ⟨#[102, 114, 101, 101]⟩), (.str ⟨#[113]⟩)])]), (.tup [(.str ⟨#[112]⟩), (.str ⟨#[113]⟩), (.str ⟨#[114]⟩)])], (.tup [(.str ⟨#[97, 108, 105, 107, 101]⟩), (.int 15)])⟩
theorem t3_11 : e3_11.ok = true := by decide +kernel
def e3_12 : Ent := ⟨55, [(.tup [(.tup []), (.tup []), (.tup [(.tup [(.str ⟨#[99, 101, 108, 108]⟩), (.str ⟨#[113]⟩), (.str ⟨#[110, 105, 108]⟩)])])]), (.tup [(.tup [(.str ⟨#[102, 114, 101, 101]⟩), (.str ⟨#[113]⟩)]), (.tup [(.str ⟨#[102, 114, 101, 101]⟩), (.str ⟨#[113]⟩)])]), (.tup [(.tup [(.str ⟨#[102, 114, 101, 101]⟩), (.str ⟨#[113]⟩)]), (.tup [(.str ⟨#[114, 101, 97, 100]⟩), (.str ⟨#[114]⟩), (.str ⟨#[113]⟩)])]), (.tup [(.str ⟨#[112]⟩), (.str ⟨#[113]⟩), (.str ⟨#[114]⟩)])], (.tup [(.str ⟨#[97, 108, 105, 107, 101]⟩), (.int 10)])⟩
theorem t3_12 : e3_12.ok = true := by decide +kernel
def e3_13 : Ent := ⟨55, [(.tup [(.tup []), (.tup []), (.tup [(.tup [(.str ⟨#[99, 101, 108, 108]⟩), (.str ⟨#[113]⟩), (.str ⟨#[110, 105, 108]⟩)])])]), (.tup [(.tup [(.str ⟨#[102, 114, 101, 101]⟩), (.str ⟨#[113]⟩)]), (.tup [(.str ⟨#[114, 101, 97, 100]⟩), (.str ⟨#[114]⟩), (.str ⟨#[113]⟩)])]), (.tup [(.tup [(.str ⟨#[102, 114, 101, 101]⟩), (.str ⟨#[113]⟩)]), (.tup [(.str ⟨#[102, 114, 101, 101]⟩), (.str ⟨#[113]⟩)])]), (.tup [(.str ⟨#[112]⟩), (.str ⟨#[113]⟩), (.str ⟨#[114]⟩)])], (.tup [(.str ⟨#[97, 108, 105, 107, 101]⟩), (.int 10)])⟩
theorem t3_13 : e3_13.ok = true := by decide +kernel
def e3_14 : Ent := ⟨55, [(.tup [(.tup []), (.tup []), (.tup [(.tup [(.str ⟨#[99, 101, 108, 108]⟩), (.str ⟨#[113]⟩), (.str ⟨#[110, 105, 108]⟩)]), (.tup [(.str ⟨#[99, 101, 108, 108]⟩), (.str ⟨#[114]⟩), (.str ⟨#[110, 105, 108]⟩)])])]), (.tup [(.tup [(.str ⟨#[119, 114, 105, 116, 101]⟩), (.str ⟨#[113]⟩), (.str ⟨#[112]⟩)]), (.tup [(.str ⟨#[119, 114, 105, 116, 101]⟩), (.str ⟨#[114]⟩), (.str ⟨#[112]⟩)])]), (.tup [(.tup [(.str ⟨#[119, 114, 105, 116, 101]⟩), (.str ⟨#[114]⟩), (.str ⟨#[112]⟩)]), (.tup [(.str ⟨#[119, 114, 105, 116, 101]⟩), (.str ⟨#[113]⟩), (.str ⟨#[112]⟩)])]), (.tup [(.str ⟨#[112]⟩), (.str ⟨#[113]⟩), (.str ⟨#[114]⟩)])], (.tup [(.str ⟨#[97, 108, 105, 107, 101]⟩), (.int 4)])⟩
theorem t3_14 : e3_14.ok = true := by decide +kernel
def e3_15 : Ent := ⟨55, [(.tup [(.tup []), (.tup []), (.tup [(.tup [(.str ⟨#[99, 101, 108, 108]⟩), (.str ⟨#[113]⟩), (.str ⟨#[110, 105, 108]⟩)]), (.tup [(.str ⟨#[99, 101, 108, 108]⟩), (.str ⟨#[114]⟩), (.str ⟨#[110, 105, 108]⟩)])])]), (.tup [(.tup [(.str ⟨#[119, 114, 105, 116, 101]⟩), (.str ⟨#[114]⟩), (.str ⟨#[112]⟩)]), (.tup [(.str ⟨#[119, 114, 105, 116, 101]⟩), (.str ⟨#[113]⟩), (.str ⟨#[112]⟩)])]), (.tup [(.tup [(.str ⟨#[119, 114, 105, 116, 101]⟩), (.str ⟨#[113]⟩), (.str ⟨#[112]⟩)]), (.tup [(.str ⟨#[119, 114, 105, 116, 101]⟩), (.str ⟨#[114]⟩), (.str ⟨#[112]⟩)])]), (.tup [(.str ⟨#[112]⟩), (.str ⟨#[113]⟩), (.str ⟨#[114]⟩)])], (.tup [(.str ⟨#[97, 108, 105, 107, 101]⟩), (.int 4)])⟩
theorem t3_15 : e3_15.ok = true := by decide +kernel
def e3_16 : Ent := ⟨55, [(.tup [(.tup []), (.tup []), (.tup [(.tup [(.str ⟨#[99, 101, 108, 108]⟩), (.str ⟨#[113]⟩), (.str ⟨#[110, 105, 108]⟩)]), (.tup [(.str ⟨#[99, 101, 108, 108]⟩), (.str ⟨#[114]⟩), (.str ⟨#[110, 105, 108]⟩)])])]), (.tup [(.tup [(.str ⟨#[114, 101, 97, 100]⟩), (.str ⟨#[112]⟩), (.str ⟨#[113]⟩)])]), (.tup [(.tup [(.str ⟨#[114, 101, 97, 100]⟩), (.str ⟨#[112]⟩), (.str ⟨#[114]⟩)])]), (.tup [(.str ⟨#[112]⟩), (.str ⟨#[113]⟩), (.str ⟨#[114]⟩)])], (.tup [(.str ⟨#[97, 108, 105, 107, 101]⟩), (.int 4)])⟩
theorem t3_16 : e3_16.ok = true := by decide +kernel
def e3_17 : Ent := ⟨55, [(.tup [(.tup []), (.tup []), (.tup [(.tup [(.str ⟨#[99, 101, 108, 108]⟩), (.str ⟨#[113]⟩), (.str ⟨#[110, 105, 108]⟩)]), (.tup [(.str ⟨#[99, 101, 108, 108]⟩), (.str ⟨#[114]⟩), (.str ⟨#[110, 105, 108]⟩)])])]), (.tup [(.tup [(.str ⟨#[114, 101, 97, 100]⟩), (.str ⟨#[112]⟩), (.str ⟨#[114]⟩)])]), (.tup [(.tup [(.str ⟨#[114, 101, 97, 100]⟩), (.str ⟨#[112]⟩), (.str ⟨#[113]⟩)])]), (.tup [(.str ⟨#[112]⟩), (.str ⟨#[113]⟩), (.str ⟨#[114]⟩)])], (.tup [(.str ⟨#[97, 108, 105, 107, 101]⟩), (.int 4)])⟩
theorem t3_17 : e3_17.ok = true := by decide +kernel
def e3_18 : Ent := ⟨55, [(.tup [(.tup []), (.tup [(.tup [(.str ⟨#[110, 105, 108]⟩), (.str ⟨#[113]⟩)])]), (.tup [(.tup [(.str ⟨#[99, 104, 97, 105, 110]⟩), (.str ⟨#[113]⟩), (.str ⟨#[110, 105, 108]⟩)])])]), (.tup [(.tup [(.str ⟨#[114, 101, 97, 100]⟩), (.str ⟨#[114]⟩), (.str ⟨#[113]⟩)]), (.tup [(.str ⟨#[108, 101, 116]⟩), (.str ⟨#[112]⟩), (.str ⟨#[114]⟩)])]), (.tup [(.tup [(.str ⟨#[114, 101, 97, 100]⟩), (.str ⟨#[112]⟩), (.str ⟨#[113]⟩)]), (.tup [(.str ⟨#[108, 101, 116]⟩), (.str ⟨#[114]⟩), (.str ⟨#[112]⟩)])]), (.tup [(.str ⟨#[112]⟩), (.str ⟨#[113]⟩), (.str ⟨#[114]⟩)])], (.tup [(.str ⟨#[97, 108, 105, 107, 101]⟩), (.int 27)])⟩
theorem t3_18 : e3_18.ok = true := by decide +kernel
def e3_19 : Ent := ⟨55, [(.tup [(.tup []), (.tup [(.tup [(.str ⟨#[110, 105, 108]⟩), (.str ⟨#[113]⟩)])]), (.tup [(.tup [(.str ⟨#[99, 104, 97, 105, 110]⟩), (.str ⟨#[113]⟩), (.str ⟨#[110, 105, 108]⟩)])])]), (.tup [(.tup [(.str ⟨#[114, 101, 97, 100]⟩), (.str ⟨#[112]⟩), (.str ⟨#[113]⟩)]), (.tup [(.str ⟨#[108, 101, 116]⟩), (.str ⟨#[114]⟩), (.str ⟨#[112]⟩)])]), (.tup [(.tup [(.str ⟨#[114, 101, 97, 100]⟩), (.str ⟨#[114]⟩), (.str ⟨#[113]⟩)]), (.tup [(.str ⟨#[108, 101, 116]⟩), (.str ⟨#[112]⟩), (.str ⟨#[114]⟩)])]), (.tup [(.str ⟨#[112]⟩), (.str ⟨#[113]⟩), (.str ⟨#[114]⟩)])], (.tup [(.str ⟨#[97, 108, 105, 107, 101]⟩), (.int 27)])⟩
theorem t3_19 : e3_19.ok = true := by decide +kernel
def e3_20 : Ent := ⟨55, [(.tup [(.tup []), (.tup [(.tup [(.str ⟨#[110, 105, 108]⟩), (.str ⟨#[113]⟩)])]), (.tup [(.tup [(.str ⟨#[99, 104, 97, 105, 110]⟩), (.str ⟨#[113]⟩), (.str ⟨#[110, 105, 108]⟩)])])]), (.tup [(.tup [(.str ⟨#[114, 101, 97, 100]⟩), (.str ⟨#[114]⟩), (.str ⟨#[113]⟩)]), (.tup [(.str ⟨#[114, 101, 97, 100]⟩), (.str ⟨#[114]⟩), (.str ⟨#[114]⟩)])]), (.tup [(.tup [(.str ⟨#[114, 101, 97, 100]⟩), (.str ⟨#[114]⟩), (.str ⟨#[113]⟩)])]), (.tup [(.str ⟨#[112]⟩), (.str ⟨#[113]⟩), (.str ⟨#[114]⟩)])], (.tup [(.str ⟨#[97, 112, 97, 114, 116]⟩), (.tup [(.tup [(.tup [(.str ⟨#[112]⟩), (.int 0)]), (.tup [(.str ⟨#[113]⟩), (.int 1)]), (.tup [(.str ⟨#[114]⟩), (.int 0)])]), (.tup [(.tup [(.int 1), (.int 0)])])])])⟩
theorem t3_20 : e3_20.ok = true := by decide +kernel
def e3_21 : Ent := ⟨55, [(.tup [(.tup []), (.tup [(.tup [(.str ⟨#[110, 105, 108]⟩), (.str ⟨#[113]⟩)])]), (.tup [(.tup [(.str ⟨#[99, 104, 97, 105, 110]⟩), (.str ⟨#[113]⟩), (.str ⟨#[110, 105, 108]⟩)])])]), (.tup [(.tup [(.str ⟨#[114, 101, 97, 100]⟩), (.str ⟨#[114]⟩), (.str ⟨#[113]⟩)])]), (.tup [(.tup [(.str ⟨#[114, 101, 97, 100]⟩), (.str ⟨#[114]⟩), (.str ⟨#[113]⟩)]), (.tup [(.str ⟨#[114, 101, 97, 100]⟩), (.str ⟨#[114]⟩), (.str ⟨#[114]⟩)])]), (.tup [(.str ⟨#[112]⟩), (.str ⟨#[113]⟩), (.str ⟨#[114]⟩)])], (.tup [(.str ⟨#[97, 112, 97, 114, 116]⟩), (.tup [(.tup [(.tup [(.str ⟨#[112]⟩), (.int 0)]), (.tup [(.str ⟨#[113]⟩), (.int 1)]), (.tup [(.str ⟨#[114]⟩), (.int 0)])]), (.tup [(.tup [(.int 1), (.int 0)])])])])⟩
theorem t3_21 : e3_21.ok = true := by decide +kernel
def e3_22 : Ent := ⟨55, [(.tup [(.tup []), (.tup []), (.tup [])]), (.tup [(.tup [(.str ⟨#[105, 102]⟩), (.tup [(.str ⟨#[115, 97, 109, 101]⟩), (.str ⟨#[113]⟩), (.str ⟨#[114]⟩)]), (.tup [(.tup [(.str ⟨#[108, 101, 116]⟩), (.str ⟨#[113]⟩), (.str ⟨#[114]⟩)])]), (.tup [])])]), (.tup []), (.tup [(.str ⟨#[112]⟩), (.str ⟨#[113]⟩), (.str ⟨#[114]⟩)])], (.tup [(.str ⟨#[97, 108, 105, 107, 101]⟩), (.int 15)])⟩
theorem t3_22 : e3_22.ok = true := by decide +kernel
def e3_23 : Ent := ⟨55, [(.tup [(.tup []), (.tup []), (.tup [])]), (.tup []), (.tup [(.tup [(.str ⟨#[105, 102]⟩), (.tup [(.str ⟨#[115, 97, 109, 101]⟩), (.str ⟨#[113]⟩), (.str ⟨#[114]⟩)]), (.tup [(.tup [(.str ⟨#[108, 101, 116]⟩), (.str ⟨#[113]⟩), (.str ⟨#[114]⟩)])]), (.tup [])])]), (.tup [(.str ⟨#[112]⟩), (.str ⟨#[113]⟩), (.str ⟨#[114]⟩)])], (.tup [(.str ⟨#[97, 108, 105, 107, 101]⟩), (.int 15)])⟩
theorem t3_23 : e3_23.ok = true := by decide +kernel
def e3_24 : Ent := ⟨55, [(.tup [(.tup []), (.tup []), (.tup [])]), (.tup [(.tup [(.str ⟨#[105, 102]⟩), (.tup [(.str ⟨#[111, 116, 104, 101, 114]⟩), (.str ⟨#[113]⟩), (.str ⟨#[114]⟩)]), (.tup [(.tup [(.str ⟨#[108, 101, 116]⟩), (.str ⟨#[113]⟩), (.str ⟨#[114]⟩)])]), (.tup [])])]), (.tup [(.tup [(.str ⟨#[108, 101, 116]⟩), (.str ⟨#[113]⟩), (.str ⟨#[114]⟩)])]), (.tup [(.str ⟨#[112]⟩), (.str ⟨#[113]⟩), (.str ⟨#[114]⟩)])], (.tup [(.str ⟨#[97, 108, 105, 107, 101]⟩), (.int 15)])⟩
theorem t3_24 : e3_24.ok = true := by decide +kernel
def e3_25 : Ent := ⟨55, [(.tup [(.tup []), (.tup []), (.tup [])]), (.tup [(.tup [(.str ⟨#[108, 101, 116]⟩), (.str ⟨#[113]⟩), (.str ⟨#[114]⟩)])]), (.tup [(.tup [(.str ⟨#[105, 102]⟩), (.tup [(.str ⟨#[111, 116, 104, 101, 114]⟩), (.str ⟨#[113]⟩), (.str ⟨#[114]⟩)]), (.tup [(.tup [(.str ⟨#[108, 101, 116]⟩), (.str ⟨#[113]⟩), (.str ⟨#[114]⟩)])]), (.tup [])])]), (.tup [(.str ⟨#[112]⟩), (.str ⟨#[113]⟩), (.str ⟨#[114]⟩)])], (.tup [(.str ⟨#[97, 108, 105, 107, 101]⟩), (.int 15)])⟩
theorem t3_25 : e3_25.ok = true := by decide +kernel
def e3_26 : Ent := ⟨55, [(.tup [(.tup []), (.tup []), (.tup [(.tup [(.str ⟨#[99, 101, 108, 108]⟩), (.str ⟨#[113]⟩), (.str ⟨#[112]⟩)]), (.tup [(.str ⟨#[99, 101, 108, 108]⟩), (.str ⟨#[113]⟩), (.str ⟨#[114]⟩)])])]), (.tup [(.tup [(.str ⟨#[102, 114, 101, 101]⟩), (.str ⟨#[114]⟩)])]), (.tup []), (.tup [(.str ⟨#[112]⟩), (.str ⟨#[113]⟩), (.str ⟨#[114]⟩)])], (.tup [(.str ⟨#[97, 108, 105, 107, 101]⟩), (.int 0)])⟩
theorem t3_26 : e3_26.ok = true := by decide +kernel
def e3_27 : Ent := ⟨56, [(.tup [(.tup []), (.tup []), (.tup [(.tup [(.str ⟨#[99, 101, 108, 108]⟩), (.str ⟨#[113]⟩), (.str ⟨#[110, 105, 108]⟩)])])]), (.tup [(.tup [(.str ⟨#[119, 114, 105, 116, 101]⟩), (.str ⟨#[113]⟩), (.str ⟨#[114]⟩)]), (.tup [(.str ⟨#[108, 101, 116]⟩), (.str ⟨#[114]⟩), (.str ⟨#[114]⟩)]), (.tup [(.str ⟨#[119, 114, 105, 116, 101]⟩), (.str ⟨#[113]⟩), (.str ⟨#[112]⟩)])]), (.tup [(.str ⟨#[112]⟩), (.str ⟨#[113]⟩), (.str ⟨#[114]⟩)])], (.tup [(.int 0), (.int 1)])⟩
theorem t3_27 : e3_27.ok = true := by decide +kernel
def e3_28 : Ent := ⟨56, [(.tup [(.tup []), (.tup []), (.tup [])]), (.tup [(.tup [(.str ⟨#[108, 101, 116]⟩), (.str ⟨#[113]⟩), (.str ⟨#[110, 105, 108]⟩)]), (.tup [(.str ⟨#[108, 101, 116]⟩), (.str ⟨#[113]⟩), (.str ⟨#[114]⟩)])]), (.tup [(.str ⟨#[112]⟩), (.str ⟨#[113]⟩), (.str ⟨#[114]⟩)])], (.tup [(.int 0)])⟩
theorem t3_28 : e3_28.ok = true := by decide +kernel
def tb3 : List Ent := [e3_0, e3_1, e3_2, e3_3, e3_4, e3_5, e3_6, e3_7, e3_8, e3_9, e3_10, e3_11, e3_12, e3_13, e3_14, e3_15, e3_16, e3_17, e3_18, e3_19, e3_20, e3_21, e3_22, e3_23, e3_24, e3_25, e3_26, e3_27, e3_28]
theorem tb3_ok : ∀ e ∈ tb3, e.ok = true := by
  intro e he
  simp only [tb3, List.mem_cons, List.not_mem_nil, or_false] at he
  rcases he with rfl | rfl | rfl | rfl | rfl | rfl | rfl | rfl | rfl | rfl | rfl | rfl | rfl | rfl | rfl | rfl | rfl | rfl | rfl | rfl | rfl | rfl | rfl | rfl | rfl | rfl | rfl | rfl | rfl
  · exact t3_0
  · exact t3_1
  · exact t3_2
  · exact t3_3
  · exact t3_4
  · exact t3_5
  · exact t3_6
  · exact t3_7
  · exact t3_8
  · exact t3_9
  · exact t3_10
  · exact t3_11
  · exact t3_12
  · exact t3_13
  · exact t3_14
  · exact t3_15
  · exact t3_16
  · exact t3_17
  · exact t3_18
  · exact t3_19
  · exact t3_20
  · exact t3_21
  · exact t3_22
  · exact t3_23
  · exact t3_24
  · exact t3_25
  · exact t3_26
  · exact t3_27
  · exact t3_28
end G
end

set_option Elab.async false
set_option linter.all false
set_option maxRecDepth 100000
set_option maxHeartbeats 4000000
set_option autoImplicit false
noncomputable section
namespace G
open PySem L2 Ev
theorem put_put {α : Type} : ∀ (t : Tr α) (n : Nat) (a b : α), (t.get n).isSome = true → (t.put n a).put n b = t.put n b
  | .lf, n, a, b, e => by cases e
  | .nd l x r, n, a, b, q => by
    rcases three n with e | ⟨i, e⟩ | ⟨i, e⟩
    · subst e
      rfl
    · subst e
      rw [Tr.get_odd] at q
      rw [Tr.put_odd, Tr.put_odd, Tr.put_odd, put_put l i a b q]
    · subst e
      rw [Tr.get_even] at q
      rw [Tr.put_even, Tr.put_even, Tr.put_even, put_put r i a b q]
theorem set_set {h : AH} {n : Nat} {u : AO} (e : h.get n = some u) (a b : AO) : (h.set n a).set n b = h.set n b := by
  show AH.mk h.n ((h.t.put n a).put n b) = AH.mk h.n (h.t.put n b)
  rw [put_put]
  have e : h.t.get n = some u := e
  rw [e]
  rfl
def hand (c : Nat) (a1 a2 a3 a4 : Int) : AO := .lst [.ref c, .int a1, .int a2, .int a3, .int a4]
/-- the hand at a place, its cells -/
structure Hand (h : AH) (n c : Nat) (cells : List Int) (a1 a2 a3 a4 : Int) : Prop where
  ok : h.ok
  ne : c ≠ n
  at_ : h.get n = some (hand c a1 a2 a3 a4)
  cs : h.get c = some (.lst (cells.map .int))
theorem Hand.lt {h : AH} {n c : Nat} {cells : List Int} {a1 a2 a3 a4 : Int} (x : Hand h n c cells a1 a2 a3 a4) : n < h.n := AH.lt_of x.ok x.at_
theorem Hand.set {h : AH} {n c : Nat} {cells : List Int} {a1 a2 a3 a4 : Int} (x : Hand h n c cells a1 a2 a3 a4) (b1 b2 b3 b4 : Int) : Hand (h.set n (hand c b1 b2 b3 b4)) n c cells b1 b2 b3 b4 :=
  ⟨AH.set_ok x.ok x.lt _, x.ne, by rw [AH.get_set x.ok x.lt, if_pos rfl], by rw [AH.get_set x.ok x.lt, if_neg x.ne]; exact x.cs⟩
section
variable {h : AH} {n c : Nat} {cells : List Int} {a1 a2 a3 a4 : Int} {m : Nat} {X : XP} {σ : Sg} {Q : AV → AH → Prop}
/-- hand[i] -/
theorem w_hand (x : Hand h n c cells a1 a2 a3 a4) {j : Nat} (hm : 0 < m) (e0 : σ 0 = some (.ref n)) {v : AV} (ev : [AV.ref c, .int a1, .int a2, .int a3, .int a4][j]? = some v) (q : Q v h) : WE m X (cIdx (cSlot 0) (cCst (.int j))) σ h Q := by
  refine w_idx (w_slot hm e0 (w_cst ?_))
  unfold idxA
  simp only [x.at_, hand]
  have hj : j < 5 := (List.getElem?_eq_some_iff.mp ev).1
  have e : atA [AV.ref c, .int a1, .int a2, .int a3, .int a4] (j : Int) = some v := by
    unfold atA toNix
    rw [if_pos (decide_eq_true (by omega)), if_pos (decide_eq_true (by simp; omega))]
    simpa using ev
  rw [e]
  exact q
end
local macro_rules | `(tactic| walk_at "sl") => `(tactic| first | rfl | assumption | exact up_same | (rw [up_ne (by decide)]; walk_at "sl"))
local macro_rules | `(tactic| walk_at "w") => `(tactic| first
  | refine w_anil ?_ | refine w_acons ?_ | refine w_cst ?_ | refine w_slot (by decide) (by walk_at "sl") ?_ | refine w_bin ?_ | refine w_blt ?_
  | refine wp_add ?_ | refine wp_sub ?_ | refine wp_int ?_ | refine wp_mod (by omega) ?_ | refine wp_div (by omega) (by omega) ?_ | refine wp_mul (by rfl) ?_ | refine wp_abs ?_ | refine wp_lenT ?_)
theorem ws_put {h : AH} {n c : Nat} {cells : List Int} {a1 a2 a3 a4 : Int} (x : Hand h n c cells a1 a2 a3 a4) (j : Nat) (hj : j < 5) {jj : Int} (ej : jj = j) {m : Nat} {σ : Sg} {D : Po} {e : FE} (hm : 0 < m) (e0 : σ 0 = some (.ref n))
    (p : WE m D.ex e σ h fun v h1 => ∃ i : Int, v = .int i ∧ h1 = h ∧ D.nx σ (h.set n (.lst ([AV.ref c, .int a1, .int a2, .int a3, .int a4].set j (.int i))))) : WS m (sSetI (cSlot 0) (cCst (.int jj)) e) σ h D :=
  ws_setI (p.imp fun v h1 ⟨i, ev, eh, q⟩ => by
    subst ev eh
    exact w_slot hm e0 (w_cst (wp_putL x.at_ ej (by simpa using hj) q)))
theorem small_mod (i m : Int) (hm : 0 < m) (hl : m < two64) : smallI (i % m) = true := by
  unfold smallI
  have := Int.emod_nonneg i (show m ≠ 0 by omega)
  have := Int.emod_lt_of_pos i hm
  have z : (0 : Int) < two64 := by decide
  rw [decide_eq_true (show -two64 < i % m by omega), decide_eq_true (by omega)]
  rfl
theorem or_l {a b : Bool} (h : a = true) : (a || b) = true := by rw [h]; rfl
theorem or_r {a b : Bool} (h : b = true) : (a || b) = true := by rw [h]; cases a <;> rfl
/-- what a draw leaves: the hand alone is changed -/
def Drawn (h : AH) (n c : Nat) (cells : List Int) (k : Int) (v : AV) (h' : AH) : Prop := ∃ i b1 b2 b3 b4, v = .int i ∧ 0 ≤ i ∧ i < k ∧ h' = h.set n (hand c b1 b2 b3 b4) ∧ Hand h' n c cells b1 b2 b3 b4 ∧ 0 ≤ b1
theorem draw_tail {h0 h : AH} {n c : Nat} {cells : List Int} {a1 a2 a3 a4 k : Int} (x : Hand h n c cells a1 a2 a3 a4) (p1 : 0 ≤ a1) (hk : 0 < k) (hk2 : k < 1073741824) (eh : ∃ o u, h0.get n = some u ∧ (h = h0 ∨ h = h0.set n o)) {σ : Sg} (e0 : σ 0 = some (.ref n)) (e1 : σ 1 = some (.int k)) {D : Po} (D' : ∀ v h', Drawn h0 n c cells k v h' → D.rt v h') :
    WS 5 (sSeq (sIf (tCmpA .gt (cIdx (cSlot 0) (cCst (.int 2))) (cCst (.int 0)))
      (sSeq (sAsg (.nm 4) (cBin .mod (cBlt .int1 (aCons (cIdx (cSlot 0) (cCst (.int 2))) aNil)) (cSlot 1)))
      (sSeq (sSetI (cSlot 0) (cCst (.int 2)) (cBin .fdiv (cIdx (cSlot 0) (cCst (.int 2))) (cSlot 1)))
      (sSeq (sRet (cSlot 4))
      sNil)))
      sNil)
      (sSeq (sSetI (cSlot 0) (cCst (.int 4)) (cBin .add (cIdx (cSlot 0) (cCst (.int 4))) (cCst (.int 1))))
      (sSeq (sAsg (.nm 2) (cBin .mod (cBlt .int1 (aCons (cBin .mul (cBlt .int1 (aCons (cBin .add (cIdx (cSlot 0) (cCst (.int 3))) (cBin .mul (cCst (.int 7919)) (cIdx (cSlot 0) (cCst (.int 4))))) aNil)) (cCst (.int 48271))) aNil)) (cCst (.int 2147483647))))
      (sSeq (sAsg (.nm 2) (cBin .mod (cBlt .int1 (aCons (cBin .mul (cSlot 2) (cBin .add (cBin .fdiv (cSlot 2) (cCst (.int 1009))) (cCst (.int 69621)))) aNil)) (cCst (.int 2147483647))))
      (sSeq (sAsg (.nm 2) (cBin .mod (cBlt .int1 (aCons (cBin .mul (cSlot 2) (cBin .add (cBin .fdiv (cSlot 2) (cCst (.int 2003))) (cCst (.int 40014)))) aNil)) (cCst (.int 2147483563))))
      (sSeq (sRet (cBin .mod (cBlt .int1 (aCons (cBin .fdiv (cSlot 2) (cCst (.int 16))) aNil)) (cSlot 1)))
      sNil)))))) σ h D := by
  have fin : ∀ o, h.set n o = h0.set n o := fun o => by
    obtain ⟨o', u, eu, e | e⟩ := eh
    · rw [e]
    · rw [e, set_set eu]
  refine ws_seq (ws_if (w_tcmp (w_hand x (j := 2) (by omega) e0 rfl (w_cst ⟨_, rfl, fun g => ?_, fun g => ?_⟩))))
  · have g : 0 < a2 := of_decide_eq_true g
    refine ws_seq (ws_asg (w_bin (w_blt (w_acons (w_hand x (j := 2) (by omega) e0 rfl ?_)))))
    repeat walk_at "w"
    refine ⟨_, rfl, ws_seq (ws_put x 2 (by omega) rfl (by omega) (by walk_at "sl") (w_bin (w_hand x (j := 2) (by omega) (by walk_at "sl") rfl ?_)))⟩
    repeat walk_at "w"
    refine ⟨_, rfl, rfl, ws_seq (ws_ret ?_)⟩
    repeat walk_at "w"
    exact D' _ _ ⟨_, a1, a2 / k, a3, a4, rfl, Int.emod_nonneg _ (by omega), Int.emod_lt_of_pos _ hk, fin _, x.set _ _ _ _, p1⟩
  · refine ws_nil (ws_seq (ws_put x 4 (by omega) rfl (by omega) e0 (w_bin (w_hand x (j := 4) (by omega) e0 rfl ?_))))
    repeat walk_at "w"
    refine ⟨_, rfl, rfl, ?_⟩
    have y : Hand (h.set n (hand c a1 a2 a3 (a4 + 1))) n c cells a1 a2 a3 (a4 + 1) := x.set _ _ _ _
    refine ws_seq (ws_asg ?_)
    repeat walk_at "w"
    refine w_hand y (j := 3) (by omega) e0 rfl ?_
    repeat walk_at "w"
    refine w_hand y (j := 4) (by omega) e0 rfl ?_
    repeat walk_at "w"
    refine wp_mul (or_r rfl) ?_
    repeat walk_at "w"
    refine ⟨_, rfl, ws_seq (ws_asg ?_)⟩
    repeat walk_at "w"
    refine wp_mul (or_l (small_mod _ _ (by decide) (by decide))) ?_
    repeat walk_at "w"
    refine ⟨_, rfl, ws_seq (ws_asg ?_)⟩
    repeat walk_at "w"
    refine wp_mul (or_l (small_mod _ _ (by decide) (by decide))) ?_
    repeat walk_at "w"
    refine ⟨_, rfl, ws_seq (ws_ret ?_)⟩
    repeat walk_at "w"
    exact D' _ _ ⟨_, a1, a2, a3, a4 + 1, rfl, Int.emod_nonneg _ (by omega), Int.emod_lt_of_pos _ hk, fin _, y, p1⟩
theorem draw_ok {T : Tab} {h : AH} {n c : Nat} {cells : List Int} {a1 a2 a3 a4 k : Int} {X : XP} (x : Hand h n c cells a1 a2 a3 a4) (p1 : 0 ≤ a1) (hk : 0 < k) (hk2 : k < 1073741824) : (runF T fb58 [.ref n, .int k] h).wp X (Drawn h n c cells k) := by
  refine wp_def rfl ?_
  show WS 5 (b58 T) _ _ _
  unfold b58
  refine ws_seq (ws_if (w_tand (w_tcmp (w_hand x (j := 2) (by decide) rfl rfl (w_cst ⟨_, rfl, fun g2 => ?_, fun g2 => ?_⟩)))))
  · refine w_tcmp (w_hand x (j := 1) (by decide) rfl rfl (w_blt (w_acons (w_hand x (j := 0) (by decide) rfl rfl (w_anil (wp_lenL x.cs ⟨_, rfl, fun g1 => ?_, fun g1 => ?_⟩))))))
    · have g1 : a1 < cells.length := by simpa using of_decide_eq_true g1
      obtain ⟨d, ed⟩ : ∃ d, cells[a1.toNat]? = some d := ⟨_, List.getElem?_eq_getElem (by omega)⟩
      refine ws_seq (ws_asg (w_idx (w_hand x (j := 0) (by decide) rfl rfl (w_hand x (j := 1) (by decide) rfl rfl (wp_idxL x.cs (atA_nat (j := a1.toNat) (by omega) (v := .int d) (by rw [List.getElem?_map, ed]; rfl)) ⟨_, rfl, ?_⟩)))))
      refine ws_seq (ws_put x 1 (by omega) rfl (by omega) (by walk_at "sl") (w_bin (w_hand x (j := 1) (by omega) (by walk_at "sl") rfl ?_)))
      repeat walk_at "w"
      refine ⟨_, rfl, rfl, ?_⟩
      have y : Hand (h.set n (hand c (a1 + 1) a2 a3 a4)) n c cells (a1 + 1) a2 a3 a4 := x.set _ _ _ _
      refine ws_seq (ws_put y 3 (by omega) rfl (by omega) (by walk_at "sl") (w_bin (w_blt (w_acons (w_bin (w_bin (w_bin (w_hand y (j := 3) (by omega) (by walk_at "sl") rfl ?_))))))))
      repeat walk_at "w"
      refine wp_mul (or_r rfl) ?_
      repeat walk_at "w"
      refine wp_mul (or_r rfl) ?_
      repeat walk_at "w"
      refine ⟨_, rfl, rfl, ?_⟩
      rw [set_set x.at_]
      have z : Hand (h.set n (hand c (a1 + 1) a2 ((a3 * 69621 + d * 40692 + 31) % 2147483629) a4)) n c cells (a1 + 1) a2 ((a3 * 69621 + d * 40692 + 31) % 2147483629) a4 := x.set _ _ _ _
      refine ws_seq (ws_if (w_tcmp ?_))
      repeat walk_at "w"
      refine ⟨_, rfl, fun g3 => ?_, fun g3 => ?_⟩
      · refine ws_seq (ws_put z 2 (by omega) rfl (by omega) (by walk_at "sl") ?_)
        repeat walk_at "w"
        refine ⟨_, rfl, rfl, ?_⟩
        refine ws_nil (ws_nil ?_)
        exact draw_tail (h0 := h) (z.set _ _ _ _) (by omega) hk hk2 ⟨_, _, x.at_, .inr (set_set x.at_ _ _)⟩ (by walk_at "sl") (by walk_at "sl") fun v h' q => q
      · refine ws_nil (ws_nil ?_)
        exact draw_tail (h0 := h) z (by omega) hk hk2 ⟨_, _, x.at_, .inr rfl⟩ (by walk_at "sl") (by walk_at "sl") fun v h' q => q
    · refine ws_nil ?_
      exact draw_tail (h0 := h) x p1 hk hk2 ⟨.lst [], _, x.at_, .inl rfl⟩ rfl rfl fun v h' q => q
  · refine ⟨(fun z => nomatch z), fun _ => ws_nil ?_⟩
    exact draw_tail (h0 := h) x p1 hk hk2 ⟨.lst [], _, x.at_, .inl rfl⟩ rfl rfl fun v h' q => q

theorem cut_map {α β : Type} (f : α → β) (xs : List α) (lo hi : Option Int) : cut (xs.map f) lo hi = (cut xs lo hi).map f := by
  unfold cut
  rw [List.length_map, ← List.map_drop, ← List.map_take]
theorem cut_len {α : Type} (xs : List α) (j : Nat) (i : Int) (e : i = j) : (cut xs none (some i)).length ≤ j := by
  subst e
  unfold cut
  rw [List.length_take]
  refine Nat.le_trans (Nat.min_le_left _ _) ?_
  show (if decide ((j : Int) < 0) then ((j : Int) + xs.length).toNat else min (j : Int).toNat xs.length) - 0 ≤ j
  rw [decide_eq_false (by omega), if_neg (by decide)]
  omega
def absI (i : Int) : Int := if decide (i < 0) then -i else i
theorem hand_run {T : Tab} (ns : List Int) : ∃ A cells, runF T fb57 [.scr ns] .nil = .ok (.ref 2) (((AH.nil.push (.lst A)).push (.lst (List.map .int cells))).push (hand 1 0 0 (5531 + 7 * cells.length) 0)) := by
  have hn : ∀ (o : AO), (AH.nil.push o).get 0 = some o := fun o => AH.push_new AH.nil_ok o
  have key : (runF T fb57 [.scr ns] .nil).wp NX fun v h => ∃ A cells, v = .ref 2 ∧ h = (((AH.nil.push (.lst A)).push (.lst (List.map .int cells))).push (hand 1 0 0 (5531 + 7 * cells.length) 0)) := by
    refine wp_def rfl ?_
    show WS 3 (b57 T) _ _ _
    unfold b57
    have hB : (cut ns none (some 63)).length ≤ 63 := cut_len ns 63 63 rfl
    refine ws_seq (ws_asg (w_lcm (w_ival (w_slc (w_slot (by decide) rfl (w_onone (w_osome (w_cst ⟨63, rfl, ?_⟩))))))))
    show Res.wp (newL (cut (ns.map .int) none (some 63)) .nil) _ _
    rw [cut_map]
    generalize cut ns none (some 63) = B at *
    have l0 : listAt (AH.nil.push (.lst (B.map .int))) 0 = some (B.map .int) := by
      unfold listAt
      rw [hn]
    have ml : (Src.live 0).many (AH.nil.push (.lst (B.map .int))) = B.length := by
      show (match listAt (AH.nil.push (.lst (B.map .int))) 0 with
        | some xs => xs.length
        | none => 0) = _
      rw [l0]
      exact List.length_map ..
    have it : ∀ i, (Src.live 0).item (AH.nil.push (.lst (B.map .int))) i = some ((B.map .int)[i]?) := fun i => by
      show (match listAt (AH.nil.push (.lst (B.map .int))) 0 with
        | some xs => some xs[i]?
        | none => none) = _
      rw [l0]
    refine ⟨.live 0, ?_, ?_, fun i acc h => h = AH.nil.push (.lst (B.map .int)) ∧ acc = (B.take i).map fun i => .int (absI i), ⟨rfl, rfl⟩, ?_, ?_⟩
    · show (match listAt (AH.nil.push (.lst (B.map .int))) 0 with
        | some _ => some (Src.live 0)
        | none => none) = _
      rw [l0]
    · rw [ml]
      exact Nat.le_trans hB (by decide)
    · intro i acc h hi ⟨eh, ea⟩
      subst eh ea
      rw [ml] at hi
      refine ⟨.int B[i], ?_, _, rfl, w_tyes ⟨fun _ => ?_, fun z => by cases z⟩⟩
      · rw [it, List.getElem?_map, List.getElem?_eq_getElem hi]
        rfl
      · refine w_blt (w_acons (w_blt (w_acons (w_slot (by decide) up_same (w_anil (wp_int (w_anil (wp_abs ⟨rfl, ?_⟩))))))))
        rw [List.take_succ_eq_append_getElem hi, List.map_append]
        rfl
    · intro acc h ⟨eh, ea⟩
      subst eh
      refine ⟨by rw [it, ml, List.getElem?_eq_none (by rw [List.length_map]; exact Nat.le_refl _)], ?_⟩
      rw [ml, List.take_length] at ea
      subst ea
      have e3 : B.map (fun i => AV.int (absI i)) = (B.map absI).map .int := (List.map_map ..).symm
      rw [e3]
      refine ⟨_, rfl, ws_seq (ws_ret (w_lst (w_acons (w_slot (by decide) up_same (w_acons (w_cst (w_acons (w_cst (w_acons (w_bin (w_cst (w_bin (w_cst (w_blt (w_acons (w_slot (by decide) up_same (w_anil (wp_lenL (AH.push_new (AH.push_ok AH.nil_ok _) _) (wp_mul (or_l rfl) (wp_add (w_acons (w_cst (w_anil ⟨show (5 : Nat) ≤ line from by decide, B.map .int, B.map absI, rfl, ?_⟩)))))))))))))))))))))))⟩
      rw [List.length_map (as := List.map absI B)]
      rfl
  obtain ⟨v, h, e, A, cells, ev, eh⟩ := key.ex
  subst ev eh
  exact ⟨A, cells, e⟩

theorem asg_r {t : RT} {e : FE} {sl sl1 : SL} {h h1 : AH} {v : AV} (e1 : e sl h = .ok v h1) (e2 : tgtA t v sl = some sl1) : sAsg t e sl h = .nx sl1 h1 := by
  unfold sAsg
  rw [e1]
  show (tgtR t v sl h1).st .nx = _
  unfold tgtR
  rw [e2]
  rfl
theorem seq_r {s r : FS} {sl sl1 : SL} {h h1 : AH} (e : s sl h = .nx sl1 h1) : sSeq s r sl h = r sl1 h1 := by
  unfold sSeq
  rw [e]
  rfl
theorem call_r {T : Tab} {f : Nat} {a : FA} {sl : SL} {h h1 : AH} {vs : List AV} (e : a sl h = .ok vs h1) : cCall T false f a sl h = T.call f vs h1 := by
  unfold cCall
  rw [e]
  rfl
/-- one of the menu -/
theorem any_run {k : Nat} {h : AH} {n c m : Nat} {cells : List Int} {a1 a2 a3 a4 : Int} {menu : List AV} (x : Hand h n c cells a1 a2 a3 a4) (p1 : 0 ≤ a1) (hm : h.get m = some (.lst menu)) (ne : m ≠ n) (h0 : 0 < menu.length) (h1 : menu.length ≤ 1000) :
    ∃ (i : Nat) (b1 b2 b3 b4 : Int) (v : AV), menu[i]? = some v ∧ runF (tabAt prg (runP prg (k + 1))) fb59 [.ref n, .ref m] h = .ok v (h.set n (hand c b1 b2 b3 b4)) := by
  have key : (runF (tabAt prg (runP prg (k + 1))) fb59 [.ref n, .ref m] h).wp NX fun v h' => ∃ (i : Nat) (b1 b2 b3 b4 : Int), menu[i]? = some v ∧ h' = h.set n (hand c b1 b2 b3 b4) := by
    refine wp_def rfl ?_
    show WS 2 (b59 _) _ _ _
    unfold b59
    refine ws_seq (ws_ret (w_idx (w_slot (by decide) rfl (w_call (w_acons (w_slot (by decide) rfl (w_acons (w_blt (w_acons (w_slot (by decide) rfl (w_anil (wp_lenL hm (w_anil ?_)))))))))))))
    show (runF (tabAt prg (runP prg k)) fb58 [.ref n, .int menu.length] h).wp _ _
    refine (draw_ok x p1 (by omega) (by omega)).imp fun v h' ⟨i, b1, b2, b3, b4, ev, i0, ik, eh, y, _⟩ => ?_
    subst ev
    have em : h'.get m = some (.lst menu) := by rw [eh, AH.get_set x.ok x.lt, if_neg ne]; exact hm
    have ei : menu[i.toNat]? = some menu[i.toNat] := List.getElem?_eq_getElem (by omega)
    exact wp_idxL em (atA_nat (j := i.toNat) (by omega) ei) ⟨i.toNat, b1, b2, b3, b4, ei, eh⟩
  obtain ⟨v, h', e, i, b1, b2, b3, b4, ev, eh⟩ := key.ex
  subst eh
  exact ⟨i, b1, b2, b3, b4, v, ev, e⟩
/-- the table of calls -/
def tblFind : List Ent → Nat → List AV → PR
  | [], _, _ => .bad
  | e :: es, f, vs => if Nat.beq e.f f && eqDs vs e.vs then .val e.v else tblFind es f vs
def tbl (es : List Ent) (f : Nat) (vs : List AV) : PR := if ordD.ordDs vs then tblFind es f vs else .bad
theorem ent_ok {e : Ent} (h : e.ok = true) {vs : List AV} (o : ordD.ordDs vs = true) (q : eqDs vs e.vs = true) : pureVal (runP prg 12 e.f vs .nil) = .val e.v := by
  unfold Ent.ok at h
  rw [Bool.and_eq_true] at h
  obtain ⟨h1, h2⟩ := h
  have ev : vs = e.vs := (tris vs e.vs o h1).2.1 q
  rw [ev]
  cases hp : pureVal (runP prg 12 e.f e.vs .nil) with
  | val u =>
    rw [hp] at h2
    have h2 : (eqD u e.v && ordD u && ordD e.v) = true := h2
    rw [Bool.and_eq_true, Bool.and_eq_true] at h2
    obtain ⟨⟨a, b⟩, c⟩ := h2
    rw [(tri u e.v b c).2.1 a]
  | exc c us =>
    rw [hp] at h2
    cases h2
  | bad =>
    rw [hp] at h2
    cases h2
theorem find_ok : ∀ (es : List Ent), (∀ e ∈ es, e.ok = true) → ∀ (f : Nat) (vs : List AV), ordD.ordDs vs = true → tblFind es f vs = .bad ∨ tblFind es f vs = pureVal (runP prg 12 f vs .nil)
  | [], _, _, _, _ => .inl rfl
  | e :: es, h, f, vs, o => by
    unfold tblFind
    split
    · rename_i q
      rw [Bool.and_eq_true] at q
      have ef : e.f = f := Nat.eq_of_beq_eq_true q.1
      subst ef
      exact .inr (ent_ok (h e (List.mem_cons_self ..)) o q.2).symm
    · exact find_ok es (fun x m => h x (List.mem_cons_of_mem _ m)) f vs o
def ents : List Ent := tb0 ++ (tb1 ++ (tb2 ++ tb3))
theorem ents_ok : ∀ e ∈ ents, e.ok = true := fun e m => by
  unfold ents at m
  rcases List.mem_append.mp m with m | m
  · exact tb0_ok e m
  rcases List.mem_append.mp m with m | m
  · exact tb1_ok e m
  rcases List.mem_append.mp m with m | m
  · exact tb2_ok e m
  · exact tb3_ok e m
def T81 : Tab := { tabAt prg (runP prg 12) with pcall := tbl ents }
theorem T81_pure (n : Nat) : PureOk T81 n (T81.call n) := fun vs => by
  show tbl ents n vs = .bad ∨ tbl ents n vs = pureVal (runP prg 12 n vs .nil)
  unfold tbl
  split
  · rename_i o
    exact find_ok ents ents_ok n vs o
  · exact .inl rfl
def isT : Res AV → Bool
  | .ok (.bl true) _ => true
  | _ => false
def r62 (T : Tab) : FS :=
 (sSeq (sAsg (.nm 2) (cBlt .tuple1 (aCons (cBlt .sorted1 (aCons (cLst (aCons (cSlot 6) (aCons (cSlot 7) (aCons (cSlot 8) aNil)))) aNil)) aNil)))
 (sSeq (sFor (.tp (.tcons (.nm 9) (.tcons (.nm 10) (.tcons (.nm 11) (.tcons (.nm 12) .tnil))))) (iValA (cCall T false 61 (aCons (cSlot 6) (aCons (cSlot 7) (aCons (cSlot 8) aNil)))))
 (sSeq (sFor (.nm 13) (iValA (cLst (aCons (cTup (aCons (cSlot 10) (aCons (cSlot 11) aNil))) (aCons (cTup (aCons (cSlot 11) (aCons (cSlot 10) aNil))) aNil))))
 (sSeq (sAsg (.nm 14) (cCall T true 55 (aCons (cSlot 9) (aCons (cIdx (cSlot 13) (cCst (.int 0))) (aCons (cIdx (cSlot 13) (cCst (.int 1))) (aCons (cSlot 2) aNil))))))
 (sSeq (sIf (tCmpA .ne (cIdx (cSlot 14) (cCst (.int 0))) (cIfe (tValA (cSlot 12)) (cCst (.str s_w15)) (cCst (.str s_w16))))
 (sSeq (sRet (cCst (.bl false)))
 sNil)
 sNil)
 sNil)))
 sNil))
 (sSeq (sAsg (.nm 3) (cTup (aCons (cTup aNil) (aCons (cTup aNil) (aCons (cBlt .tuple1 (aCons (cBlt .sorted1 (aCons (cLst (aCons (cTup (aCons (cCst (.str s_w12)) (aCons (cSlot 6) (aCons (cSlot 7) aNil)))) (aCons (cTup (aCons (cCst (.str s_w12)) (aCons (cSlot 6) (aCons (cSlot 8) aNil)))) aNil))) aNil)) aNil)) aNil)))))
 (sSeq (sIf (tCmpA .ne (cCall T true 55 (aCons (cSlot 3) (aCons (cTup (aCons (cTup (aCons (cCst (.str s_w9)) (aCons (cSlot 7) aNil))) aNil)) (aCons (cTup aNil) (aCons (cSlot 2) aNil))))) (cTup (aCons (cCst (.str s_w15)) (aCons (cCst (.int 0)) aNil))))
 (sSeq (sRet (cCst (.bl false)))
 sNil)
 sNil)
 (sSeq (sAsg (.nm 4) (cTup (aCons (cTup aNil) (aCons (cTup aNil) (aCons (cTup (aCons (cTup (aCons (cCst (.str s_w12)) (aCons (cSlot 6) (aCons (cCst (.str s_w1)) aNil)))) aNil)) aNil)))))
 (sSeq (sAsg (.nm 5) (cTup (aCons (cTup (aCons (cCst (.str s_w13)) (aCons (cSlot 6) (aCons (cSlot 7) aNil)))) (aCons (cTup (aCons (cCst (.str s_w14)) (aCons (cSlot 7) (aCons (cSlot 7) aNil)))) (aCons (cTup (aCons (cCst (.str s_w13)) (aCons (cSlot 6) (aCons (cSlot 8) aNil)))) aNil)))))
 (sSeq (sIf (tCmpA .ne (cCall T true 56 (aCons (cSlot 4) (aCons (cSlot 5) (aCons (cSlot 2) aNil)))) (cTup (aCons (cCst (.int 0)) (aCons (cCst (.int 1)) aNil))))
 (sSeq (sRet (cCst (.bl false)))
 sNil)
 sNil)
 (sSeq (sRet (cCmp .eq (cCall T true 56 (aCons (cTup (aCons (cTup aNil) (aCons (cTup aNil) (aCons (cTup aNil) aNil)))) (aCons (cTup (aCons (cTup (aCons (cCst (.str s_w14)) (aCons (cSlot 6) (aCons (cCst (.str s_w1)) aNil)))) (aCons (cTup (aCons (cCst (.str s_w14)) (aCons (cSlot 6) (aCons (cSlot 7) aNil)))) aNil))) (aCons (cSlot 2) aNil)))) (cTup (aCons (cCst (.int 0)) aNil))))
 sNil))))))))
def menu81 : List AV := [.tup [.str s_w24, .str s_w23, .str s_w25], .tup [.str s_w25, .str s_w24, .str s_w23], .tup [.str s_w22, .str s_w21, .str s_w20], .tup [.str s_w19, .str s_w18, .str s_w17]]
def sl0 (ns : List Int) : SL := fill [.scr ns] 0 (shape 15)
def sl1 (ns : List Int) : SL := (sl0 ns).set 1 (some (.ref 2))
def h1 (A : List AV) (cells : List Int) (b : Int) : AH := ((AH.nil.push (.lst A)).push (.lst (List.map .int cells))).push (hand 1 0 0 b 0)
def h2 (A : List AV) (cells : List Int) (b1 b2 b3 b4 : Int) (b : Int) : AH := ((h1 A cells b).push (.lst menu81)).set 2 (hand 1 b1 b2 b3 b4)
def slT (ns : List Int) (v : AV) : Option SL := tgtA (.tp (.tcons (.nm 6) (.tcons (.nm 7) (.tcons (.nm 8) .tnil)))) v (sl1 ns)
def endT (A : List AV) (cells : List Int) (b1 b2 b3 b4 b : Int) (ns : List Int) (v : AV) : Bool := match slT ns v with
  | some sl => isT ((r62 T81 sl (h2 A cells b1 b2 b3 b4 b)).fin)
  | none => false
theorem end0 (A : List AV) (cells : List Int) (b1 b2 b3 b4 b : Int) (ns : List Int) : endT A cells b1 b2 b3 b4 b ns (.tup [.str s_w24, .str s_w23, .str s_w25]) = true := by kernel_rfl
theorem end1 (A : List AV) (cells : List Int) (b1 b2 b3 b4 b : Int) (ns : List Int) : endT A cells b1 b2 b3 b4 b ns (.tup [.str s_w25, .str s_w24, .str s_w23]) = true := by kernel_rfl
theorem end2 (A : List AV) (cells : List Int) (b1 b2 b3 b4 b : Int) (ns : List Int) : endT A cells b1 b2 b3 b4 b ns (.tup [.str s_w22, .str s_w21, .str s_w20]) = true := by kernel_rfl
theorem end3 (A : List AV) (cells : List Int) (b1 b2 b3 b4 b : Int) (ns : List Int) : endT A cells b1 b2 b3 b4 b ns (.tup [.str s_w19, .str s_w18, .str s_w17]) = true := by kernel_rfl
theorem law_true (ns : List Int) : isT (runF T81 fb62 [.scr ns] .nil) = true := by
  have e0 : runF T81 fb62 [.scr ns] .nil = (b62 T81 (sl0 ns) .nil).fin := rfl
  obtain ⟨A, cells, eH⟩ := hand_run (T := tabAt prg (runP prg 11)) ns
  have hk : (AH.nil.push (.lst A)).ok := AH.push_ok AH.nil_ok _
  have hk1 : ((AH.nil.push (.lst A)).push (.lst (cells.map .int))).ok := AH.push_ok hk _
  have x1 : Hand (h1 A cells (5531 + 7 * cells.length)) 2 1 cells 0 0 (5531 + 7 * cells.length) 0 := ⟨AH.push_ok hk1 _, by decide, AH.push_new hk1 _, AH.push_old hk1 (AH.push_new hk _)⟩
  have x2 : Hand ((h1 A cells (5531 + 7 * cells.length)).push (.lst menu81)) 2 1 cells 0 0 (5531 + 7 * cells.length) 0 := ⟨AH.push_ok x1.ok _, by decide, AH.push_old x1.ok x1.at_, AH.push_old x1.ok x1.cs⟩
  obtain ⟨i, b1, b2, b3, b4, v, ev, eA⟩ := any_run (k := 10) x2 (Int.le_refl 0) (AH.push_new x1.ok (.lst menu81)) (show (3 : Nat) ≠ 2 from by decide) (by decide) (by decide)
  have s1 : sAsg (.nm 1) (cCall T81 false 57 (aCons (cSlot 0) aNil)) (sl0 ns) .nil = .nx (sl1 ns) (h1 A cells (5531 + 7 * cells.length)) := by
    refine asg_r (v := .ref 2) ?_ rfl
    rw [call_r (h1 := .nil) (vs := [.scr ns]) (by kernel_rfl)]
    exact eH
  have fin : endT A cells b1 b2 b3 b4 (5531 + 7 * cells.length) ns v = true := by
    match i, ev with
    | 0, ev =>
      cases ev
      exact end0 ..
    | 1, ev =>
      cases ev
      exact end1 ..
    | 2, ev =>
      cases ev
      exact end2 ..
    | 3, ev =>
      cases ev
      exact end3 ..
    | j + 4, ev => cases ev
  unfold endT at fin
  cases et : slT ns v with
  | none =>
    rw [et] at fin
    cases fin
  | some sl =>
    rw [et] at fin
    rw [e0]
    unfold b62
    rw [seq_r s1]
    refine Eq.trans (congrArg (fun r => isT (RSt.fin r)) (seq_r (sl1 := sl) (h1 := h2 A cells b1 b2 b3 b4 (5531 + 7 * cells.length)) (asg_r (v := v) ?_ et))) fin
    rw [call_r (h1 := (h1 A cells (5531 + 7 * cells.length)).push (.lst menu81)) (vs := [.ref 2, .ref 3]) (by kernel_rfl)]
    exact eA
end G
end

set_option Elab.async false
set_option linter.all false
set_option maxRecDepth 100000
set_option maxHeartbeats 0
set_option autoImplicit false
noncomputable section
namespace G
open PySem PySem.Spec PyProof.Rows L2 Ev
def lo0 : List PySem.Str := ["ChainError", "NoClaim", "NoNames", "NoDeeds", "TooMany", "NIL", "BOUND_WORDS", "LETTERS", "MOST_LETTERS", "is_name", "is_term", "is_sized", "are_rising", "is_pair_of_terms", "are_names", "without_doubles", "CELL", "CHAIN", "ATOM_WORDS", "MOST_PAIRS", "MOST_ATOMS", "MOST_CHAINS", "MOST_CLAIM_NAMES", "is_atom", "are_facts", "are_atoms", "terms_told", "raw_names", "is_claim", "check_claim"]
def lo1 : List PySem.Str := ["NIL_WORD", "TWICE", "check_names", "raw_partings", "raw_classes_many", "class_table", "keeps_by", "live_by", "dead_by", "ONE_CELL", "NEW_PLACE", "heap_by", "edges_by", "live_partings", "LET", "READ", "WRITE", "NEW", "FREE", "IF", "WHILE", "SAME", "OTHER", "PLAIN_DEEDS", "MOST_DEEDS", "MOST_DEEP", "MOST_PROGRAM_NAMES", "is_test", "is_plain_deed", "has_deed_form"]
def lo2 : List PySem.Str := ["lists_within", "has_shape", "all_deeds", "terms_of", "raw_used", "is_program", "are_straight", "MOST_NODES", "raw_pictures", "Track", "opened_tracks", "new_tracks", "done_tracks", "edges_of", "first_state", "past_ifs", "ALIKE_WORD", "APART_WORD", "MOST_BOTH", "split_tracks", "needed_node", "all_ways", "begun_again", "refined_edges", "are_ends_alike", "raw_alike_deeds", "check_both", "alike_deeds", "needless_deeds", "_law_hand"]
def lo3 : List PySem.Str := ["_law_draw", "_law_any", "_law_pair", "_law_cases", "__name__"]
def lo : List PySem.Str := lo0 ++ lo1 ++ lo2 ++ lo3
abbrev R : PySem.W.OpenRow := PySem.W.OpenLaw.row PySem.Challenge.rw_chainclaims_k81_alike_deeds_known_by_han
abbrev hk : PySem.W.Hook := He.hookX 5 fa fn [] [] exB
def ob (s : PySem.W.SharedT) : He.AlX := He.obsX 5 fa fn [] [] exB (HandSHeadRun.getT s)
theorem ob_eq (s : PySem.W.SharedT) : ob s = hk.obs s.abs := He.obsX_eq (HandSHeadRun.getT_eq s)
theorem run (w : World) : HandSHeadRun.RunEq R (PySem.W.view R.prog [107]) hk ob 20000 lo w := by
  intro os
  kernel_rfl
theorem callsEnd {P : Program} {w : World} {K : PySem.W.Frag} {mg : Str → Option Value} {base : Heap} (Z : Hd K mg) : CallsG P w K mg base T81 24 :=
  calls_of Z (fun n fb e => .inr ⟨tabAt prg (runP prg 11), 22, rfl, calls Z 11, by
    funext vs h
    show (match defsL[n]? with
      | some fb => runF (tabAt prg (runP prg 11)) fb vs h
      | none => .bad) = _
    rw [e]⟩) rfl rfl T81_pure
theorem facts {P : Program} {w : World} {K : PySem.W.Frag} {h : Heap} {mg : Str → Option Value} {f : Addr} (KX : K.In h) (G : h.Ns mainGlobals mg) (hfa : mg ("law" : Str) = some (.ref f)) (c : He.SaysX fa fn [] [] exB w h K) :
    ∃ fd : FuncData, (∀ (s : Shared) (v : Value), BindsTo s fd ⟨[v], []⟩ [("script", v)]) ∧ ∀ base : Heap, K.In base → base.Ns mainGlobals mg → FnOk P w K mg base CN0 26 f fd ["script"] (spN (Nc K) (runF T81 fb62)) := by
  have Z : Hd K mg := ⟨⟨h, KX, G⟩, c.t.d, c.more⟩
  have e0 := hfa.symm.trans (q_d_law Z)
  cases e0
  obtain ⟨fd, F⟩ := Z.c.def_ 62 (d := d62) rfl
  have b := FunD.bindsA (ps := ["script"]) F fun _ _ _ _ _ _ us hl => match us, hl with | [_], _ => rfl
  refine ⟨fd, fun s v => b s [v] rfl, fun base KB GB => ?_⟩
  exact F.ok (k := 25) sc62 (fun vs H Q E h => by rw [sp_len h]; rfl) fun cdv A outer s H vs Q E hr h => ⟨_, PSs.nox (w62 Z (callsEnd Z) hr), body_ok (Nm := n62) rfl (by decide) h⟩
theorem law_post {K : PySem.W.Frag} {H : Hp} {a : Addr} {ns : List Int} (hS : SqL K H a (ns.map V.int)) (hO : Only H) : spN (Nc K) (runF T81 fb62) [.ref a] H (fun v _ => v = .bl true) fun _ _ _ => False := by
  refine ⟨[], .nil, [.scr ns], Rel.nil, ⟨_, _, rfl, ⟨a, rfl, ?_⟩, rfl⟩, ?_⟩
  · rcases hS with hS | hS
    · rcases hS with hS | ⟨o, hS⟩
      · rcases hO a with q | ⟨o, xs, q⟩
        · rw [q] at hS
          cases hS
        · rw [q] at hS
          cases hS
      · exact .inl ⟨o, hS⟩
    · exact .inr hS
  · have t := law_true ns
    cases e : runF T81 fb62 [.scr ns] .nil with
    | ok v h =>
      rw [e] at t
      cases v with
      | bl b =>
        cases b with
        | true => exact fun ι' H' w x R r => r
        | false => cases t
      | _ => cases t
    | exc c us h =>
      rw [e] at t
      cases t
    | bad =>
      rw [e] at t
      cases t
end G
end
open PySem PySem.W PySem.Calls PyProof.Rows
theorem PySem.Challenge.cw_chainclaims_k81_alike_deeds_known_by_han_holds : PySem.Challenge.rw_chainclaims_k81_alike_deeds_known_by_han.Holds := by
  w_on; o_law
  refine HandSHeadRun.head_any (r := OpenLaw.row PySem.Challenge.rw_chainclaims_k81_alike_deeds_known_by_han) (q := view (OpenLaw.row PySem.Challenge.rw_chainclaims_k81_alike_deeds_known_by_han).prog [107]) (H := G.hk) (ob := G.ob) (M := 20000) (loose := G.lo) (d := HandSHeadRun.topDef (OpenLaw.row PySem.Challenge.rw_chainclaims_k81_alike_deeds_known_by_han).prog 107) (kwd := []) G.ob_eq
    (by kernel_rfl) (fun s => by kernel_rfl) G.run (by kernel_rfl) (by kernel_rfl) (by kernel_rfl) (by rfl) (by first | assumption | decide +kernel) (by decide +kernel) ⟨rfl, rfl, rfl, rfl, rfl, by decide +kernel⟩ ?hw ?hc
  case hw => w_witness2
  case hc =>
    refine L2.walk_ofE (l := PySem.Challenge.rw_chainclaims_k81_alike_deeds_known_by_han) (n := 63) (k := 26) (x := "script") (CX := C8.CX0) rfl (by decide) (by kernel_rfl) ⟨rfl, by decide, by decide⟩ ?F (fun _ _ _ _ z => z)
    intro w mg fa h Y GG hmg0
    obtain ⟨K, KX, c⟩ := Y
    have hmg : mg ("law" : PySem.Str) = some (.ref fa) := by
      have e : (HandSHeadRun.topDef (OpenLaw.row PySem.Challenge.rw_chainclaims_k81_alike_deeds_known_by_han).prog 107).name = ("law" : PySem.Str) := by kernel_rfl
      rw [← e]
      exact hmg0
    obtain ⟨fd, hb, hF⟩ := G.facts (P := (PySem.Challenge.rw_chainclaims_k81_alike_deeds_known_by_han).prog) (w := w) KX GG hmg c
    exact ⟨K, fd, _, KX, hb, fun H a ns hl hO hS => G.law_post hS hO, hF⟩

