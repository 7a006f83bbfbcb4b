import PyProof.Rows.All
import Wide.All
import OpenK.AllK
import Wide.FinOn
import HandS.ForMost
import HandS.Evl
import HandS.Style
import HandS.Flow
import HandS.Deep
import HandS.TupAny
import HandS.TupMul
import HandS.TupLe
import HandS.Conv
import HandS.IsInst
import HandS.Wide
import HandS.WideBits
import HandS.SortRule
import HandS.SortInts
import HandS.DictComp
import HandS.More
import HandS.Zip
import HandS.EndBits
import KE.SortData
import KE.GoesNew
import HandS.SortOrd
import HandS.Small
import PySem.Challenge.RW_heirshalves_k13_whole_fixed_ends_that_me
set_option Elab.async false
set_option linter.all false
set_option maxRecDepth 100000
set_option maxHeartbeats 4000000
/-! A small syntax of pure Python over slots, and its evaluator. -/
namespace Iv
open PySem
abbrev D := PySem.PyData

inductive Op2 where
  | add | sub | mul | fdiv | mod | pow | eq | ne | lt | le | gt | ge | isin | notin | is | isnot
inductive Bf where
  | len | abs | sum | all | any | maxL | minL | sorted | tuple | list | int | dict
inductive Ty where
  | int | bool | str | tuple | list | dict
inductive Tg where
  | nm (i : Nat) | tp (ts : List Tg)

mutual
inductive E where
  | var (i : Nat) | cst (d : PySem.PyData) | neg (a : E) | op (o : Op2) (a b : E) | chain (o p : Op2) (a b c : E)
  | and (a b : E) | or (a b : E) | not (a : E) | ife (c a b : E)
  | tup (es : Es) | lst (es : Es) | rep (es : Es) (n : E) | idx (a b : E) | slF (a lo : E) | slT (a hi : E) | slB (a lo hi : E) | rev (a : E)
  | call (f : Str) (es : Es) | bf (b : Bf) (a : E) | mx2 (a b : E) | mn2 (a b : E) | isi (t : Ty) (a : E)
  | lc (vs : List Nat) (t : Tg) (it : It) (c e : E)
  | lc2 (vs vs1 : List Nat) (t : Tg) (it : It) (c : E) (t1 : Tg) (it1 : It) (c1 e : E)
  | dc (vs : List Nat) (t : Tg) (it : It) (c k v : E)
  | disp (ps : Ps) | pop (i : Nat) (a : E) | get1 (a b : E) | get2 (a b c : E)
  | lrg (a : E) | lcD (vs : List Nat) (t : Tg) (i : Nat) (c e : E)
inductive Es where
  | nil | cons (e : E) (es : Es)
inductive Ps where
  | nil | cons (k v : E) (ps : Ps)
inductive It where
  | sq (e : E) | rg1 (e : E) | rg2 (a b : E) | en (e : E) | zp (a b : E)
end

inductive Ent where
  | no | val (d : PySem.PyData) | own (d : PySem.PyData)

/-- the draws' state -/
structure DW where
  great : List Int
  cells : List Int
  rest : Int
  turn : Int

structure S1 where
  r : List Ent
  w : DW

def Ent.dat : Ent → Option D
  | .val d => some d
  | .own d => some d
  | .no => none
/-- what a slot holds (read, not handed on) -/
def S1.dat (s : S1) (i : Nat) : Option D := match s.r[i]? with
  | some e => e.dat
  | none => none
def S1.put (s : S1) (i : Nat) (e : Ent) : S1 := { s with r := s.r.set i e }
/-- a slot's value handed on: what it owned is shared from now on -/
def S1.use (s : S1) (i : Nat) : Option (D × S1) := match s.r[i]? with
  | some (.val d) => some (d, s)
  | some (.own d) => some (d, s.put i (.val d))
  | _ => none

def S1.ownL (s : S1) (i : Nat) : Bool := match s.r[i]? with
  | some (.own (.list _)) => true
  | _ => false
def S1.ownA (s : S1) (i : Nat) : Bool := match s.r[i]? with
  | some (.own _) => true
  | _ => false
abbrev R1 := Option (D × S1)

/-! ### values -/
def line : Nat := 16777216
def big : Int := 18446744073709551616
def small (i : Int) : Bool := Nat.ble i.natAbs 18446744073709551615
theorem small_iff {i : Int} : small i = true ↔ -big < i ∧ i < big := by
  unfold small big
  rw [Nat.ble_eq]
  omega
def intsD : List D → Option (List Int)
  | [] => some []
  | .int i :: r => (intsD r).map (i :: ·)
  | _ => none
def boolsD : List D → Option (List Bool)
  | [] => some []
  | .bool i :: r => (boolsD r).map (i :: ·)
  | _ => none
def seqOf : D → Option (List D)
  | .list xs => some xs
  | .tuple xs => some xs
  | _ => none
def atD (xs : List D) (i : Int) : Option D := L2.atI xs i
def okE (x y : D) : Bool := SeqAt.shaped x && SeqAt.shaped y
def keyOf : D → Option D
  | .int i => some (.int i)
  | .str s => some (.str s)
  | _ => none
def keyEq : D → D → Bool
  | .int i, .int j => decide (i = j)
  | .str s, .str t => decide (s = t)
  | _, _ => false
def look (kvs : List (D × D)) (k : D) : Option D := (kvs.find? fun p => keyEq p.1 k).map (·.2)
/-- a dict of ints and texts -/
def dOk (kvs : List (D × D)) : Bool := kvs.all fun p => (keyOf p.1).isSome
def putD (k v : D) (kvs : List (D × D)) : List (D × D) := if kvs.any (fun p => keyEq p.1 k) then kvs.map (fun p => if keyEq p.1 k then (p.1, v) else p) else kvs ++ [(k, v)]
def mergeD (acc : List (D × D)) : List (D × D) → List (D × D)
  | [] => acc
  | p :: r => mergeD (putD p.1 p.2 acc) r

def addD : D → D → Option D
  | .int i, .int j => some (.int (i + j))
  | .str s, .str t => if s.length + t.length ≤ line then some (.str (s ++ t)) else none
  | .list xs, .list ys => if xs.length + ys.length ≤ line then some (.list (xs ++ ys)) else none
  | .tuple xs, .tuple ys => if xs.length + ys.length ≤ line then some (.tuple (xs ++ ys)) else none
  | _, _ => none
def mulD : D → D → Option D
  | .int i, .int j => if (small i || small j) = true then some (.int (i * j)) else none
  | _, _ => none
def inD (x : D) : D → Option Bool
  | .list ys => if okE x (.list ys) then some (ys.any fun z => PyData.eqv z x) else none
  | .tuple ys => if okE x (.tuple ys) then some (ys.any fun z => PyData.eqv z x) else none
  | .dict kvs => if dOk kvs then (keyOf x).map fun k => (look kvs k).isSome else none
  | _ => none
def isD : D → D → Option Bool
  | x, .none => match x with
    | .none => some true
    | _ => some false
  | .bool a, .bool b => some (decide (a = b))
  | _, _ => none
def cmpD (f : Int → Int → Bool) : D → D → Option D
  | .int i, .int j => some (.bool (f i j))
  | _, _ => none
def op2 : Op2 → D → D → Option D
  | .add, x, y => addD x y
  | .sub, .int i, .int j => some (.int (i - j))
  | .mul, x, y => mulD x y
  | .fdiv, .int i, .int j => if 0 < j ∧ j < big then some (.int (i / j)) else none
  | .mod, .int i, .int j => if 0 < j then some (.int (i % j)) else none
  | .pow, .int i, .int j => if 0 ≤ j ∧ j ≤ 1000000 ∧ small i = true then some (.int (i ^ j.toNat)) else none
  | .eq, x, y => if okE x y then some (.bool (PyData.eqv x y)) else none
  | .ne, x, y => if okE x y then some (.bool (!PyData.eqv x y)) else none
  | .lt, x, y => cmpD (fun i j => decide (i < j)) x y
  | .le, x, y => cmpD (fun i j => decide (i ≤ j)) x y
  | .gt, x, y => cmpD (fun i j => decide (j < i)) x y
  | .ge, x, y => cmpD (fun i j => decide (j ≤ i)) x y
  | .isin, x, y => (inD x y).map .bool
  | .notin, x, y => (inD x y).map fun b => .bool (!b)
  | .is, x, y => (isD x y).map .bool
  | .isnot, x, y => (isD x y).map fun b => .bool (!b)
  | _, _, _ => none

def dataOrd (xs : List D) : List D := xs.mergeSort (W.dataLe false id)
def allAlike (xs : List D) : Bool := xs.all fun x => xs.all fun y => W.alike x y
def isTup : D → Bool
  | .tuple (_ :: _) => true
  | _ => false
def isOth : D → Bool
  | .none => false
  | .tuple _ => false
  | .dict _ => false
  | _ => true
def sortOk (xs : List D) : Bool := decide (xs.length ≤ 1) || (allAlike xs && (xs.all isTup || xs.all isOth) && xs.all fun x => decide (x.depth ≤ 64))
def sumI (xs : List Int) : Int := xs.sum
def maxI : List Int → Option Int
  | [] => none
  | x :: r => some (r.foldl (fun m y => if m < y then y else m) x)
def minI : List Int → Option Int
  | [] => none
  | x :: r => some (r.foldl (fun m y => if y < m then y else m) x)
def pairOf : D → Option (D × D)
  | .tuple [k, v] => (keyOf k).map fun k => (k, v)
  | _ => none
def pairsOf : List D → Option (List (D × D))
  | [] => some []
  | x :: r => match pairOf x, pairsOf r with
    | some p, some q => some (p :: q)
    | _, _ => none
def bf1 : Bf → D → Option D
  | .len, .list xs => some (.int xs.length)
  | .len, .tuple xs => some (.int xs.length)
  | .len, .dict xs => if dOk xs then some (.int xs.length) else match xs with
    | [(.none, .list ys)] => some (.int ys.length)
    | _ => none
  | .len, .str s => if s.length ≤ line then some (.int s.length) else none
  | .abs, .int i => some (.int (if i < 0 then -i else i))
  | .sum, .list xs => (intsD xs).map fun ns => .int ns.sum
  | .all, .list xs => (boolsD xs).map fun bs => .bool (bs.all id)
  | .any, .list xs => (boolsD xs).map fun bs => .bool (bs.any id)
  | .maxL, .list xs => ((intsD xs).bind maxI).map .int
  | .minL, .list xs => ((intsD xs).bind minI).map .int
  | .sorted, .list xs => if sortOk xs then some (.list (dataOrd xs)) else none
  | .sorted, .tuple xs => if sortOk xs then some (.list (dataOrd xs)) else none
  | .tuple, .list xs => some (.tuple xs)
  | .tuple, .tuple xs => some (.tuple xs)
  | .list, .list xs => some (.list xs)
  | .list, .tuple xs => some (.list xs)
  | .list, .dict kvs => if dOk kvs then some (.list (kvs.map (·.1))) else none
  | .int, .int i => some (.int i)
  | .int, .bool b => some (.int (if b then 1 else 0))
  | .dict, .list xs => (pairsOf xs).map fun ps => .dict (mergeD [] ps)
  | _, _ => none
def isTy : Ty → D → Bool
  | .int, .int _ => true
  | .int, .bool _ => true
  | .bool, .bool _ => true
  | .str, .str _ => true
  | .tuple, .tuple _ => true
  | .list, .list _ => true
  | .dict, .dict _ => true
  | _, _ => false
def isiD (t : Ty) (x : D) : Option Bool := match x with
  | .dict kvs => if dOk kvs then some (isTy t x) else none
  | _ => some (isTy t x)
def idxD : D → D → Option D
  | .list xs, .int i => atD xs i
  | .tuple xs, .int i => atD xs i
  | .dict kvs, k => if dOk kvs then (keyOf k).bind fun k => look kvs k else none
  | _, _ => none
def cutD (xs : List D) (lo hi : Option Int) : List D := (xs.drop (HT.sIx xs.length 0 lo)).take (HT.sIx xs.length xs.length hi - HT.sIx xs.length 0 lo)
def slcD (lo hi : Option Int) : D → Option D
  | .list xs => some (.list (cutD xs lo hi))
  | .tuple xs => some (.tuple (cutD xs lo hi))
  | _ => none
def revD : D → Option D
  | .list xs => some (.list xs.reverse)
  | .tuple xs => some (.tuple xs.reverse)
  | _ => none
def rangeD (a b : Int) : List D := (List.range (b - a).toNat).map fun i => .int (a + (i : Nat))
def enumD (i : Nat) : List D → List D
  | [] => []
  | x :: r => .tuple [.int (i : Nat), x] :: enumD (i + 1) r
def zipD : List D → List D → List D
  | x :: r, y :: q => .tuple [x, y] :: zipD r q
  | _, _ => []
def itemsOf : D → Option (List D)
  | .list xs => some xs
  | .tuple xs => some xs
  | _ => none
def rngOk (a : Int) : Bool := decide (-(2 ^ 62) ≤ a) && decide (a < 2 ^ 62)

/-! ### targets -/
mutual
def setT : Tg → D → List Ent → Option (List Ent)
  | .nm i, d, r => if i < r.length then some (r.set i (.val d)) else none
  | .tp ts, .tuple ds, r => setTs ts ds r
  | .tp _, _, _ => none
def setTs : List Tg → List D → List Ent → Option (List Ent)
  | [], [], r => some r
  | t :: ts, d :: ds, r => match setT t d r with
    | some r' => setTs ts ds r'
    | none => none
  | _, _, _ => none
end
def wipeR (r : List Ent) : List Nat → List Ent
  | [] => r
  | v :: vs => (wipeR r vs).set v .no
/-- behind a comprehension: its own slots as they were -/
def backR (old new : List Ent) : List Nat → List Ent
  | [] => new
  | v :: vs => (backR old new vs).set v (old.getD v .no)
def noOwn (r : List Ent) (vs : List Nat) : Bool := vs.all fun v => match r[v]? with
  | some (.own _) => false
  | some _ => true
  | none => false

/-! ### the evaluator of expressions -/
def pk (b : E) (rb : S1 → R1) (s : S1) : R1 := match b with
  | .var i => (s.dat i).map fun d => (d, s)
  | _ => rb s
/-- two operands: a plain name is read as it is when both are there -/
def ev2 (a b : E) (ra rb : S1 → R1) (s : S1) : Option (D × D × S1) := match a with
  | .var i => match s.dat i with
    | some _ => (pk b rb s).bind fun (y, s1) => (s1.dat i).map fun x => (x, y, s1)
    | none => none
  | _ => (ra s).bind fun (x, s1) => (pk b rb s1).map fun (y, s2) => (x, y, s2)
def asB (r : R1) : Option (Bool × S1) := match r with
  | some (.bool b, s) => some (b, s)
  | _ => none
/-- the turns of a comprehension: c the test, e the element -/
def lcGo (vs : List Nat) (t : Tg) (c e : S1 → R1) : List D → S1 → Option (List D × S1)
  | [], s => some ([], s)
  | x :: xs, s => match setT t x (wipeR s.r vs) with
    | none => none
    | some r1 => match asB (c { s with r := r1 }) with
      | some (true, s2) => match e s2 with
        | some (d, s3) => match lcGo vs t c e xs s3 with
          | some (ds, s4) => some (d :: ds, s4)
          | none => none
        | none => none
      | some (false, s2) => lcGo vs t c e xs s2
      | none => none
/-- .. with a second for -/
def lc2Go (vs : List Nat) (t : Tg) (c : S1 → R1) (inner : S1 → Option (List D × S1)) : List D → S1 → Option (List D × S1)
  | [], s => some ([], s)
  | x :: xs, s => match setT t x (wipeR s.r vs) with
    | none => none
    | some r1 => match asB (c { s with r := r1 }) with
      | some (true, s2) => match inner s2 with
        | some (ds, s3) => match lc2Go vs t c inner xs s3 with
          | some (es, s4) => some (ds ++ es, s4)
          | none => none
        | none => none
      | some (false, s2) => lc2Go vs t c inner xs s2
      | none => none
def dcGo (vs : List Nat) (t : Tg) (c k v : S1 → R1) : List D → S1 → List (D × D) → Option (List (D × D) × S1)
  | [], s, acc => some (acc, s)
  | x :: xs, s, acc => match setT t x (wipeR s.r vs) with
    | none => none
    | some r1 => match asB (c { s with r := r1 }) with
      | some (true, s2) => match k s2 with
        | some (kd, s3) => match v s3, keyOf kd with
          | some (vd, s4), some kd => dcGo vs t c k v xs s4 (putD kd vd acc)
          | _, _ => none
        | none => none
      | some (false, s2) => dcGo vs t c k v xs s2 acc
      | none => none
/-- a comprehension around its turns -/
def lcAll (vs : List Nat) (it : S1 → Option (List D × S1)) (go : List D → S1 → Option (List D × S1)) (s : S1) : Option (List D × S1) :=
  match it s with
  | none => none
  | some (xs, s1) => if noOwn s1.r vs && decide (xs.length ≤ line) then
      match go xs s1 with
      | some (ds, s2) => if ds.length ≤ line then some (ds, { s2 with r := backR s1.r s2.r vs }) else none
      | none => none
    else none

section
variable (Φ : Str → List D → DW → Option (D × DW))
mutual
def evE : E → S1 → R1
  | .var i, s => s.use i
  | .cst d, s => some (d, s)
  | .neg a, s => (evE a s).bind fun (d, s1) => match d with
    | .int i => some (.int (-i), s1)
    | _ => none
  | .op o a b, s => (ev2 a b (evE a) (evE b) s).bind fun (x, y, s1) => (op2 o x y).map fun d => (d, s1)
  | .chain o p a b c, s => (evE a s).bind fun (x, s1) => (evE b s1).bind fun (y, s2) => (op2 o x y).bind fun d => match d with
    | .bool true => (evE c s2).bind fun (z, s3) => (op2 p y z).map fun d => (d, s3)
    | .bool false => some (.bool false, s2)
    | _ => none
  | .and a b, s => (evE a s).bind fun (d, s1) => match d with
    | .bool true => evE b s1
    | .bool false => some (.bool false, s1)
    | _ => none
  | .or a b, s => (evE a s).bind fun (d, s1) => match d with
    | .bool true => some (.bool true, s1)
    | .bool false => evE b s1
    | _ => none
  | .not a, s => (evE a s).bind fun (d, s1) => match d with
    | .bool b => some (.bool (!b), s1)
    | _ => none
  | .ife c a b, s => (evE c s).bind fun (d, s1) => match d with
    | .bool true => evE a s1
    | .bool false => evE b s1
    | _ => none
  | .tup es, s => (evEs es s).bind fun (ds, s1) => if ds.length ≤ line then some (.tuple ds, s1) else none
  | .lst es, s => (evEs es s).bind fun (ds, s1) => if ds.length ≤ line then some (.list ds, s1) else none
  | .rep es n, s => (evEs es s).bind fun (ds, s1) => (evE n s1).bind fun (d, s2) => match d with
    | .int k => if k < big / 2 ∧ -(big / 2) ≤ k ∧ ds.length ≤ line ∧ ds.length * k.toNat ≤ line then some (.list (List.replicate k.toNat ds).flatten, s2) else none
    | _ => none
  | .idx a b, s => (ev2 a b (evE a) (evE b) s).bind fun (x, y, s1) => (idxD x y).map fun d => (d, s1)
  | .slF a lo, s => (ev2 a lo (evE a) (evE lo) s).bind fun (x, y, s1) => match y with
    | .int i => (slcD (some i) none x).map fun d => (d, s1)
    | _ => none
  | .slT a hi, s => (ev2 a hi (evE a) (evE hi) s).bind fun (x, y, s1) => match y with
    | .int i => (slcD none (some i) x).map fun d => (d, s1)
    | _ => none
  | .slB a lo hi, s => (evE a s).bind fun (x, s1) => (evE lo s1).bind fun (y, s2) => (evE hi s2).bind fun (z, s3) => match y, z with
    | .int i, .int j => (slcD (some i) (some j) x).map fun d => (d, s3)
    | _, _ => none
  | .rev a, s => (pk a (evE a) s).bind fun (x, s1) => (revD x).map fun d => (d, s1)
  | .call f es, s => (evEs es s).bind fun (ds, s1) => (Φ f ds s1.w).map fun (d, w) => (d, { s1 with w := w })
  | .bf b a, s => (pk a (evE a) s).bind fun (x, s1) => (bf1 b x).map fun d => (d, s1)
  | .mx2 a b, s => (evE a s).bind fun (x, s1) => (evE b s1).bind fun (y, s2) => match x, y with
    | .int i, .int j => some (.int (if j > i then j else i), s2)
    | _, _ => none
  | .mn2 a b, s => (evE a s).bind fun (x, s1) => (evE b s1).bind fun (y, s2) => match x, y with
    | .int i, .int j => some (.int (if j < i then j else i), s2)
    | _, _ => none
  | .isi t a, s => (evE a s).bind fun (x, s1) => (isiD t x).map fun b => (.bool b, s1)
  | .lc vs t it c e, s => (lcAll vs (evIt it) (lcGo vs t (evE c) (evE e)) s).map fun (ds, s1) => (.list ds, s1)
  | .lc2 vs vs1 t it c t1 it1 c1 e, s => (lcAll vs (evIt it) (lc2Go vs t (evE c) fun s2 => match evIt it1 s2 with
      | some (ys, s3) => if noOwn s3.r vs1 && decide (ys.length ≤ line) then lcGo vs1 t1 (evE c1) (evE e) ys s3 else none
      | none => none) s).map fun (ds, s1) => (.list ds, s1)
  | .dc vs t it c k v, s => match evIt it s with
    | none => none
    | some (xs, s1) => if noOwn s1.r vs && decide (xs.length ≤ line) then
        match dcGo vs t (evE c) (evE k) (evE v) xs s1 [] with
        | some (kvs, s2) => some (.dict kvs, { s2 with r := backR s1.r s2.r vs })
        | none => none
      else none
  | .disp ps, s => evDisp ps s []
  | .pop i a, s => if s.ownL i then (evE a s).bind fun (x, s1) => match x, s1.r[i]? with
    | .int k, some (.own (.list xs)) => if -(2 ^ 63) ≤ k ∧ k < 2 ^ 63 then match L2.ixN xs.length k with
      | some j => match xs[j]? with
        | some d => some (d, s1.put i (.own (.list (xs.eraseIdx j))))
        | none => none
      | none => none
      else none
    | _, _ => none
    else none
  | .get1 a b, s => (ev2 a b (evE a) (evE b) s).bind fun (x, y, s1) => match x with
    | .dict kvs => if dOk kvs then (keyOf y).map fun k => ((look kvs k).getD .none, s1) else none
    | _ => none
  | .get2 a b c, s => (evE a s).bind fun (x, s1) => (evE b s1).bind fun (y, s2) => (evE c s2).bind fun (z, s3) => match x with
    | .dict kvs => if dOk kvs then (keyOf y).map fun k => ((look kvs k).getD z, s3) else none
    | _ => none
  | .lrg a, s => (evE a s).bind fun (x, s1) => match x with
    | .int j => if rngOk j && decide (j.toNat ≤ line) then some (.list (rangeD 0 j), s1) else none
    | _ => none
  | .lcD vs t i c e, s => match s.r[i]? with
    | some (.own (.dict kvs)) => if dOk kvs && noOwn s.r vs && !vs.contains i then
        match lcGo vs t (evE c) (evE e) (kvs.map (·.1)) (s.put i .no) with
        | some (ds, s2) => if ds.length ≤ line then some (.list ds, { s2 with r := (backR s.r s2.r vs).set i (.own (.dict kvs)) }) else none
        | none => none
      else none
    | _ => none
def evEs : Es → S1 → Option (List D × S1)
  | .nil, s => some ([], s)
  | .cons e es, s => (evE e s).bind fun (d, s1) => (evEs es s1).map fun (ds, s2) => (d :: ds, s2)
def evDisp : Ps → S1 → List (D × D) → R1
  | .nil, s, acc => some (.dict acc, s)
  | .cons k v ps, s, acc => (evE k s).bind fun (kd, s1) => (evE v s1).bind fun (vd, s2) => (keyOf kd).bind fun kd => evDisp ps s2 (putD kd vd acc)
def evIt : It → S1 → Option (List D × S1)
  | .sq e, s => (evE e s).bind fun (x, s1) => (itemsOf x).map fun xs => (xs, s1)
  | .rg1 e, s => (evE e s).bind fun (x, s1) => match x with
    | .int j => if rngOk j then some (rangeD 0 j, s1) else none
    | _ => none
  | .rg2 a b, s => (evE a s).bind fun (x, s1) => (evE b s1).bind fun (y, s2) => match x, y with
    | .int i, .int j => if rngOk i && rngOk j then some (rangeD i j, s2) else none
    | _, _ => none
  | .en e, s => (evE e s).bind fun (x, s1) => (seqOf x).map fun xs => (enumD 0 xs, s1)
  | .zp a b, s => (evE a s).bind fun (x, s1) => (evE b s1).bind fun (y, s2) => match seqOf x, seqOf y with
    | some xs, some ys => some (zipD xs ys, s2)
    | _, _ => none
end

/-! ### statements -/
inductive St where
  | asg (i : Nat) (e : E) | asgO (i : Nat) (e : E) | unp (t : Tg) (e : E) | par (is : List (Nat × Bool)) (es : Es)
  | setI (i : Nat) (k e : E) | app (i : Nat) (e : E) | ext (i : Nat) (e : E)
  | ifs (c : E) (a b : List St) | fors (t : Tg) (it : It) (body : List St) | whl (c : E) (body : List St)
  | ret (e : E) | retN | brk | cont | ex (e : E) | fail
inductive Out where
  | nx | brk | cont | ret (d : D)
abbrev RS := Option (Out × S1)
def forGo (t : Tg) (body : S1 → RS) : List D → S1 → RS
  | [], s => some (.nx, s)
  | x :: xs, s => match setT t x s.r with
    | none => none
    | some r1 => match body { s with r := r1 } with
      | some (.nx, s2) => forGo t body xs s2
      | some (.cont, s2) => forGo t body xs s2
      | some (.brk, s2) => some (.nx, s2)
      | some (.ret d, s2) => some (.ret d, s2)
      | none => none
def whlGo (c : S1 → R1) (body : S1 → RS) : Nat → S1 → RS
  | 0, _ => none
  | n + 1, s => match asB (c s) with
    | some (true, s1) => match body s1 with
      | some (.nx, s2) => whlGo c body n s2
      | some (.cont, s2) => whlGo c body n s2
      | some (.brk, s2) => some (.nx, s2)
      | some (.ret d, s2) => some (.ret d, s2)
      | none => none
    | some (false, s1) => some (.nx, s1)
    | none => none
def putAll (r : List Ent) : List (Nat × Bool) → List D → Option (List Ent)
  | [], [] => some r
  | (i, o) :: is, d :: ds => putAll (r.set i (if o then .own d else .val d)) is ds
  | _, _ => none
def setD (k v : D) : D → Option D
  | .list xs => match k with
    | .int i => (L2.ixN xs.length i).map fun j => .list (xs.set j v)
    | _ => none
  | .dict kvs => if dOk kvs && decide (kvs.length < line) then (keyOf k).map fun k => .dict (putD k v kvs) else none
  | _ => none
variable (fu : Nat)
mutual
def evS : St → S1 → RS
  | .asg i e, s => (evE Φ e s).map fun (d, s1) => (.nx, s1.put i (.val d))
  | .asgO i e, s => (evE Φ e s).map fun (d, s1) => (.nx, s1.put i (.own d))
  | .unp t e, s => (evE Φ e s).bind fun (d, s1) => (setT t d s1.r).map fun r => (.nx, { s1 with r := r })
  | .par is es, s => (evEs Φ es s).bind fun (ds, s1) => (putAll s1.r is ds).map fun r => (.nx, { s1 with r := r })
  | .setI i k e, s => (evE Φ e s).bind fun (v, s1) => if s1.ownA i then (evE Φ k s1).bind fun (kd, s2) => match s2.r[i]? with
    | some (.own d) => (setD kd v d).map fun d' => (.nx, s2.put i (.own d'))
    | _ => none
    else none
  | .app i e, s => if s.ownL i then (evE Φ e s).bind fun (v, s1) => match s1.r[i]? with
    | some (.own (.list xs)) => if xs.length < line then some (.nx, s1.put i (.own (.list (xs ++ [v])))) else none
    | _ => none
    else none
  | .ext i e, s => if s.ownL i then (evE Φ e s).bind fun (v, s1) => match v, s1.r[i]? with
    | .list ys, some (.own (.list xs)) => if xs.length + ys.length ≤ line then some (.nx, s1.put i (.own (.list (xs ++ ys)))) else none
    | _, _ => none
    else none
  | .ifs c a b, s => match asB (evE Φ c s) with
    | some (true, s1) => evSs a s1
    | some (false, s1) => evSs b s1
    | none => none
  | .fors t it body, s => match evIt Φ it s with
    | some (xs, s1) => forGo t (evSs body) xs s1
    | none => none
  | .whl c body, s => whlGo (evE Φ c) (evSs body) fu s
  | .ret e, s => (evE Φ e s).map fun (d, s1) => (.ret d, s1)
  | .retN, s => some (.ret .none, s)
  | .brk, s => some (.brk, s)
  | .cont, s => some (.cont, s)
  | .ex e, s => (evE Φ e s).map fun (_, s1) => (.nx, s1)
  | .fail, _ => none
def evSs : List St → S1 → RS
  | [], s => some (.nx, s)
  | c :: cs, s => match evS c s with
    | some (.nx, s1) => evSs cs s1
    | r => r
end
end

/-! ### functions -/
structure Fn where
  np : Nat
  nn : Nat
  body : List St
def runFn (Φ : Str → List D → DW → Option (D × DW)) (fu : Nat) (f : Fn) (ds : List D) (w : DW) : Option (D × DW) :=
  if ds.length = f.np then
    match evSs Φ fu f.body ⟨ds.map .val ++ List.replicate (f.nn - f.np) .no, w⟩ with
    | some (.nx, s) => some (.none, s.w)
    | some (.ret d, s) => some (d, s.w)
    | _ => none
  else none
abbrev Prim := Str → Option (List D → DW → Option (D × DW))
def callF (pr : Prim) (T : Str → Option Fn) (fu : Nat) : Nat → Str → List D → DW → Option (D × DW)
  | 0, _, _, _ => none
  | k + 1, f, ds, w => match pr f with
    | some g => if 1 ≤ k then g ds w else none
    | none => match T f with
      | some fn => runFn (callF pr T fu k) fu fn ds w
      | none => none
end Iv

namespace Iv
open PySem L2
open Evl (Ex)

/-! ### data in the abstract heap -/
/-- the draws' state as data: handed on, never read -/
def drwTok : D := .dict [(.dict [], .none)]
def keyD : Key → D
  | .inl i => .int i
  | .inr x => .str x
/-- the script, as it was given -/
def scrD (ns : List Int) : PySem.PyData := .dict [(.none, .list (ns.map .int))]
mutual
inductive R (K : PySem.W.Frag) (sa : Addr) (F : Hp) : V → D → Prop
  | non : R K sa F .non .none
  | bl (b : Bool) : R K sa F (.bl b) (.bool b)
  | int (i : Int) : R K sa F (.int i) (.int i)
  | str (x : Str) : R K sa F (.str x) (.str x)
  | lst {a : Addr} {vs : List V} {ds : List D} : Rd F a (.lst vs) → RA K sa F vs ds → R K sa F (.ref a) (.list ds)
  | tup {a : Addr} {vs : List V} {ds : List D} : SqT K F a vs → RA K sa F vs ds → R K sa F (.ref a) (.tuple ds)
  | dic {a : Addr} {kvs : List (Key × V)} {ds : List (D × D)} : F a = some (.dK kvs) → RK K sa F kvs ds → R K sa F (.ref a) (.dict ds)
  | drw : R K sa F (.ref sa) drwTok
  | scr {a : Addr} {ns : List Int} : SqL K F a (ns.map V.int) → R K sa F (.ref a) (scrD ns)
inductive RA (K : PySem.W.Frag) (sa : Addr) (F : Hp) : List V → List D → Prop
  | nil : RA K sa F [] []
  | cons {v : V} {d : D} {vs : List V} {ds : List D} : R K sa F v d → RA K sa F vs ds → RA K sa F (v :: vs) (d :: ds)
inductive RK (K : PySem.W.Frag) (sa : Addr) (F : Hp) : List (Key × V) → List (D × D) → Prop
  | nil : RK K sa F [] []
  | cons {k : Key} {v : V} {d : D} {kvs : List (Key × V)} {ds : List (D × D)} : R K sa F v d → RK K sa F kvs ds → RK K sa F ((k, v) :: kvs) ((keyD k, d) :: ds)
end
section
variable {K : PySem.W.Frag} {sa : Addr} {F F' H : Hp}
mutual
theorem R.mono (e : Ex F F') : ∀ {v : V} {d : D}, R K sa F v d → R K sa F' v d
  | _, _, .non => .non
  | _, _, .bl b => .bl b
  | _, _, .int b => .int b
  | _, _, .str b => .str b
  | _, _, .lst h r => .lst (Evl.ex_rd e h) (RA.mono e r)
  | _, _, .tup h r => .tup (Evl.ex_t e h) (RA.mono e r)
  | _, _, .dic h r => .dic (e _ _ h) (RK.mono e r)
  | _, _, .drw => .drw
  | _, _, .scr h => .scr (Evl.ex_l e h)
theorem RA.mono (e : Ex F F') : ∀ {v : List V} {d : List D}, RA K sa F v d → RA K sa F' v d
  | _, _, .nil => .nil
  | _, _, .cons h r => .cons (R.mono e h) (RA.mono e r)
theorem RK.mono (e : Ex F F') : ∀ {v : List (Key × V)} {d : List (D × D)}, RK K sa F v d → RK K sa F' v d
  | _, _, .nil => .nil
  | _, _, .cons h r => .cons (R.mono e h) (RK.mono e r)
end
theorem RA.length : ∀ {vs : List V} {ds : List D}, RA K sa F vs ds → vs.length = ds.length
  | _, _, .nil => rfl
  | _, _, .cons _ r => by simp only [List.length_cons, RA.length r]
theorem RK.length : ∀ {vs : List (Key × V)} {ds : List (D × D)}, RK K sa F vs ds → vs.length = ds.length
  | _, _, .nil => rfl
  | _, _, .cons _ r => by simp only [List.length_cons, RK.length r]
theorem RA.app : ∀ {vs ws : List V} {ds es : List D}, RA K sa F vs ds → RA K sa F ws es → RA K sa F (vs ++ ws) (ds ++ es)
  | _, _, _, _, .nil, r => r
  | _, _, _, _, .cons h q, r => .cons h (RA.app q r)
theorem RA.get : ∀ {vs : List V} {ds : List D} {i : Nat} {d : D}, RA K sa F vs ds → ds[i]? = some d → ∃ v, vs[i]? = some v ∧ R K sa F v d
  | _, _, _, _, .nil, e => by simp at e
  | _, _, 0, _, .cons h _, e => by simp at e; subst e; exact ⟨_, rfl, h⟩
  | _, _, i + 1, _, .cons _ q, e => by
    obtain ⟨u, h1, h2⟩ := RA.get (i := i) q (by simpa using e)
    exact ⟨u, by simpa using h1, h2⟩
theorem RA.get' : ∀ {vs : List V} {ds : List D} {i : Nat} {v : V}, RA K sa F vs ds → vs[i]? = some v → ∃ d, ds[i]? = some d ∧ R K sa F v d
  | _, _, _, _, .nil, e => by simp at e
  | _, _, 0, _, .cons h _, e => by simp at e; subst e; exact ⟨_, rfl, h⟩
  | _, _, i + 1, _, .cons _ q, e => by
    obtain ⟨u, h1, h2⟩ := RA.get' (i := i) q (by simpa using e)
    exact ⟨u, by simpa using h1, h2⟩
theorem RA.set {v : V} {d : D} (h : R K sa F v d) : ∀ {vs : List V} {ds : List D} (i : Nat), RA K sa F vs ds → RA K sa F (vs.set i v) (ds.set i d)
  | _, _, _, .nil => .nil
  | _, _, 0, .cons _ q => .cons h q
  | _, _, i + 1, .cons g q => .cons g (RA.set h i q)
theorem RA.erase : ∀ {vs : List V} {ds : List D} (i : Nat), RA K sa F vs ds → RA K sa F (vs.eraseIdx i) (ds.eraseIdx i)
  | _, _, _, .nil => .nil
  | _, _, 0, .cons _ q => q
  | _, _, i + 1, .cons g q => .cons g (RA.erase i q)
theorem RA.take : ∀ {vs : List V} {ds : List D} (n : Nat), RA K sa F vs ds → RA K sa F (vs.take n) (ds.take n)
  | _, _, 0, _ => .nil
  | _, _, _ + 1, .nil => .nil
  | _, _, n + 1, .cons r t => .cons r (RA.take n t)
theorem RA.drop : ∀ {vs : List V} {ds : List D} (n : Nat), RA K sa F vs ds → RA K sa F (vs.drop n) (ds.drop n)
  | _, _, 0, r => r
  | _, _, _ + 1, .nil => .nil
  | _, _, n + 1, .cons _ t => RA.drop n t
theorem RA.rev {vs : List V} {ds : List D} (h : RA K sa F vs ds) : RA K sa F vs.reverse ds.reverse := by
  induction vs generalizing ds with
  | nil => cases h; exact .nil
  | cons v vs ih =>
    cases h with
    | cons g q => rw [List.reverse_cons, List.reverse_cons]; exact (ih q).app (.cons g .nil)
theorem RA.rep {vs : List V} {ds : List D} (h : RA K sa F vs ds) : ∀ n : Nat, RA K sa F (List.replicate n vs).flatten (List.replicate n ds).flatten
  | 0 => .nil
  | n + 1 => by
    rw [List.replicate_succ, List.replicate_succ, List.flatten_cons, List.flatten_cons]
    exact h.app (RA.rep h n)
end

/-! ### the draws' state -/
structure WA where
  s : Addr
  g : Addr
  c : Addr
def InW (wa : WA) (a : Addr) : Prop := a = wa.s ∨ a = wa.g ∨ a = wa.c
def RepW (wa : WA) (H : Hp) (w : DW) : Prop :=
  H wa.s = some (.dK [(.inr "great", .ref wa.g), (.inr "cells", .ref wa.c), (.inr "rest", .int w.rest), (.inr "turn", .int w.turn)]) ∧ H wa.g = some (.lst (w.great.map V.int)) ∧ H wa.c = some (.lst (w.cells.map V.int)) ∧ wa.g ≠ wa.c
theorem RepW.at {wa : WA} {H : Hp} {w : DW} {a : Addr} (h : RepW wa H w) (i : InW wa a) : ∃ o, H a = some o := by
  obtain ⟨h1, h2, h3, _⟩ := h
  rcases i with rfl | rfl | rfl
  · exact ⟨_, h1⟩
  · exact ⟨_, h2⟩
  · exact ⟨_, h3⟩
theorem RepW.ext {wa : WA} {H H' : Hp} {w : DW} (h : RepW wa H w) (k : ∀ a, InW wa a → H' a = H a) : RepW wa H' w := by
  obtain ⟨h1, h2, h3, h4⟩ := h
  exact ⟨by rw [k _ (.inl rfl)]; exact h1, by rw [k _ (.inr (.inl rfl))]; exact h2, by rw [k _ (.inr (.inr rfl))]; exact h3, h4⟩

/-! ### a state of a body -/
structure Pm where
  K : PySem.W.Frag
  wa : WA
  H0 : Hp
  F0 : Hp
  Φ : Str → List D → DW → Option (D × DW)
  fu : Nat
/-- what a slot owns -/
def RO (p : Pm) (F H : Hp) (a : Addr) : D → Prop
  | .list ds => ∃ vs, H a = some (.lst vs) ∧ RA p.K p.wa.s F vs ds
  | .dict ds => ∃ kvs, H a = some (.dK kvs) ∧ RK p.K p.wa.s F kvs ds
  | _ => False
def Owned (σ : L2.St) (s : S1) (a : Addr) : Prop := ∃ (i : Nat) (d : D), s.r[i]? = some (.own d) ∧ σ[i]? = some (some (.ref a))
structure Good (p : Pm) (F H : Hp) (σ : L2.St) (s : S1) : Prop where
  ex : Ex F H
  f0 : Ex p.F0 F
  fn : ∀ a o, F a = some o → p.F0 a = some o ∨ p.H0 a = none
  keep : ∀ a o, p.H0 a = some o → ¬ InW p.wa a → H a = some o
  len : σ.length = s.r.length
  val : ∀ (i : Nat) d, s.r[i]? = some (.val d) → ∃ v, σ[i]? = some (some v) ∧ R p.K p.wa.s F v d
  own : ∀ (i : Nat) d, s.r[i]? = some (.own d) → ∃ a, σ[i]? = some (some (.ref a)) ∧ F a = none ∧ p.H0 a = none ∧ RO p F H a d
  dis : ∀ (i j : Nat) d e a, s.r[i]? = some (.own d) → s.r[j]? = some (.own e) → σ[i]? = some (some (.ref a)) → σ[j]? = some (some (.ref a)) → i = j
  wrd : RepW p.wa H s.w
  wF : ∀ a, InW p.wa a → F a = none
  w0 : ∀ a, InW p.wa a → p.H0 a ≠ none
/-- from one state to a later one within an expression -/
structure Nxt (p : Pm) (σ : L2.St) (s : S1) (F H : Hp) (s' : S1) (F' H' : Hp) : Prop where
  ex : Ex F F'
  keep : ∀ a o, H a = some o → ¬ Owned σ s a → ¬ InW p.wa a → H' a = some o
  new : ∀ a o, F' a = some o → F a = some o ∨ H a = none ∨ Owned σ s a
  own : ∀ (i : Nat) d, s'.r[i]? = some (.own d) → ∃ d', s.r[i]? = some (.own d')
  len : s'.r.length = s.r.length
  dom : ∀ a, H' a = none → H a = none
section
variable {p : Pm} {σ : L2.St} {s s1 s2 : S1} {F F1 F2 H H1 H2 : Hp}
theorem Nxt.refl : Nxt p σ s F H s F H := ⟨fun _ _ h => h, fun _ _ h _ _ => h, fun _ _ h => .inl h, fun _ d h => ⟨d, h⟩, rfl, fun _ h => h⟩
theorem Nxt.ownd (a : Nxt p σ s F H s1 F1 H1) {x : Addr} (h : Owned σ s1 x) : Owned σ s x := by
  obtain ⟨i, d, h1, h2⟩ := h
  obtain ⟨d', h3⟩ := a.own i d h1
  exact ⟨i, d', h3, h2⟩
theorem Nxt.trans (a : Nxt p σ s F H s1 F1 H1) (b : Nxt p σ s1 F1 H1 s2 F2 H2) (g : Good p F2 H2 σ s2) : Nxt p σ s F H s2 F2 H2 where
  ex := a.ex.trans b.ex
  keep := fun x o h n w => b.keep x o (a.keep x o h n w) (fun z => n (a.ownd z)) w
  new := fun x o h => by
    rcases b.new x o h with z | z | z
    · exact a.new x o z
    · cases e : H x with
      | none => exact .inr (.inl rfl)
      | some u =>
        by_cases n : Owned σ s x
        · exact .inr (.inr n)
        · by_cases w : InW p.wa x
          · rw [g.wF x w] at h; cases h
          · rw [a.keep x u e n w] at z; cases z
    · exact .inr (.inr (a.ownd z))
  own := fun i d h => by
    obtain ⟨d1, h1⟩ := b.own i d h
    exact a.own i d1 h1
  len := b.len.trans a.len
  dom := fun x h => a.dom x (b.dom x h)
theorem Good.ownW (g : Good p F H σ s) {a : Addr} (h : Owned σ s a) : F a = none ∧ p.H0 a = none ∧ ¬ InW p.wa a := by
  obtain ⟨i, d, h1, h2⟩ := h
  obtain ⟨b, h3, h4, h5, _⟩ := g.own i d h1
  rw [h2] at h3; cases h3
  exact ⟨h4, h5, fun w => g.w0 a w h5⟩
theorem Good.noneF (g : Good p F H σ s) {a : Addr} (h : H a = none) : F a = none := by
  cases e : F a with
  | none => rfl
  | some o => rw [g.ex a o e] at h; cases h
theorem Good.noneW (g : Good p F H σ s) {a : Addr} (h : H a = none) : ¬ InW p.wa a := fun w => by
  obtain ⟨o, e⟩ := g.wrd.at w
  rw [h] at e; cases e
theorem Good.none0 (g : Good p F H σ s) {a : Addr} (h : H a = none) : p.H0 a = none := by
  cases e : p.H0 a with
  | none => rfl
  | some o => rw [g.keep a o e (g.noneW h)] at h; cases h
theorem Good.noneO (g : Good p F H σ s) {a : Addr} (h : H a = none) : ¬ Owned σ s a := fun ⟨i, d, h1, h2⟩ => by
  obtain ⟨b, h3, _, _, h4⟩ := g.own i d h1
  rw [h2] at h3; cases h3
  cases d <;> first | (obtain ⟨_, e, _⟩ := h4; rw [h] at e; cases e) | exact h4.elim
theorem upd_ex {a : Addr} {o : HO} (h : F a = none) : Ex F (upd F a o) := Ex.new h
/-- what an owned slot holds stays when other things are known and other objects change -/
theorem RO.mono {a : Addr} {d : D} (h : RO p F H a d) (e : Ex F F1) (k : H1 a = H a) : RO p F1 H1 a d := by
  cases d <;> first | (obtain ⟨vs, h1, h2⟩ := h; exact ⟨vs, by rw [k]; exact h1, h2.mono e⟩) | exact h.elim
/-- a new object: known from now on -/
theorem Good.new (g : Good p F H σ s) {a : Addr} {o : HO} (h : H a = none) : Good p (upd F a o) (upd H a o) σ s where
  ex := fun b u e => by
    by_cases hb : b = a
    · subst hb; rw [upd_same] at e ⊢; exact e
    · rw [upd_ne hb] at e ⊢; exact g.ex b u e
  f0 := g.f0.trans (upd_ex (g.noneF h))
  fn := fun b u e => by
    by_cases hb : b = a
    · subst hb; exact .inr (g.none0 h)
    · rw [upd_ne hb] at e; exact g.fn b u e
  keep := fun b u e w => by
    have := g.keep b u e w
    rw [upd_ne (ne_of_none this h)]; exact this
  len := g.len
  val := fun i d e => by
    obtain ⟨v, h1, h2⟩ := g.val i d e
    exact ⟨v, h1, h2.mono (upd_ex (g.noneF h))⟩
  own := fun i d e => by
    obtain ⟨b, h1, h2, h3, h4⟩ := g.own i d e
    have hb : b ≠ a := fun z => g.noneO h ⟨i, d, e, by rw [← z]; exact h1⟩
    exact ⟨b, h1, by rw [upd_ne hb]; exact h2, h3, h4.mono (upd_ex (g.noneF h)) (upd_ne hb)⟩
  dis := g.dis
  wrd := g.wrd.ext fun b w => upd_ne fun z => g.noneW h (by rw [← z]; exact w)
  wF := fun b w => by rw [upd_ne fun z => g.noneW h (by rw [← z]; exact w)]; exact g.wF b w
  w0 := g.w0
theorem upd_none {a b : Addr} {o : HO} (e : upd H a o b = none) : H b = none := by
  by_cases hb : b = a
  · subst hb; rw [upd_same] at e; cases e
  · rw [upd_ne hb] at e; exact e
theorem Good.nxtNew (g : Good p F H σ s) {a : Addr} {o : HO} (h : H a = none) : Nxt p σ s F H s (upd F a o) (upd H a o) where
  ex := upd_ex (g.noneF h)
  keep := fun b u e _ _ => by rw [upd_ne (ne_of_none e h)]; exact e
  new := fun b u e => by
    by_cases hb : b = a
    · subst hb; exact .inr (.inl h)
    · rw [upd_ne hb] at e; exact .inl e
  own := fun _ d h => ⟨d, h⟩
  len := rfl
  dom := fun b e => upd_none e
/-- a new object that is not yet handed on -/
theorem Good.loose (g : Good p F H σ s) {a : Addr} {o : HO} (h : H a = none) : Good p F (upd H a o) σ s where
  ex := fun b u e => by rw [upd_ne (ne_of_none (g.ex b u e) h)]; exact g.ex b u e
  f0 := g.f0
  fn := g.fn
  keep := fun b u e w => by
    have := g.keep b u e w
    rw [upd_ne (ne_of_none this h)]; exact this
  len := g.len
  val := g.val
  own := fun i d e => by
    obtain ⟨b, h1, h2, h3, h4⟩ := g.own i d e
    have hb : b ≠ a := fun z => g.noneO h ⟨i, d, e, by rw [← z]; exact h1⟩
    exact ⟨b, h1, h2, h3, h4.mono (fun _ _ z => z) (upd_ne hb)⟩
  dis := g.dis
  wrd := g.wrd.ext fun b w => upd_ne fun z => g.noneW h (by rw [← z]; exact w)
  wF := g.wF
  w0 := g.w0
/-- what stands apart is handed on: known from now on -/
theorem Good.freeze (g : Good p F H σ s) {a : Addr} {o : HO} (h : H a = some o) (hF : F a = none) (h0 : p.H0 a = none) (hw : ¬ InW p.wa a) (ho : ¬ Owned σ s a) : Good p (upd F a o) H σ s where
  ex := fun b u e => by
    by_cases hb : b = a
    · subst hb; rw [upd_same] at e; cases e; exact h
    · rw [upd_ne hb] at e; exact g.ex b u e
  f0 := g.f0.trans (upd_ex hF)
  fn := fun b u e => by
    by_cases hb : b = a
    · subst hb; exact .inr h0
    · rw [upd_ne hb] at e; exact g.fn b u e
  keep := g.keep
  len := g.len
  val := fun i d e => by
    obtain ⟨v, h1, h2⟩ := g.val i d e
    exact ⟨v, h1, h2.mono (upd_ex hF)⟩
  own := fun i d e => by
    obtain ⟨b, h1, h2, h3, h4⟩ := g.own i d e
    have hb : b ≠ a := fun z => ho ⟨i, d, e, by rw [← z]; exact h1⟩
    exact ⟨b, h1, by rw [upd_ne hb]; exact h2, h3, h4.mono (upd_ex hF) rfl⟩
  dis := g.dis
  wrd := g.wrd
  wF := fun b w => by rw [upd_ne fun z => hw (by rw [← z]; exact w)]; exact g.wF b w
  w0 := g.w0
theorem put_get {s : S1} {i : Nat} {e : Ent} (j : Nat) : (s.put i e).r[j]? = if i = j then (if j < s.r.length then some e else none) else s.r[j]? := by
  show (s.r.set i e)[j]? = _
  rw [List.getElem?_set]
  by_cases hij : i = j
  · subst hij
    simp
  · simp [hij]
/-- the slot gives up what it owns -/
theorem Good.unown (g : Good p F H σ s) {i : Nat} {d : D} (h : s.r[i]? = some (.own d)) : ∃ a o, σ[i]? = some (some (.ref a)) ∧ H a = some o ∧ Good p (upd F a o) H σ (s.put i (.val d)) ∧ Nxt p σ s F H (s.put i (.val d)) (upd F a o) H ∧ R p.K p.wa.s (upd F a o) (.ref a) d := by
  obtain ⟨a, h1, hF, h0, hR⟩ := g.own i d h
  have hil : i < s.r.length := (List.getElem?_eq_some_iff.mp h).1
  have hO : Owned σ s a := ⟨i, d, h, h1⟩
  have hw : ¬ InW p.wa a := (g.ownW hO).2.2
  obtain ⟨o, ho, hr⟩ : ∃ o, H a = some o ∧ R p.K p.wa.s (upd F a o) (.ref a) d := by
    cases d with
    | list ds =>
      obtain ⟨vs, e1, e2⟩ := hR
      exact ⟨_, e1, .lst (.of upd_same) (e2.mono (upd_ex hF))⟩
    | dict ds =>
      obtain ⟨vs, e1, e2⟩ := hR
      exact ⟨_, e1, .dic upd_same (e2.mono (upd_ex hF))⟩
    | _ => exact hR.elim
  refine ⟨a, o, h1, ho, ?_, ?_, hr⟩
  · refine ⟨fun b u e => ?_, g.f0.trans (upd_ex hF), fun b u e => ?_, g.keep, by rw [g.len]; simp [S1.put], fun j e q => ?_, fun j e q => ?_, fun j k e e' b q1 q2 => ?_, g.wrd, fun b w => ?_, g.w0⟩
    · by_cases hb : b = a
      · subst hb; rw [upd_same] at e; cases e; exact ho
      · rw [upd_ne hb] at e; exact g.ex b u e
    · by_cases hb : b = a
      · subst hb; exact .inr h0
      · rw [upd_ne hb] at e; exact g.fn b u e
    · rw [put_get] at q
      by_cases hij : i = j
      · subst hij
        rw [if_pos rfl, if_pos hil] at q; cases q
        exact ⟨_, h1, hr⟩
      · rw [if_neg hij] at q
        obtain ⟨v, z1, z2⟩ := g.val j e q
        exact ⟨v, z1, z2.mono (upd_ex hF)⟩
    · rw [put_get] at q
      by_cases hij : i = j
      · rw [if_pos hij] at q
        split at q <;> cases q
      · rw [if_neg hij] at q
        obtain ⟨b, z1, z2, z3, z4⟩ := g.own j e q
        have hb : b ≠ a := fun z => hij (g.dis i j d e a h q h1 (by rw [← z]; exact z1))
        exact ⟨b, z1, by rw [upd_ne hb]; exact z2, z3, z4.mono (upd_ex hF) rfl⟩
    · rw [put_get] at q1 q2
      by_cases hij : i = j
      · rw [if_pos hij] at q1; split at q1 <;> cases q1
      · by_cases hik : i = k
        · rw [if_pos hik] at q2; split at q2 <;> cases q2
        · rw [if_neg hij] at q1; rw [if_neg hik] at q2
          exact g.dis j k e e' b q1 q2
    · rw [upd_ne fun z => hw (by rw [← z]; exact w)]; exact g.wF b w
  · refine ⟨upd_ex hF, fun _ _ z _ _ => z, fun b u e => ?_, fun j e q => ?_, by simp [S1.put], fun _ z => z⟩
    · by_cases hb : b = a
      · subst hb; exact .inr (.inr hO)
      · rw [upd_ne hb] at e; exact .inl e
    · rw [put_get] at q
      by_cases hij : i = j
      · rw [if_pos hij] at q; split at q <;> cases q
      · rw [if_neg hij] at q; exact ⟨e, q⟩
end
end Iv

namespace Iv
open PySem L2
open Evl (Ex)

/-- v reads as d now: known, or an object that stands apart -/
def RP (p : Pm) (F H : Hp) (v : V) (d : D) : Prop := R p.K p.wa.s F v d ∨ ∃ a, v = .ref a ∧ F a = none ∧ RO p F H a d
/-- nothing, or one new object that is known from now on -/
def Grow (F H F' H' : Hp) : Prop := (F' = F ∧ H' = H) ∨ ∃ a o, H a = none ∧ F' = upd F a o ∧ H' = upd H a o
section
variable {p : Pm} {σ : L2.St} {s : S1} {F H F' H' : Hp} {v : V} {d : D}
theorem Good.grow (g : Good p F H σ s) (h : Grow F H F' H') : Good p F' H' σ s := by
  rcases h with ⟨rfl, rfl⟩ | ⟨a, o, h1, rfl, rfl⟩
  · exact g
  · exact g.new h1
theorem Good.nxtGrow (g : Good p F H σ s) (h : Grow F H F' H') : Nxt p σ s F H s F' H' := by
  rcases h with ⟨rfl, rfl⟩ | ⟨a, o, h1, rfl, rfl⟩
  · exact .refl
  · exact g.nxtNew h1
theorem RP.ints {i : Int} (h : RP p F H v (.int i)) : v = .int i := by
  rcases h with h | ⟨_, _, _, h⟩
  · cases h; rfl
  · exact h.elim
theorem RP.bool {i : Bool} (h : RP p F H v (.bool i)) : v = .bl i := by
  rcases h with h | ⟨_, _, _, h⟩
  · cases h; rfl
  · exact h.elim
theorem RP.non (h : RP p F H v .none) : v = .non := by
  rcases h with h | ⟨_, _, _, h⟩
  · cases h; rfl
  · exact h.elim
theorem RP.str {i : Str} (h : RP p F H v (.str i)) : v = .str i := by
  rcases h with h | ⟨_, _, _, h⟩
  · cases h; rfl
  · exact h.elim
theorem RP.lst {ds : List D} (e : Ex F H) (h : RP p F H v (.list ds)) : ∃ a vs, v = .ref a ∧ Rd H a (.lst vs) ∧ RA p.K p.wa.s F vs ds := by
  rcases h with h | ⟨a, rfl, _, vs, h1, h2⟩
  · cases h with
    | lst h1 h2 => exact ⟨_, _, rfl, Evl.ex_rd e h1, h2⟩
  · exact ⟨a, vs, rfl, .of h1, h2⟩
theorem RP.tup {ds : List D} (e : Ex F H) (h : RP p F H v (.tuple ds)) : ∃ a vs, v = .ref a ∧ SqT p.K H a vs ∧ RA p.K p.wa.s F vs ds := by
  rcases h with h | ⟨a, rfl, _, h⟩
  · cases h with
    | tup h1 h2 => exact ⟨_, _, rfl, Evl.ex_t e h1, h2⟩
  · exact h.elim
theorem RP.scr {ys : List D} (e : Ex F H) (h : RP p F H v (.dict [(.none, .list ys)])) : ∃ (a : Addr) (ns : List Int), v = .ref a ∧ SqL p.K H a (ns.map V.int) ∧ ys = ns.map .int := by
  have hno : ∀ kvs : List (Key × V), ¬ RK p.K p.wa.s F kvs [(.none, .list ys)] := fun kvs r => by
    generalize hd : ([(PyData.none, PyData.list ys)] : List (D × D)) = ds at r
    cases r with
    | nil => cases hd
    | cons h r =>
      rename_i k _ _ _ _
      simp only [List.cons.injEq, Prod.mk.injEq] at hd
      obtain ⟨⟨hd, _⟩, _⟩ := hd
      cases k <;> cases hd
  rcases h with h | ⟨a, _, _, kvs, _, h⟩
  · generalize hd : (PyData.dict [(.none, .list ys)] : D) = d at h
    cases h with
    | dic h1 h2 => cases hd; exact absurd h2 (hno _)
    | drw => cases hd
    | scr h => 
      rename_i a ns
      cases hd
      exact ⟨a, ns, rfl, Evl.ex_l e h, rfl⟩
    | _ => cases hd
  · exact absurd h (hno _)
theorem RP.dct {ds : List (D × D)} (e : Ex F H) (h : RP p F H v (.dict ds)) (ok : dOk ds = true) : ∃ a kvs, v = .ref a ∧ H a = some (.dK kvs) ∧ RK p.K p.wa.s F kvs ds := by
  rcases h with h | ⟨a, rfl, _, vs, h1, h2⟩
  · cases h with
    | dic h1 h2 => exact ⟨_, _, rfl, e _ _ h1, h2⟩
    | drw => cases ok
    | scr => cases ok
  · exact ⟨a, vs, rfl, h1, h2⟩

/-! ### as the layer's data -/
mutual
def noD : D → Bool
  | .list xs => noDs xs
  | .tuple xs => noDs xs
  | .dict _ => false
  | _ => true
def noDs : List D → Bool
  | [] => true
  | x :: xs => noD x && noDs xs
end
mutual
theorem noD_lay : ∀ d : D, PyData.canLay0 d = true → noD d = true
  | .none, _ => rfl
  | .bool _, _ => rfl
  | .int _, _ => rfl
  | .str _, _ => rfl
  | .list xs, h => by simp only [noD]; exact noDs_lay xs (by simpa [PyData.canLay0] using h)
  | .tuple xs, h => by simp only [noD]; exact noDs_lay xs (by simpa [PyData.canLay0] using h)
  | .dict _, h => by simp [PyData.canLay0] at h
theorem noDs_lay : ∀ d : List D, PyData.canLayAll0 d = true → noDs d = true
  | [], _ => rfl
  | x :: xs, h => by
    simp only [PyData.canLayAll0, Bool.and_eq_true] at h
    simp only [noDs, Bool.and_eq_true]
    exact ⟨noD_lay x h.1, noDs_lay xs h.2⟩
end
mutual
theorem noD_alike : ∀ d : D, PySem.W.alike d d = true → noD d = true
  | .none, _ => rfl
  | .bool _, _ => rfl
  | .int _, _ => rfl
  | .str _, _ => rfl
  | .list xs, h => by simp only [noD]; exact noDs_alike xs (by simpa [PySem.W.alike] using h)
  | .tuple xs, h => by simp only [noD]; exact noDs_alike xs (by simpa [PySem.W.alike] using h)
  | .dict _, h => by simp [PySem.W.alike] at h
theorem noDs_alike : ∀ d : List D, PySem.W.alikeAll d d = true → noDs d = true
  | [], _ => rfl
  | x :: xs, h => by
    simp only [PySem.W.alikeAll, Bool.and_eq_true] at h
    simp only [noDs, Bool.and_eq_true]
    exact ⟨noD_alike x h.1, noDs_alike xs h.2⟩
end
theorem noDs_all : ∀ {d : List D}, (∀ x ∈ d, noD x = true) → noDs d = true
  | [], _ => rfl
  | x :: xs, h => by
    simp only [noDs, Bool.and_eq_true]
    exact ⟨h x (List.mem_cons_self ..), noDs_all fun y hy => h y (List.mem_cons_of_mem _ hy)⟩
mutual
theorem R.dp (e : Ex F H) : ∀ {v : V} {d : D}, noD d = true → R p.K p.wa.s F v d → Dp p.K H v d
  | _, _, _, .non => .non
  | _, _, _, .bl b => .bl b
  | _, _, _, .int b => .int b
  | _, _, _, .str b => .str b
  | _, _, c, .lst h r => .lst (.inl (Evl.ex_rd e h)) (RA.dp e (by simpa [noD] using c) r)
  | _, _, c, .tup h r => .tup (Evl.ex_t e h) (RA.dp e (by simpa [noD] using c) r)
  | _, _, c, .dic _ _ => by simp [noD] at c
  | _, _, c, .drw => by simp [noD, drwTok] at c
  | _, _, c, .scr _ => by simp [noD, scrD] at c
theorem RA.dp (e : Ex F H) : ∀ {v : List V} {d : List D}, noDs d = true → RA p.K p.wa.s F v d → DpAll p.K H v d
  | _, _, _, .nil => .nil
  | _, _, c, .cons h r => .cons (R.dp e (by simp [noDs] at c; exact c.1) h) (RA.dp e (by simp [noDs] at c; exact c.2) r)
end
theorem RP.dp (e : Ex F H) (c : noD d = true) (h : RP p F H v d) : Dp p.K H v d := by
  rcases h with h | ⟨a, rfl, _, h⟩
  · exact h.dp e c
  · cases d with
    | list ds =>
      obtain ⟨vs, h1, h2⟩ := h
      exact .lst (SqL.of h1) (h2.dp e (by simpa [noD] using c))
    | dict ds => simp [noD] at c
    | _ => exact h.elim
end

/-! ### keys -/
theorem keyOf_some {k k' : D} (h : keyOf k = some k') : k' = k ∧ ∃ kk : Key, k = keyD kk := by
  cases k <;> simp [keyOf] at h
  · subst h; exact ⟨rfl, .inl _, rfl⟩
  · subst h; exact ⟨rfl, .inr _, rfl⟩
theorem keyOf_keyD (k : Key) : keyOf (keyD k) = some (keyD k) := by cases k <;> rfl
theorem keyEq_keyD (a b : Key) : keyEq (keyD a) (keyD b) = decide (a = b) := by
  cases a <;> cases b <;> simp [keyEq, keyD]
theorem R_key {K : PySem.W.Frag} {sa : Addr} {F : Hp} {v : V} {k : Key} (h : R K sa F v (keyD k)) : v = kV k := by
  cases k <;> (cases h; rfl)
theorem R_ofKey {K : PySem.W.Frag} {sa : Addr} {F : Hp} (k : Key) : R K sa F (kV k) (keyD k) := by
  cases k
  · exact .int _
  · exact .str _
section
variable {K : PySem.W.Frag} {sa : Addr} {F : Hp}
theorem RK.look' : ∀ {kvs : List (Key × V)} {ds : List (D × D)} (k : Key), RK K sa F kvs ds → (valV kvs k = none ∧ look ds (keyD k) = none) ∨ ∃ v d, valV kvs k = some v ∧ look ds (keyD k) = some d ∧ R K sa F v d
  | _, _, k, .nil => .inl ⟨rfl, rfl⟩
  | _, _, k, .cons (k := j) h r => by
    by_cases e : j = k
    · subst e
      exact .inr ⟨_, _, valV_pos rfl, by simp [Iv.look, List.find?_cons, keyEq_keyD], h⟩
    · rw [valV_neg e]
      have : ∀ (d : D) (q : List (D × D)), Iv.look ((keyD j, d) :: q) (keyD k) = Iv.look q (keyD k) := fun d q => by simp [Iv.look, List.find?_cons, keyEq_keyD, e]
      rw [this]
      exact RK.look' k r
theorem RK.any : ∀ {kvs : List (Key × V)} {ds : List (D × D)} (k : Key), RK K sa F kvs ds → (kvs.any fun kv => decide (kv.1 = k)) = ds.any fun p => keyEq p.1 (keyD k)
  | _, _, k, .nil => rfl
  | _, _, k, .cons h r => by simp [List.any_cons, keyEq_keyD, RK.any k r]
theorem RK.repl {v : V} {d : D} (h : R K sa F v d) (k : Key) : ∀ {kvs : List (Key × V)} {ds : List (D × D)}, RK K sa F kvs ds → RK K sa F (kvs.map fun kv => if kv.1 = k then (kv.1, v) else kv) (ds.map fun p => if keyEq p.1 (keyD k) then (p.1, d) else p)
  | _, _, .nil => .nil
  | _, _, .cons (k := j) g r => by
    rw [List.map_cons, List.map_cons]
    by_cases e : j = k
    · subst e
      simp only [keyEq_keyD, decide_true, if_true]
      exact .cons h (RK.repl h j r)
    · simp only [keyEq_keyD, e, decide_false, if_false]
      exact .cons g (RK.repl h k r)
theorem RK.app : ∀ {kvs : List (Key × V)} {ds : List (D × D)} {kvs' : List (Key × V)} {ds' : List (D × D)}, RK K sa F kvs ds → RK K sa F kvs' ds' → RK K sa F (kvs ++ kvs') (ds ++ ds')
  | _, _, _, _, .nil, r => r
  | _, _, _, _, .cons h q, r => .cons h (RK.app q r)
theorem RK.put {kvs : List (Key × V)} {ds : List (D × D)} (r : RK K sa F kvs ds) {v : V} {d : D} (h : R K sa F v d) (k : Key) : RK K sa F (putK kvs k v) (putD (keyD k) d ds) := by
  unfold putK putD
  rw [r.any k]
  split
  · exact r.repl h k
  · exact r.app (.cons h .nil)
theorem RK.keys : ∀ {kvs : List (Key × V)} {ds : List (D × D)}, RK K sa F kvs ds → RA K sa F (kvs.map fun kv => kV kv.1) (ds.map (·.1))
  | _, _, .nil => .nil
  | _, _, .cons (k := k) h r => .cons (R_ofKey k) (RK.keys r)
end

/-! ### operators -/
def rG (p : Pm) (g : D → D → Option D) : R2 := fun x y H Q => ∃ F dx dy d, Ex F H ∧ RP p F H x dx ∧ RP p F H y dy ∧ g dx dy = some d ∧ ∀ v F' H', Grow F H F' H' → R p.K p.wa.s F' v d → Q v H'
theorem line_eq : sizeLine = line := by rw [sizeLine_eq]; rfl
theorem units_lt {k : Nat} {A : Around} (r : Room k A) : A.units + 65 < cLine := by have := r.un; omega
section
variable {X : Cx} {p : Pm} {k : Nat}
theorem grow_new {F H : Hp} {a : Addr} {o : HO} (h : H a = none) : Grow F H (upd F a o) (upd H a o) := .inr ⟨a, o, h, rfl, rfl⟩
theorem grow_no {F H : Hp} : Grow F H F H := .inl ⟨rfl, rfl⟩
theorem fresh_of {F H : Hp} {a : Addr} (e : Ex F H) (h : H a = none) : F a = none := by
  cases eF : F a with
  | none => rfl
  | some o => rw [e _ _ eF] at h; cases h
theorem ok_add (hK : X.K = p.K) : OpR X (binaryOp .Add) (rG p (op2 .add)) := by
  intro pins s σ H x y v u Q I rx ry h
  obtain ⟨F, dx, dy, d, e, hx, hy, hg, q⟩ := h
  cases dx with
  | int i =>
    cases dy with
    | int j =>
      simp only [op2, addD, Option.some.injEq] at hg; subst hg
      exact op_add pins s σ H x y v u Q I rx ry ⟨i, j, hx.ints, hy.ints, q _ _ _ grow_no (.int _)⟩
    | _ => simp [op2, addD] at hg
  | str i =>
    cases dy with
    | str j =>
      simp only [op2, addD] at hg
      split at hg <;> cases hg
      exact op_add_str pins s σ H x y v u Q I rx ry ⟨i, j, hx.str, hy.str, by rw [line_eq]; assumption, q _ _ _ grow_no (.str _)⟩
    | _ => simp [op2, addD] at hg
  | list xs =>
    cases dy with
    | list ys =>
      simp only [op2, addD] at hg
      split at hg <;> cases hg
      rename_i hl
      obtain ⟨a, vs, rfl, h1, h2⟩ := hx.lst e
      obtain ⟨b, ws, rfl, h3, h4⟩ := hy.lst e
      obtain ⟨z1, its, n, r1, e1⟩ := h1.ok I.hok
      obtain ⟨z2, its2, n2, r2, e2⟩ := h3.ok I.hok
      cases rx
      cases ry
      have l1 := h2.length
      have l2 := h4.length
      have m1 := r1.length
      have m2 := r2.length
      have hle := line_eq
      have e1 : s.heap.get? a = some { cls := .type "list", data := .seq its.toArray n } := e1
      have e2 : s.heap.get? b = some { cls := .type "list", data := .seq its2.toArray n2 } := e2
      refine PySem.P.add_list e1 e2 ?_ (by rw [List.size_toArray, List.size_toArray]; omega)
      have ea : its.toArray ++ its2.toArray = (its ++ its2).toArray := by simp
      rw [ea]
      refine ⟨.ref _, _, I.lnew (t' := s.toks) (r1.append r2) (by rw [List.length_append]; omega), rfl, q _ _ _ (grow_new I.fresh) ?_⟩
      exact .lst (.inl upd_same) ((h2.app h4).mono (Ex.new (fresh_of e I.fresh)))
    | _ => simp [op2, addD] at hg
  | tuple xs =>
    cases dy with
    | tuple ys =>
      simp only [op2, addD] at hg
      split at hg <;> cases hg
      rename_i hl
      obtain ⟨a, vs, rfl, h1, h2⟩ := hx.tup e
      obtain ⟨b, ws, rfl, h3, h4⟩ := hy.tup e
      refine op_catA pins s σ H _ _ v u Q I rx ry ⟨a, b, vs, ws, rfl, rfl, by rw [hK]; exact h1, by rw [hK]; exact h3, by rw [line_eq, h2.length, h4.length]; exact hl, fun e1 => ?_, fun _ e1 => ?_, fun _ _ q' hq => ?_⟩
      · subst e1
        cases h2
        refine q _ _ _ grow_no ?_
        rcases hy with z | ⟨_, _, _, z⟩
        · exact z
        · exact z.elim
      · subst e1
        cases h4
        rw [List.append_nil] at q
        refine q _ _ _ grow_no ?_
        rcases hx with z | ⟨_, _, _, z⟩
        · exact z
        · exact z.elim
      · have hF := fresh_of e hq
        exact q _ _ _ (grow_new hq) (.tup (.of upd_same) ((h2.app h4).mono (Ex.new hF)))
    | _ => simp [op2, addD] at hg
  | _ => simp [op2, addD] at hg

theorem ok_II {f : Value → Value → Sem Value} {r : R2} {g : D → D → Option D} (h : OpR X f r) (hg : ∀ dx dy d, g dx dy = some d → ∃ i j, dx = .int i ∧ dy = .int j ∧ ∀ (H : Hp) (Q : VK), (∀ v, (∀ K sa F, R K sa F v d) → Q v H) → r (.int i) (.int j) H Q) : OpR X f (rG p g) := by
  intro pins s σ H x y v u Q I rx ry ⟨F, dx, dy, d, e, hx, hy, hd, q⟩
  obtain ⟨i, j, rfl, rfl, k⟩ := hg dx dy d hd
  rw [hx.ints] at rx
  rw [hy.ints] at ry
  exact h pins s σ H _ _ v u Q I rx ry (k H Q fun v hv => q v F H grow_no (hv _ _ _))
theorem ok_sub : OpR X (binaryOp .Sub) (rG p (op2 .sub)) := ok_II op_sub fun dx dy d h => by
  cases dx <;> cases dy <;> simp [op2] at h
  subst h
  exact ⟨_, _, rfl, rfl, fun H Q q => ⟨_, _, rfl, rfl, q _ fun _ _ _ => .int _⟩⟩
theorem ok_mul : OpR X (binaryOp .Mult) (rG p (op2 .mul)) := ok_II op_mul fun dx dy d h => by
  cases dx <;> cases dy <;> simp [op2, mulD] at h
  obtain ⟨h1, rfl⟩ := h
  refine ⟨_, _, rfl, rfl, fun H Q q => ⟨_, _, rfl, rfl, ?_, q _ fun _ _ _ => .int _⟩⟩
  simp only [small_iff] at h1
  unfold big at h1
  unfold CMul
  omega
theorem ok_fdiv : OpR X (binaryOp .FloorDiv) (rG p (op2 .fdiv)) := ok_II op_fdivW fun dx dy d h => by
  cases dx <;> cases dy <;> simp [op2] at h
  obtain ⟨⟨h1, h2⟩, rfl⟩ := h
  refine ⟨_, _, rfl, rfl, fun H Q q => ⟨_, _, rfl, rfl, wide_div h1 (b := 64) ?_ (by decide) (by decide), q _ fun _ _ _ => .int _⟩⟩
  unfold big at h2
  omega
theorem ok_mod : OpR X (binaryOp .Mod) (rG p (op2 .mod)) := ok_II op_mod fun dx dy d h => by
  cases dx <;> cases dy <;> simp [op2] at h
  obtain ⟨h1, rfl⟩ := h
  exact ⟨_, _, rfl, rfl, fun H Q q => ⟨_, _, rfl, rfl, h1, q _ fun _ _ _ => .int _⟩⟩
theorem ok_pow : OpR X (binaryOp .Pow) (rG p (op2 .pow)) := ok_II op_pow fun dx dy d h => by
  cases dx <;> cases dy <;> simp [op2] at h
  obtain ⟨⟨h1, h2, h3⟩, rfl⟩ := h
  refine ⟨_, _, rfl, rfl, fun H Q q => ⟨_, _, rfl, rfl, ⟨h1, h2, ?_⟩, q _ fun _ _ _ => .int _⟩⟩
  simp only [small_iff] at h3
  unfold big at h3
  omega
theorem ok_cmp {o : CmpOp} {f : Int → Int → Bool} {g : D → D → Option D} (h : OpR X (compareOp o) (rI0 fun i j => .bl (f i j))) (hg : ∀ x y, g x y = cmpD f x y) : OpR X (compareOp o) (rG p g) := ok_II h fun dx dy d q => by
  rw [hg] at q
  cases dx <;> cases dy <;> simp [cmpD] at q
  subst q
  exact ⟨_, _, rfl, rfl, fun H Q q => ⟨_, _, rfl, rfl, q _ fun _ _ _ => .bl _⟩⟩
theorem ok_lt : OpR X (compareOp .Lt) (rG p (op2 .lt)) := ok_cmp op_lt fun _ _ => rfl
theorem ok_le : OpR X (compareOp .LtE) (rG p (op2 .le)) := ok_cmp op_le fun _ _ => rfl
theorem ok_gt : OpR X (compareOp .Gt) (rG p (op2 .gt)) := ok_cmp op_gt fun _ _ => rfl
theorem ok_ge : OpR X (compareOp .GtE) (rG p (op2 .ge)) := ok_cmp op_ge fun _ _ => rfl
theorem lay_of {d : D} (h : SeqAt.shaped d = true) : PyData.canLay0 d = true := SeqAt.canLay_of_shaped h
theorem ok_eq (hK : X.K = p.K) (hr : Room k X.A) : OpR X (compareOp .Eq) (rG p (op2 .eq)) := by
  intro pins s σ H x y v u Q I rx ry ⟨F, dx, dy, d, e, hx, hy, hd, q⟩
  simp only [op2] at hd
  split at hd <;> cases hd
  rename_i ok
  simp only [okE, Bool.and_eq_true] at ok
  exact op_eqD hr.units pins s σ H x y v u Q I rx ry ⟨dx, dy, by rw [hK]; exact hx.dp e (noD_lay _ (lay_of ok.1)), by rw [hK]; exact hy.dp e (noD_lay _ (lay_of ok.2)), ok.1, ok.2, q _ F H grow_no (.bl _)⟩
theorem ok_ne (hK : X.K = p.K) (hr : Room k X.A) : OpR X (compareOp .NotEq) (rG p (op2 .ne)) := by
  intro pins s σ H x y v u Q I rx ry ⟨F, dx, dy, d, e, hx, hy, hd, q⟩
  simp only [op2] at hd
  split at hd <;> cases hd
  rename_i ok
  simp only [okE, Bool.and_eq_true] at ok
  exact op_neD hr.units pins s σ H x y v u Q I rx ry ⟨dx, dy, by rw [hK]; exact hx.dp e (noD_lay _ (lay_of ok.1)), by rw [hK]; exact hy.dp e (noD_lay _ (lay_of ok.2)), ok.1, ok.2, q _ F H grow_no (.bl _)⟩
/-- a value that stands for data, as the machine's data -/
theorem RP.reads {F H : Hp} {x : V} {v : Value} {d : D} {pins : List (Addr × Obj)} {s : Shared} {σ : L2.St} (I : Inv X pins σ H s) (hK : X.K = p.K) (e : Ex F H) (c : SeqAt.shaped d = true) (h : RP p F H x d) (rx : RelV x v) : ∃ as, Reads s.heap v d as :=
  Dp.reads I d x v (by rw [hK]; exact h.dp e (noD_lay _ (lay_of c))) rx
theorem all_lay {ds : List D} (h : PyData.canLay0 (.list ds) = true) : PyData.canLayAll0 ds = true := by simpa [PyData.canLay0] using h
theorem all_layT {ds : List D} (h : PyData.canLay0 (.tuple ds) = true) : PyData.canLayAll0 ds = true := by simpa [PyData.canLay0] using h
theorem room_in {k : Nat} {A : Around} (r : Room k A) {d : D} {n : Nat} (h : SeqAt.shaped d = true) : A.units + 1 + min n d.depth < cLine := by
  have h1 := SeqAt.depth_of_shaped h
  have h2 := units_lt r
  omega
theorem ok_in (hK : X.K = p.K) (hr : Room k X.A) : OpR X (compareOp .In) (rG p (op2 .isin)) := by
  intro pins s σ H x y v u Q I rx ry ⟨F, dx, dy, d, e, hx, hy, hd, q⟩
  simp only [op2, Option.map_eq_some_iff] at hd
  obtain ⟨b, hb, rfl⟩ := hd
  cases dy <;> simp only [inD] at hb <;> try cases hb
  · split at hb <;> cases hb
    rename_i ok
    simp only [okE, Bool.and_eq_true] at ok
    obtain ⟨as, r1⟩ := hx.reads I hK e ok.1 rx
    obtain ⟨bs, r2⟩ := hy.reads I hK e ok.2 ry
    exact SeqAt.in_list_reads r2 r1 (all_lay (lay_of ok.2)) (lay_of ok.1) (room_in hr ok.1) ⟨.bl _, H, I, rfl, q _ F H grow_no (.bl _)⟩
  · split at hb <;> cases hb
    rename_i ok
    simp only [okE, Bool.and_eq_true] at ok
    obtain ⟨as, r1⟩ := hx.reads I hK e ok.1 rx
    obtain ⟨bs, r2⟩ := hy.reads I hK e ok.2 ry
    exact SeqAt.in_tuple_reads r2 r1 (all_layT (lay_of ok.2)) (lay_of ok.1) (room_in hr ok.1) ⟨.bl _, H, I, rfl, q _ F H grow_no (.bl _)⟩
  · rename_i kvs
    split at hb
    · rename_i ok
      obtain ⟨k', hk, rfl⟩ := Option.map_eq_some_iff.mp hb
      obtain ⟨rfl, kk, rfl⟩ := keyOf_some hk
      obtain ⟨a, vs, rfl, h1, h2⟩ := hy.dct e ok
      have hx' : x = kV kk := by
        rcases hx with hx | ⟨a, _, _, hx⟩
        · exact R_key hx
        · cases kk <;> exact hx.elim
      subst hx'
      cases ry
      have g : DGet H a (kV kk) (valV vs kk) := .k h1
      refine d_in (by have := units_lt hr; omega) I g rx fun s' I' => ⟨.bl _, H, I', rfl, ?_⟩
      have e1 : (valV vs kk).isSome = (look kvs (keyD kk)).isSome := by
        rcases h2.look' kk with ⟨z1, z2⟩ | ⟨v', d', z1, z2, _⟩ <;> rw [z1, z2] <;> rfl
      rw [e1]
      exact q _ F H grow_no (.bl _)
    · cases hb
theorem ok_notin (hK : X.K = p.K) (hr : Room k X.A) : OpR X (compareOp .NotIn) (rG p (op2 .notin)) := by
  intro pins s σ H x y v u Q I rx ry ⟨F, dx, dy, d, e, hx, hy, hd, q⟩
  simp only [op2, Option.map_eq_some_iff] at hd
  obtain ⟨b, hb, rfl⟩ := hd
  cases dy <;> simp only [inD] at hb <;> try cases hb
  · split at hb <;> cases hb
    rename_i ok
    simp only [okE, Bool.and_eq_true] at ok
    obtain ⟨as, r1⟩ := hx.reads I hK e ok.1 rx
    obtain ⟨bs, r2⟩ := hy.reads I hK e ok.2 ry
    exact SeqAt.notIn_list_reads r2 r1 (all_lay (lay_of ok.2)) (lay_of ok.1) (room_in hr ok.1) ⟨.bl _, H, I, rfl, q _ F H grow_no (.bl _)⟩
  · split at hb <;> cases hb
    rename_i ok
    simp only [okE, Bool.and_eq_true] at ok
    obtain ⟨as, r1⟩ := hx.reads I hK e ok.1 rx
    obtain ⟨bs, r2⟩ := hy.reads I hK e ok.2 ry
    exact SeqAt.notIn_tuple_reads r2 r1 (all_layT (lay_of ok.2)) (lay_of ok.1) (room_in hr ok.1) ⟨.bl _, H, I, rfl, q _ F H grow_no (.bl _)⟩
  · rename_i kvs
    split at hb
    · rename_i ok
      obtain ⟨k', hk, rfl⟩ := Option.map_eq_some_iff.mp hb
      obtain ⟨rfl, kk, rfl⟩ := keyOf_some hk
      obtain ⟨a, vs, rfl, h1, h2⟩ := hy.dct e ok
      have hx' : x = kV kk := by
        rcases hx with hx | ⟨a, _, _, hx⟩
        · exact R_key hx
        · cases kk <;> exact hx.elim
      subst hx'
      cases ry
      have g : DGet H a (kV kk) (valV vs kk) := .k h1
      refine d_notIn (by have := units_lt hr; omega) I g rx fun s' I' => ⟨.bl _, H, I', rfl, ?_⟩
      have e1 : (valV vs kk).isSome = (look kvs (keyD kk)).isSome := by
        rcases h2.look' kk with ⟨z1, z2⟩ | ⟨v', d', z1, z2, _⟩ <;> rw [z1, z2] <;> rfl
      rw [e1]
      exact q _ F H grow_no (.bl _)
    · cases hb
theorem RP.isNon {F H : Hp} {x : V} {d : D} {b : Bool} (h : RP p F H x d) (e : isD d .none = some b) : decide (x = .non) = b := by
  cases d <;> simp [isD] at e <;> subst e
  · rw [h.non]; rfl
  all_goals
    refine decide_eq_false fun z => ?_
    subst z
    rcases h with h | ⟨_, z, _⟩
    · cases h
    · cases z
theorem isD_cases {x y : D} {b : Bool} (h : isD x y = some b) : y = .none ∨ ∃ i j, x = .bool i ∧ y = .bool j ∧ b = decide (i = j) := by
  cases y <;> cases x <;> simp [isD] at h <;> first | exact .inl rfl | exact .inr ⟨_, _, rfl, rfl, h.symm⟩
theorem ok_is : OpR X (compareOp .Is) (rG p (op2 .is)) := by
  intro pins s σ H x y v u Q I rx ry ⟨F, dx, dy, d, e, hx, hy, hd, q⟩
  simp only [op2, Option.map_eq_some_iff] at hd
  obtain ⟨b, hb, rfl⟩ := hd
  rcases isD_cases hb with rfl | ⟨i, j, rfl, rfl, rfl⟩
  · refine op_isN pins s σ H x y v u Q I rx ry ⟨hy.non, ?_⟩
    rw [hx.isNon hb]
    exact q _ F H grow_no (.bl _)
  · exact op_isBl pins s σ H x y v u Q I rx ry ⟨i, j, hx.bool, hy.bool, q _ F H grow_no (.bl _)⟩
theorem ok_isnot : OpR X (compareOp .IsNot) (rG p (op2 .isnot)) := by
  intro pins s σ H x y v u Q I rx ry ⟨F, dx, dy, d, e, hx, hy, hd, q⟩
  simp only [op2, Option.map_eq_some_iff] at hd
  obtain ⟨b, hb, rfl⟩ := hd
  rcases isD_cases hb with rfl | ⟨i, j, rfl, rfl, rfl⟩
  · refine op_notN pins s σ H x y v u Q I rx ry ⟨hy.non, ?_⟩
    rw [hx.isNon hb]
    exact q _ F H grow_no (.bl _)
  · exact op_notBl pins s σ H x y v u Q I rx ry ⟨i, j, hx.bool, hy.bool, q _ F H grow_no (.bl _)⟩
end
end Iv

namespace Iv
open PySem L2 PyProof.Rows
open Evl (Ex)

/-! ### built-in functions of one argument -/
def rF (p : Pm) (g : D → Option D) : List V → Hp → VK → Prop := fun vs H Q => ∃ F x dx d, vs = [x] ∧ Ex F H ∧ RP p F H x dx ∧ g dx = some d ∧ ∀ v F' H', Grow F H F' H' → R p.K p.wa.s F' v d → Q v H'
/-- what a new object holds -/
def ROo (p : Pm) (F : Hp) (o : HO) : D → Prop
  | .list ds => ∃ vs, o = .lst vs ∧ RA p.K p.wa.s F vs ds
  | .dict ds => ∃ kvs, o = .dK kvs ∧ RK p.K p.wa.s F kvs ds
  | _ => False
/-- .. whose value is a new object that is not yet handed on -/
def rFL (p : Pm) (g : D → Option D) : List V → Hp → VK → Prop := fun vs H Q => ∃ F x dx d, vs = [x] ∧ Ex F H ∧ RP p F H x dx ∧ g dx = some d ∧ ∀ a o, H a = none → ROo p F o d → Q (.ref a) (upd H a o)
section
variable {X : Cx} {p : Pm} {k : Nat}
theorem ROo.r {F : Hp} {a : Addr} {o : HO} {d : D} (h : ROo p F o d) (hF : F a = none) : R p.K p.wa.s (upd F a o) (.ref a) d := by
  cases d <;> first | (obtain ⟨vs, rfl, r⟩ := h; first | exact .lst (.inl upd_same) (r.mono (Ex.new hF)) | exact .dic upd_same (r.mono (Ex.new hF))) | exact h.elim
theorem ROo.ro {F H : Hp} {a : Addr} {o : HO} {d : D} (h : ROo p F o d) : RO p F (upd H a o) a d := by
  cases d <;> first | (obtain ⟨vs, rfl, r⟩ := h; exact ⟨vs, upd_same, r⟩) | exact h.elim
theorem rFL_of {g : D → Option D} {vs : List V} {H : Hp} {Q : VK} (h : rF p g vs H Q) : rFL p g vs H Q := by
  obtain ⟨F, x, dx, d, e1, e, hx, hd, q⟩ := h
  refine ⟨F, x, dx, d, e1, e, hx, hd, fun a o ha ho => ?_⟩
  exact q _ _ _ (grow_new ha) (ho.r (fresh_of e ha))
theorem ok_loose {f : Value} {g : D → Option D} (h : CallR X f (rFL p g)) : CallR X f (rF p g) := fun pins s σ H xs us Q I r q => h pins s σ H xs us Q I r (rFL_of q)

theorem RA.ints : ∀ {vs : List V} {ds : List D} {ns : List Int} {sa : Addr} {K : PySem.W.Frag} {F : Hp}, RA K sa F vs ds → intsD ds = some ns → vs = ns.map V.int
  | _, _, _, _, _, _, .nil, e => by simp [intsD] at e; subst e; rfl
  | _, _, _, _, _, _, .cons (d := d) (ds := ds) h r, e => by
    cases d <;> simp [intsD] at e
    obtain ⟨q, e1, rfl⟩ := e
    cases h
    rw [RA.ints r e1]; rfl
theorem RA.bools : ∀ {vs : List V} {ds : List D} {ns : List Bool} {sa : Addr} {K : PySem.W.Frag} {F : Hp}, RA K sa F vs ds → boolsD ds = some ns → vs = ns.map V.bl
  | _, _, _, _, _, _, .nil, e => by simp [boolsD] at e; subst e; rfl
  | _, _, _, _, _, _, .cons (d := d) (ds := ds) h r, e => by
    cases d <;> simp [boolsD] at e
    obtain ⟨q, e1, rfl⟩ := e
    cases h
    rw [RA.bools r e1]; rfl


theorem ok_len (hK : X.K = p.K) : CallR X (.builtin "len") (rF p (bf1 .len)) := by
  intro pins s σ H xs us Q I r hh
  obtain ⟨F, x, dx, d, rfl, e, hx, hd, q⟩ := hh
  cases dx <;> simp only [bf1] at hd <;> try cases hd
  · split at hd <;> cases hd
    rename_i h1
    exact call_len_str pins s σ H _ us Q I r ⟨_, by rw [hx.str], by rw [line_eq]; exact h1, q _ F H grow_no (.int _)⟩
  · obtain ⟨a, vs, rfl, h1, h2⟩ := hx.lst e
    refine call_len_seq pins s σ H _ us Q I r ⟨a, vs, rfl, .inl (.inl h1), ?_⟩
    rw [h2.length]; exact q _ F H grow_no (.int _)
  · obtain ⟨a, vs, rfl, h1, h2⟩ := hx.tup e
    refine call_len_seq pins s σ H _ us Q I r ⟨a, vs, rfl, .inr (by rw [hK]; exact h1), ?_⟩
    rw [h2.length]; exact q _ F H grow_no (.int _)
  · split at hd
    · cases hd
      rename_i h0
      obtain ⟨a, vs, rfl, h1, h2⟩ := hx.dct e h0
      refine call_lenD pins s σ H _ us Q I r ⟨a, vs, rfl, h1, ?_⟩
      rw [h2.length]; exact q _ F H grow_no (.int _)
    · split at hd <;> cases hd
      obtain ⟨a, ns, rfl, h1, rfl⟩ := hx.scr e
      refine call_len_seq pins s σ H _ us Q I r ⟨a, _, rfl, .inl (by rw [hK]; exact h1), ?_⟩
      have e1 : (ns.map V.int).length = (ns.map PyData.int).length := by simp
      rw [e1]; exact q _ F H grow_no (.int _)
theorem ok_abs : CallR X (.builtin "abs") (rF p (bf1 .abs)) := by
  intro pins s σ H xs us Q I r hh
  obtain ⟨F, x, dx, d, rfl, e, hx, hd, q⟩ := hh
  cases dx <;> simp only [bf1] at hd <;> cases hd
  exact call_abs pins s σ H _ us Q I r ⟨_, by rw [hx.ints], q _ F H grow_no (.int _)⟩
theorem ok_sum (hc : X.calm = true) : CallR X (.builtin "sum") (rF p (bf1 .sum)) := by
  intro pins s σ H xs us Q I r hh
  obtain ⟨F, x, dx, d, rfl, e, hx, hd, q⟩ := hh
  cases dx <;> simp only [bf1] at hd <;> try cases hd
  obtain ⟨ns, hn, rfl⟩ := Option.map_eq_some_iff.mp hd
  obtain ⟨a, vs, rfl, h1, h2⟩ := hx.lst e
  obtain rfl := h2.ints hn
  exact cr_sum hc pins s σ H _ us Q I r ⟨a, ns, rfl, .inl h1, q _ F H grow_no (.int _)⟩
theorem ok_all (hc : X.calm = true) : CallR X (.builtin "all") (rF p (bf1 .all)) := by
  intro pins s σ H xs us Q I r hh
  obtain ⟨F, x, dx, d, rfl, e, hx, hd, q⟩ := hh
  cases dx <;> simp only [bf1] at hd <;> try cases hd
  obtain ⟨ns, hn, rfl⟩ := Option.map_eq_some_iff.mp hd
  obtain ⟨a, vs, rfl, h1, h2⟩ := hx.lst e
  obtain rfl := h2.bools hn
  exact cr_all hc pins s σ H _ us Q I r ⟨a, ns, rfl, .inl h1, q _ F H grow_no (.bl _)⟩
theorem ok_any (hc : X.calm = true) : CallR X (.builtin "any") (rF p (bf1 .any)) := by
  intro pins s σ H xs us Q I r hh
  obtain ⟨F, x, dx, d, rfl, e, hx, hd, q⟩ := hh
  cases dx <;> simp only [bf1] at hd <;> try cases hd
  obtain ⟨ns, hn, rfl⟩ := Option.map_eq_some_iff.mp hd
  obtain ⟨a, vs, rfl, h1, h2⟩ := hx.lst e
  obtain rfl := h2.bools hn
  exact cr_any hc pins s σ H _ us Q I r ⟨a, ns, rfl, .inl h1, q _ F H grow_no (.bl _)⟩
theorem fold_max : ∀ (l : List Int) (m : Int), m ≤ l.foldl (fun m y => if m < y then y else m) m ∧ (∀ y ∈ l, y ≤ l.foldl (fun m y => if m < y then y else m) m) ∧ (l.foldl (fun m y => if m < y then y else m) m = m ∨ l.foldl (fun m y => if m < y then y else m) m ∈ l)
  | [], m => ⟨Int.le_refl _, by simp, .inl rfl⟩
  | x :: l, m => by
    obtain ⟨h1, h2, h3⟩ := fold_max l (if m < x then x else m)
    have h4 : m ≤ (if m < x then x else m) ∧ x ≤ (if m < x then x else m) := by split <;> omega
    rw [List.foldl_cons]
    refine ⟨Int.le_trans h4.1 h1, fun y hy => ?_, ?_⟩
    · rcases List.mem_cons.mp hy with rfl | hy
      · exact Int.le_trans h4.2 h1
      · exact h2 y hy
    · rcases h3 with h3 | h3
      · rw [h3]
        split
        · exact .inr (List.mem_cons_self ..)
        · exact .inl rfl
      · exact .inr (List.mem_cons_of_mem _ h3)
theorem maxI_is {ns : List Int} {k m : Int} (h : maxI ns = some k) (h1 : m ∈ ns) (h2 : ∀ y, y ∈ ns → y ≤ m) : m = k := by
  cases ns with
  | nil => cases h
  | cons x l =>
    obtain ⟨a, b, c⟩ := fold_max l x
    simp only [maxI, Option.some.injEq] at h
    rw [h] at a b c
    have k1 : m ≤ k := by
      rcases List.mem_cons.mp h1 with rfl | h1
      · exact a
      · exact b m h1
    have k2 : k ≤ m := by
      rcases c with c | c
      · rw [c]; exact h2 _ (List.mem_cons_self ..)
      · exact h2 _ (List.mem_cons_of_mem _ c)
    omega
theorem fold_min : ∀ (l : List Int) (m : Int), l.foldl (fun m y => if y < m then y else m) m ≤ m ∧ (∀ y ∈ l, l.foldl (fun m y => if y < m then y else m) m ≤ y) ∧ (l.foldl (fun m y => if y < m then y else m) m = m ∨ l.foldl (fun m y => if y < m then y else m) m ∈ l)
  | [], m => ⟨Int.le_refl _, by simp, .inl rfl⟩
  | x :: l, m => by
    obtain ⟨h1, h2, h3⟩ := fold_min l (if x < m then x else m)
    have h4 : (if x < m then x else m) ≤ m ∧ (if x < m then x else m) ≤ x := by split <;> omega
    rw [List.foldl_cons]
    refine ⟨Int.le_trans h1 h4.1, fun y hy => ?_, ?_⟩
    · rcases List.mem_cons.mp hy with rfl | hy
      · exact Int.le_trans h1 h4.2
      · exact h2 y hy
    · rcases h3 with h3 | h3
      · rw [h3]
        split
        · exact .inr (List.mem_cons_self ..)
        · exact .inl rfl
      · exact .inr (List.mem_cons_of_mem _ h3)
theorem minI_is {ns : List Int} {k m : Int} (h : minI ns = some k) (h1 : m ∈ ns) (h2 : ∀ y, y ∈ ns → m ≤ y) : m = k := by
  cases ns with
  | nil => cases h
  | cons x l =>
    obtain ⟨a, b, c⟩ := fold_min l x
    simp only [minI, Option.some.injEq] at h
    rw [h] at a b c
    have k1 : k ≤ m := by
      rcases List.mem_cons.mp h1 with rfl | h1
      · exact a
      · exact b m h1
    have k2 : m ≤ k := by
      rcases c with c | c
      · rw [c]; exact h2 _ (List.mem_cons_self ..)
      · exact h2 _ (List.mem_cons_of_mem _ c)
    omega
theorem ok_maxL (hc : X.calm = true) : CallR X (.builtin "max") (rF p (bf1 .maxL)) := by
  intro pins s σ H xs us Q I r hh
  obtain ⟨F, x, dx, d, rfl, e, hx, hd, q⟩ := hh
  cases dx <;> simp only [bf1] at hd <;> try cases hd
  obtain ⟨m, hm, rfl⟩ := Option.map_eq_some_iff.mp hd
  obtain ⟨ns, hn, hm⟩ := Option.bind_eq_some_iff.mp hm
  obtain ⟨a, vs, rfl, h1, h2⟩ := hx.lst e
  obtain rfl := h2.ints hn
  have h0 : 0 < ns.length := by
    cases ns with
    | nil => cases hm
    | cons => simp
  refine cr_max hc pins s σ H _ us Q I r ⟨a, ns, rfl, .inl h1, h0, fun m' a1 a2 => ?_⟩
  rw [maxI_is hm a1 a2]
  exact q _ F H grow_no (.int _)
theorem ok_minL (hc : X.calm = true) : CallR X (.builtin "min") (rF p (bf1 .minL)) := by
  intro pins s σ H xs us Q I r hh
  obtain ⟨F, x, dx, d, rfl, e, hx, hd, q⟩ := hh
  cases dx <;> simp only [bf1] at hd <;> try cases hd
  obtain ⟨m, hm, rfl⟩ := Option.map_eq_some_iff.mp hd
  obtain ⟨ns, hn, hm⟩ := Option.bind_eq_some_iff.mp hm
  obtain ⟨a, vs, rfl, h1, h2⟩ := hx.lst e
  obtain rfl := h2.ints hn
  have h0 : 0 < ns.length := by
    cases ns with
    | nil => cases hm
    | cons => simp
  refine cr_min hc pins s σ H _ us Q I r ⟨a, ns, rfl, .inl h1, h0, fun m' a1 a2 => ?_⟩
  rw [minI_is hm a1 a2]
  exact q _ F H grow_no (.int _)
theorem RP.rTup {F H : Hp} {v : V} {ds : List D} (h : RP p F H v (.tuple ds)) : R p.K p.wa.s F v (.tuple ds) := by
  rcases h with h | ⟨_, _, _, h⟩
  · exact h
  · exact h.elim
theorem ok_tuple (hK : X.K = p.K) : CallR X (.type "tuple") (rF p (bf1 .tuple)) := by
  intro pins s σ H xs us Q I r hh
  obtain ⟨F, x, dx, d, rfl, e, hx, hd, q⟩ := hh
  cases dx <;> simp only [bf1] at hd <;> cases hd
  · obtain ⟨a, vs, rfl, h1, h2⟩ := hx.lst e
    refine call_tuple_of pins s σ H _ us Q I r ⟨a, vs, rfl, .inl ⟨.inl h1, fun l hl => ?_⟩⟩
    exact q _ _ _ (grow_new hl) (.tup (.of upd_same) (h2.mono (Ex.new (fresh_of e hl))))
  · obtain ⟨a, vs, rfl, h1, h2⟩ := hx.tup e
    exact call_tuple_of pins s σ H _ us Q I r ⟨a, vs, rfl, .inr ⟨by rw [hK]; exact h1, q _ F H grow_no hx.rTup⟩⟩
theorem ok_listL (hK : X.K = p.K) (hc : X.calm = true) : CallR X (.type "list") (rFL p (bf1 .list)) := by
  intro pins s σ H xs us Q I r hh
  obtain ⟨F, x, dx, d, rfl, e, hx, hd, q⟩ := hh
  cases dx <;> simp only [bf1] at hd <;> try cases hd
  · obtain ⟨a, vs, rfl, h1, h2⟩ := hx.lst e
    exact call_list_of pins s σ H _ us Q I r ⟨a, vs, rfl, .inl (.inl h1), fun l hl => q l _ hl ⟨_, rfl, h2⟩⟩
  · obtain ⟨a, vs, rfl, h1, h2⟩ := hx.tup e
    exact call_list_of pins s σ H _ us Q I r ⟨a, vs, rfl, .inr (by rw [hK]; exact h1), fun l hl => q l _ hl ⟨_, rfl, h2⟩⟩
  · split at hd <;> cases hd
    rename_i h0
    obtain ⟨a, vs, rfl, h1, h2⟩ := hx.dct e h0
    exact call_list_dK hc pins s σ H _ us Q I r ⟨a, vs, rfl, h1, fun l hl => q l _ hl ⟨_, rfl, h2.keys⟩⟩
theorem ok_int : CallR X (.type "int") (rF p (bf1 .int)) := by
  intro pins s σ H xs us Q I r hh
  obtain ⟨F, x, dx, d, rfl, e, hx, hd, q⟩ := hh
  cases dx <;> simp only [bf1] at hd <;> cases hd
  · exact call_int1 pins s σ H _ us Q I r (.inr ⟨_, by rw [hx.bool], q _ F H grow_no (.int _)⟩)
  · exact call_int1 pins s σ H _ us Q I r (.inl ⟨_, by rw [hx.ints], q _ F H grow_no (.int _)⟩)
/-- a list of pairs, as a dict's entries -/
theorem pairs_is {F H : Hp} (e : Ex F H) : ∀ {vs : List V} {ds : List D} {ps : List (D × D)}, RA p.K p.wa.s F vs ds → pairsOf ds = some ps → ∃ (as : List Addr) (kvs : List (Key × V)), vs = as.map V.ref ∧ Paired (fun q kv => SqT p.K H q [kV kv.1, kv.2]) as kvs ∧ RK p.K p.wa.s F kvs ps
  | _, _, _, .nil, h => by simp [pairsOf] at h; subst h; exact ⟨[], [], rfl, .nil, .nil⟩
  | _, _, _, .cons (v := v) (d := d) (vs := vs) (ds := ds) h1 h2, h => by
    simp only [pairsOf] at h
    cases e1 : pairOf d with
    | none => rw [e1] at h; cases h
    | some pr =>
      cases e2 : pairsOf ds with
      | none => rw [e1, e2] at h; cases h
      | some q =>
        rw [e1, e2] at h
        cases h
        obtain ⟨as, kvs, rfl, P, rk⟩ := pairs_is e h2 e2
        unfold pairOf at e1
        split at e1
        · rename_i k v'
          obtain ⟨k', hk, rfl⟩ := Option.map_eq_some_iff.mp e1
          obtain ⟨rfl, kk, rfl⟩ := keyOf_some hk
          cases h1 with
          | tup a1 a2 =>
            cases a2 with
            | cons b1 b2 =>
              cases b2 with
              | cons c1 c2 =>
                cases c2
                obtain rfl := R_key b1
                exact ⟨_ :: as, (kk, _) :: kvs, rfl, .cons (Evl.ex_t e a1) P, .cons c1 rk⟩
        · cases e1
theorem merge_is {F : Hp} : ∀ {kvs : List (Key × V)} {ps : List (D × D)} {acc : List (Key × V)} {ac : List (D × D)}, RK p.K p.wa.s F kvs ps → RK p.K p.wa.s F acc ac → RK p.K p.wa.s F (mergeK acc kvs) (mergeD ac ps)
  | _, _, _, _, .nil, h => h
  | _, _, _, _, .cons (k := k) h r, g => by
    have := merge_is r (g.put h k)
    exact this
theorem ok_dictL (hK : X.K = p.K) (hc : X.calm = true) : CallR X (.type "dict") (rFL p (bf1 .dict)) := by
  intro pins s σ H xs us Q I r hh
  obtain ⟨F, x, dx, d, rfl, e, hx, hd, q⟩ := hh
  cases dx <;> simp only [bf1] at hd <;> try cases hd
  obtain ⟨ps, hp, rfl⟩ := Option.map_eq_some_iff.mp hd
  obtain ⟨a, vs, rfl, h1, h2⟩ := hx.lst e
  obtain ⟨as, kvs, rfl, P, rk⟩ := pairs_is e h2 hp
  exact call_dictP hc pins s σ H _ us Q I r ⟨a, as, kvs, rfl, .inl h1, by rw [hK]; exact P, fun l hl => q l _ hl ⟨_, rfl, merge_is rk .nil⟩⟩

end
end Iv

namespace Iv
open PySem L2 PyProof.Rows
open Evl (Ex)

section
variable {X : Cx} {p : Pm} {k : Nat}
/-! ### sorted -/
theorem sort_fst {α β : Type} (le : β → β → Bool) (l : List (α × β)) : (l.mergeSort (fun a b => le a.2 b.2)).map (·.2) = (l.map (·.2)).mergeSort le := by
  exact List.map_mergeSort (f := fun x : α × β => x.2) (fun a _ b _ => rfl)
theorem each_vals : ∀ {us : List Value} {bs : List (V × D)}, PySem.W.EachIs (fun u b => RelV b.1 u) us bs → Vals (bs.map (·.1)) us
  | _, _, .nil => .nil
  | _, _, .cons h t => .cons h (each_vals t)
theorem each_of : ∀ {us : List Value} {vs : List V} {ds : List D}, Vals vs us → vs.length = ds.length → PySem.W.EachIs (fun u (b : V × D) => RelV b.1 u) us (vs.zip ds)
  | _, _, [], .nil, _ => .nil
  | _, _, d :: ds, .cons h t, e => .cons h (each_of t (by simpa using e))
theorem each_reads {h : Heap} : ∀ {us : List Value} {vs : List V} {ds : List D} {as : List Addr}, ReadsAll h us ds as → vs.length = ds.length → PySem.W.EachIs (fun u (b : V × D) => ∃ as, Reads h u b.2 as) us (vs.zip ds)
  | _, [], _, _, .nil, _ => .nil
  | _, v :: vs, _, _, .cons h t, e => .cons ⟨_, h⟩ (each_reads t (by simpa using e))
theorem RA.zipm {F : Hp} {vs : List V} {ds : List D} (h : RA p.K p.wa.s F vs ds) : ∀ b ∈ vs.zip ds, R p.K p.wa.s F b.1 b.2 := by
  intro b hb
  induction vs generalizing ds with
  | nil => simp at hb
  | cons v vs ih =>
    cases h with
    | cons h1 h2 =>
      rw [List.zip_cons_cons] at hb
      rcases List.mem_cons.mp hb with rfl | hb
      · exact h1
      · exact ih h2 hb
theorem RA.ofm {F : Hp} : ∀ {bs : List (V × D)}, (∀ b ∈ bs, R p.K p.wa.s F b.1 b.2) → RA p.K p.wa.s F (bs.map (·.1)) (bs.map (·.2))
  | [], _ => .nil
  | b :: bs, h => .cons (h b (List.mem_cons_self ..)) (RA.ofm fun c hc => h c (List.mem_cons_of_mem _ hc))
theorem zip_snd : ∀ {vs : List V} {ds : List D}, vs.length = ds.length → (vs.zip ds).map (·.2) = ds
  | [], [], _ => rfl
  | _ :: vs, _ :: ds, e => by rw [List.zip_cons_cons, List.map_cons, zip_snd (by simpa using e)]
mutual
theorem reads_at {h : Heap} : ∀ (d : D) (v : Value) (as : List Addr), noD d = true → Reads h v d as → ∀ b ∈ as, ∃ o, h.get? b = some o
  | .none, _, _, _, r, b, hb => by cases r; simp at hb
  | .bool _, _, _, _, r, b, hb => by cases r; simp at hb
  | .int _, _, _, _, r, b, hb => by cases r; simp at hb
  | .str _, _, _, _, r, b, hb => by cases r; simp at hb
  | .list xs, _, _, n, r, b, hb => by
    cases r with
    | list h1 h2 h3 h4 =>
      rcases List.mem_cons.mp hb with e | hb
      · rw [e]; exact ⟨_, h1⟩
      · exact readsAll_at xs _ _ (by simpa [noD] using n) h4 b hb
  | .tuple xs, _, _, n, r, b, hb => by
    cases r with
    | tuple h1 h2 h3 h4 => exact readsAll_at xs _ _ (by simpa [noD] using n) h4 b hb
  | .dict _, _, _, n, _, _, _ => by simp [noD] at n
theorem readsAll_at {h : Heap} : ∀ (d : List D) (v : List Value) (as : List Addr), noDs d = true → ReadsAll h v d as → ∀ b ∈ as, ∃ o, h.get? b = some o
  | [], _, _, _, r, b, hb => by cases r; simp at hb
  | d :: ds, _, _, n, r, b, hb => by
    simp only [noDs, Bool.and_eq_true] at n
    cases r with
    | cons h1 h2 =>
      rcases List.mem_append.mp hb with hb | hb
      · exact reads_at d _ _ n.1 h1 b hb
      · exact readsAll_at ds _ _ n.2 h2 b hb
end
/-- the items collected, a list or a tuple; then the sort -/
theorem sorted_core {pins : List (Addr × Obj)} {s : Shared} {σ : L2.St} {H F : Hp} {Q : VK} {ds : List D} {vs : List V} {a : Addr} (hK : X.K = p.K) (hr : Room k X.A) (I : Inv X pins σ H s) (e : Ex F H) (h1 : SqL p.K H a vs ∨ SqT p.K H a vs) (h2 : RA p.K p.wa.s F vs ds) (ok : sortOk ds = true)
    (q : ∀ a o, H a = none → ROo p F o (.list (dataOrd ds)) → Q (.ref a) (upd H a o)) : wpAny (model X.prog X.w) X.A (call (.builtin "sorted") [.ref a]) (EP X pins σ Q) X.xe s := by
  obtain ⟨T, its, o, n, hT, rv, ho, hc, hd, hz⟩ : ∃ (T : String) (its : List Value) (o : Obj) (n : Nat), (T = "list" ∨ T = "tuple") ∧ Vals vs its ∧ s.heap.get? a = some o ∧ o.cls = .type T ∧ o.data = .seq its.toArray n ∧ vs.length ≤ sizeLine := by
    rcases h1 with h1 | h1
    · obtain ⟨its, r, ⟨o, n, h3, h4, _, h5⟩, z⟩ := I.list (by rw [hK]; exact h1)
      exact ⟨"list", its, o, n, .inl rfl, r, h3, h4, h5, z⟩
    · obtain ⟨its, r, ⟨o, h3, h4, n, h5⟩, z⟩ := I.tuple (by rw [hK]; exact h1)
      exact ⟨"tuple", its, o, n, .inr rfl, r, h3, h4, h5, z⟩
  have hvl := rv.length
  have hdl := h2.length
  have hil : its.length ≤ sizeLine := by omega
  refine Calls.call_function_entry kind_sorted plain_sorted entry_sorted (args_sorted1 _) ?_
  unfold Builtin.«sorted»
  refine wpAny_bind (m := checkCount "sorted" 1 1 _) (wpAny_pure ?_)
  refine wpAny_bind (wpAny_collect_seq a hT ho hc hd (fun h' hk => ?_) (by rw [List.size_toArray]; omega))
  have ei : its.toArray.toList = its := by simp
  rw [ei]
  have I1 : Inv X pins σ H { s with heap := h' } := I.kept (t' := s.toks) hk
  refine wpAny_bind (wpAny_newList ?_ (by omega))
  have hoL : (h'.push (seqObj "list" its.toArray 0)).get? h'.objs.size = some (seqObj "list" its.toArray 0) := Heap.get?_push_size _ rfl
  have hk2 : ∀ b o, h'.get? b = some o → (h'.push (seqObj "list" its.toArray 0)).get? b = some o := fun b o q => Heap.get?_push_of_some _ q
  have I2 : Inv X pins σ H { s with heap := h'.push (seqObj "list" its.toArray 0) } := I1.kept (t' := s.toks) hk2
  -- behind the sort
  have fin : ∀ (bs : List (V × D)) (out : List Value), PySem.W.EachIs (fun u (b : V × D) => RelV b.1 u) out bs → bs.map (·.2) = dataOrd ds → (∀ b ∈ bs, R p.K p.wa.s F b.1 b.2) → out.length ≤ sizeLine → ∀ s2 : Shared, s2 = { s with heap := sortedHeap (h'.push (seqObj "list" its.toArray 0)) h'.objs.size its out.toArray } → EP X pins σ Q (.ref h'.objs.size) s2 := by
    intro bs out hb e2 hm hlen s2 es
    subst es
    obtain ⟨n2, hn2⟩ := sortedHeap_at (vs := its) (out := out.toArray) hoL
    have kp : ∀ b o, h'.get? b = some o → (sortedHeap (h'.push (seqObj "list" its.toArray 0)) h'.objs.size its out.toArray).get? b = some o := fun b o q => by
      have hb : b < h'.objs.size := Heap.lt_size q
      rw [sortedHeap_old (Nat.ne_of_lt hb) (by rw [size_push']; exact Nat.lt_succ_of_lt hb)]
      exact hk2 b o q
    have hv := each_vals hb
    have hfr := I1.hok.fresh (Nat.le_refl h'.objs.size)
    refine ⟨.ref h'.objs.size, upd H h'.objs.size (.lst (bs.map (·.1))), I1.laid (t' := s.toks) kp (Nat.le_refl _) ⟨?_, out, n2, hv, hn2⟩, rfl, q _ _ hfr ⟨_, rfl, ?_⟩⟩
    · rw [hv.length]; exact hlen
    · rw [← e2]; exact RA.ofm hm
  by_cases hshort : ds.length ≤ 1
  · have e2 : dataOrd ds = ds := by
      match ds, hshort with
      | [], _ => simp [dataOrd]
      | [_], _ => simp [dataOrd]
    have e3 := zip_snd (vs := vs) (ds := ds) hdl
    refine wpAny_bind (wpAny_holding (wpAny_call_entry slot_list_sort ⟨_, hoL, rfl⟩ entry_list_sort (SrtO.list_sort_ord (ltv := fun _ _ => false) ⟨fun _ _ _ => rfl, fun _ _ _ _ _ => rfl⟩ hoL (by omega) (fun h => by omega) fun out _ hb => ⟨_, rfl, ?_⟩) (args_list_sort _)))
    have eo : out = its := by
      have pl := hb.perm
      match its, hvl, pl with
      | [], _, pl => exact List.Perm.eq_nil pl
      | [x], _, pl => exact List.perm_singleton.mp pl
      | _ :: _ :: _, hvl, _ => simp at hvl; omega
    subst eo
    exact wpAny_pure ⟨_, rfl, fin (vs.zip ds) out (each_of rv hdl) (e3.trans e2.symm) h2.zipm hil _ rfl⟩
  · have ok2 : (allAlike ds = true ∧ (ds.all isTup = true ∨ ds.all isOth = true)) ∧ (ds.all fun x => decide (x.depth ≤ 64)) = true := by
      unfold sortOk at ok
      simp only [Bool.or_eq_true, decide_eq_true_eq, Bool.and_eq_true] at ok
      rcases ok with ok | ok
      · exact absurd ok hshort
      · exact ok
    obtain ⟨⟨hal, hkd⟩, hdp⟩ := ok2
    have hal2 : ∀ x ∈ ds, ∀ y ∈ ds, PySem.W.alike x y = true := fun x hx y hy => by
      unfold allAlike at hal
      exact List.all_eq_true.mp (List.all_eq_true.mp hal x hx) y hy
    have hlay : noDs ds = true := noDs_all fun x hx => noD_alike x (hal2 x hx x hx)
    have hDp : DpAll X.K H vs ds := by rw [hK]; exact h2.dp e hlay
    obtain ⟨as, hra⟩ := Dp.readsAll I1 ds vs its hDp rv
    have hra2 : ∀ {us : List Value} {es : List D} {as : List Addr} {ws : List V}, ReadsAll h' us es as → noDs es = true → ws.length = es.length → PySem.W.EachIs (fun u (b : V × D) => ∃ as, Reads (h'.push (seqObj "list" its.toArray 0)) u b.2 as ∧ h'.objs.size ∉ as) us (ws.zip es) := by
      intro us es as ws hre hno hl
      induction es generalizing us as ws with
      | nil => cases hre; cases ws with
        | nil => exact .nil
        | cons _ _ => simp at hl
      | cons d es ih =>
        simp only [noDs, Bool.and_eq_true] at hno
        cases hre with
        | cons g1 g2 =>
          cases ws with
          | nil => simp at hl
          | cons w ws =>
            refine .cons ⟨_, PyProof.Rows.Reads.keeps hk2 g1, fun hm => ?_⟩ (ih g2 hno.2 (by simpa using hl))
            obtain ⟨o, ho⟩ := reads_at _ _ _ hno.1 g1 _ hm
            exact absurd (Heap.lt_size ho) (Nat.lt_irrefl _)
    have e3 := zip_snd (vs := vs) (ds := ds) hdl
    refine wpAny_bind (wpAny_holding (PySem.W.list_sort_data (bs := vs.zip ds) (enc := fun b : V × D => b.2) (R := fun u b => RelV b.1 u) hoL (each_of rv hdl) (hra2 hra hlay hdl) ?_ ?_ ?_ ?_ fun out ho1 ho2 => ?_))
    · rw [e3]
      exact fun x hx y hy => hal2 x hx y hy
    · rw [e3]
      rcases hkd with hkd | hkd
      · refine .inl fun d hd => ?_
        have := List.all_eq_true.mp hkd d hd
        unfold isTup at this
        split at this
        · exact ⟨_, _, rfl⟩
        · cases this
      · refine .inr fun d hd => ?_
        have := List.all_eq_true.mp hkd d hd
        unfold isOth at this
        constructor
        · rintro rfl; cases this
        · rintro xs rfl; cases this
    · rw [List.length_zip]; omega
    · intro b hb
      have hb2 : b.2 ∈ ds := (List.of_mem_zip hb).2
      have h6 := of_decide_eq_true (List.all_eq_true.mp hdp _ hb2)
      have h7 := hr.un
      show X.A.units + 1 + 1 + b.2.depth < cLine
      omega
    · have z := fin ((vs.zip ds).mergeSort (PySem.W.dataLe false fun b => b.2)) out ho2 ?_ ?_ ?_ _ rfl
      · exact wpAny_pure ⟨_, rfl, z⟩
      · have := sort_fst (PySem.W.dataLe false id) (vs.zip ds)
        rw [e3] at this
        exact this
      · intro b hb
        exact h2.zipm b ((List.mergeSort_perm _ _).mem_iff.mp hb)
      · rw [ho1, List.length_zip]; omega
theorem ok_sortedL (hK : X.K = p.K) (hr : Room k X.A) : CallR X (.builtin "sorted") (rFL p (bf1 .sorted)) := by
  intro pins s σ H xs us Q I r hh
  obtain ⟨F, x, dx, d, rfl, e, hx, hd, q⟩ := hh
  obtain ⟨u, rfl, ru⟩ := vals1 r
  cases dx <;> simp only [bf1] at hd <;> try cases hd
  · split at hd <;> cases hd
    rename_i h0
    obtain ⟨a, vs, rfl, h1, h2⟩ := hx.lst e
    cases ru
    exact sorted_core hK hr I e (.inl (.inl h1)) h2 h0 q
  · split at hd <;> cases hd
    rename_i h0
    obtain ⟨a, vs, rfl, h1, h2⟩ := hx.tup e
    cases ru
    exact sorted_core hK hr I e (.inr h1) h2 h0 q
end
end Iv

namespace Iv
open PySem L2 PyProof.Rows
open Evl (Ex)

/-! ### items, slices -/
section
variable {X : Cx} {p : Pm} {k : Nat}
theorem at_RA {sa : Addr} {K : PySem.W.Frag} {F : Hp} {vs : List V} {ds : List D} {i : Int} {d : D} (r : RA K sa F vs ds) (h : atD ds i = some d) : ∃ v, atI vs i = some v ∧ R K sa F v d := by
  unfold atD atI at h
  obtain ⟨j, h1, h2⟩ := Option.bind_eq_some_iff.mp h
  obtain ⟨v, h3, h4⟩ := r.get h2
  exact ⟨v, by unfold atI; rw [r.length, h1]; exact h3, h4⟩
theorem tru_ix {g : D → D → Option D} (h : IxR X (rG p g)) : IxR X (rG p g) := h
theorem ok_idx (hK : X.K = p.K) (hr : Room k X.A) {a b : Expr} {ta tb : TE} {pos : Pos} (ha : PE X a ta) (hb : PE X b tb) (hs : PlainIx b) : PE X (.Subscript a b pos) (tOp (rG p idxD) ta tb) := by
  refine ⟨fun pins s σ H Q I h => ?_⟩
  have e0 : PE X (.Subscript a b pos) (tOp (rIxL X.K) ta tb) := pe_ix ix_list ha hb hs
  refine (pe_ix (r := fun x y H Q => rG p idxD x y H Q) ?_ ha hb hs).run pins s σ H Q I h
  intro value slice pins s σ H x y v u Q I rx ry hh hs
  obtain ⟨F, dx, dy, d, e, hx, hy, hd, q⟩ := hh
  cases dx with
  | list ds =>
    cases dy <;> simp only [idxD] at hd <;> try cases hd
    obtain ⟨a', vs, rfl, h1, h2⟩ := hx.lst e
    obtain ⟨w, h3, h4⟩ := at_RA h2 hd
    exact ix_list value slice pins s σ H _ y v u Q I rx ry ⟨a', vs, _, w, rfl, hy.ints, .inl h1, h3, q _ F H grow_no h4⟩ hs
  | tuple ds =>
    cases dy <;> simp only [idxD] at hd <;> try cases hd
    obtain ⟨a', vs, rfl, h1, h2⟩ := hx.tup e
    obtain ⟨w, h3, h4⟩ := at_RA h2 hd
    exact ix_tup value slice pins s σ H _ y v u Q I rx ry ⟨a', vs, _, w, rfl, hy.ints, by rw [hK]; exact h1, h3, q _ F H grow_no h4⟩ hs
  | dict kvs =>
    simp only [idxD] at hd
    split at hd
    · rename_i h0
      obtain ⟨k', hk, hd2⟩ := Option.bind_eq_some_iff.mp hd
      obtain ⟨rfl, kk, rfl⟩ := keyOf_some hk
      obtain ⟨a', vs, rfl, h1, h2⟩ := hx.dct e h0
      have hy' : y = kV kk := by
        rcases hy with hy | ⟨_, _, _, hy⟩
        · exact R_key hy
        · cases kk <;> exact hy.elim
      subst hy'
      cases rx
      rcases h2.look' kk with ⟨_, z⟩ | ⟨w', d', z1, z2, z3⟩
      · rw [z] at hd2; cases hd2
      · rw [z2] at hd2; cases hd2
        have g : DGet H a' (kV kk) (some w') := z1 ▸ DGet.k h1
        exact tail_any (dict_typeIs I g) PySem.F.slot_dict_getitem.lookup (d_getItem (by have := units_lt hr; omega) I g ry fun w2 s3 I3 rw' => ⟨w', H, I3, rw', q _ F H grow_no z3⟩) hs
    · cases hd
  | _ => simp [idxD] at hd
def rS (p : Pm) : V → Option Int → Option Int → Hp → VK → Prop := fun x lo hi H Q => ∃ F dx d, Ex F H ∧ RP p F H x dx ∧ slcD lo hi dx = some d ∧ ∀ v F' H', Grow F H F' H' → R p.K p.wa.s F' v d → Q v H'
theorem RA.cut {sa : Addr} {K : PySem.W.Frag} {F : Hp} {vs : List V} {ds : List D} (r : RA K sa F vs ds) (lo hi : Option Int) : RA K sa F (cutV vs lo hi) (cutD ds lo hi) := by
  unfold cutV cutD
  rw [r.length]
  exact (r.drop _).take _
theorem cut_whole (ds : List D) (lo hi : Option Int) (h : HT.sIx ds.length 0 lo = 0 ∧ HT.sIx ds.length ds.length hi = ds.length) : cutD ds lo hi = ds := by
  unfold cutD
  rw [h.1, h.2]
  simp
theorem ok_slc (hK : X.K = p.K) : SlR X (rS p) := by
  intro pins s σ H x v vl vu lo hi sl Q I rx hs pl pu hh
  obtain ⟨F, dx, d, e, hx, hd, q⟩ := hh
  cases dx <;> simp only [slcD] at hd <;> cases hd
  · obtain ⟨a, vs, rfl, h1, h2⟩ := hx.lst e
    exact sl_list pins s σ H _ v vl vu lo hi sl Q I rx hs pl pu ⟨a, vs, rfl, .inl h1, fun p' hp => q _ _ _ (grow_new hp) (.lst (.inl upd_same) ((h2.cut lo hi).mono (Ex.new (fresh_of e hp))))⟩
  · obtain ⟨a, vs, rfl, h1, h2⟩ := hx.tup e
    refine sl_tupA pins s σ H _ v vl vu lo hi sl Q I rx hs pl pu ⟨a, vs, rfl, by rw [hK]; exact h1, fun hw => ?_, fun hw p' hp => q _ _ _ (grow_new hp) (.tup (.of upd_same) ((h2.cut lo hi).mono (Ex.new (fresh_of e hp))))⟩
    rw [h2.length] at hw
    rw [cut_whole _ lo hi hw] at q
    exact q _ F H grow_no hx.rTup

/-! ### isinstance -/
def tyName : Ty → String
  | .int => "int"
  | .bool => "bool"
  | .str => "str"
  | .tuple => "tuple"
  | .list => "list"
  | .dict => "dict"
theorem kit_all {K : PySem.W.Frag} (t : Ty) :
    PySem.W.kitOne K (.type "NoneType") (.type (tyName t)) = some false ∧ PySem.W.kitOne K (.type "bool") (.type (tyName t)) = some (isTy t (.bool true)) ∧ PySem.W.kitOne K (.type "int") (.type (tyName t)) = some (isTy t (.int 0)) ∧
    PySem.W.kitOne K (.type "str") (.type (tyName t)) = some (isTy t (.str "")) ∧ PySem.W.kitOne K (.type "list") (.type (tyName t)) = some (isTy t (.list [])) ∧ PySem.W.kitOne K (.type "tuple") (.type (tyName t)) = some (isTy t (.tuple [])) ∧
    PySem.W.kitOne K (.type "dict") (.type (tyName t)) = some (isTy t (.dict [])) := by
  refine ⟨kit_ty ?_, kit_ty ?_, kit_ty ?_, kit_ty ?_, kit_ty ?_, kit_ty ?_, kit_ty ?_⟩ <;> cases t <;> decide +kernel
theorem RP.ty {F H : Hp} {x : V} {d : D} (e : Ex F H) (h : RP p F H x d) (t : Ty) {b : Bool} (hb : isiD t d = some b) : ∃ u, TyX p.K H x u ∧ PySem.W.kitOne p.K u (.type (tyName t)) = some b := by
  obtain ⟨k1, k2, k3, k4, k5, k6, k7⟩ := kit_all (K := p.K) t
  cases d with
  | none =>
    obtain rfl := h.non
    refine ⟨_, .base .non, k1.trans ?_⟩
    rw [← hb]; cases t <;> rfl
  | bool b' =>
    obtain rfl := h.bool
    refine ⟨_, .base (.bl _), k2.trans ?_⟩
    rw [← hb]; cases t <;> rfl
  | int i =>
    obtain rfl := h.ints
    refine ⟨_, .base (.int _), k3.trans ?_⟩
    rw [← hb]; cases t <;> rfl
  | str i =>
    obtain rfl := h.str
    refine ⟨_, .base (.str _), k4.trans ?_⟩
    rw [← hb]; cases t <;> rfl
  | list ds =>
    obtain ⟨a, vs, rfl, h1, _⟩ := h.lst e
    refine ⟨_, .base (h1.elim (fun z => .lst z) fun ⟨o, z⟩ => .frz z), k5.trans ?_⟩
    rw [← hb]; cases t <;> rfl
  | tuple ds =>
    obtain ⟨a, vs, rfl, h1, _⟩ := h.tup e
    have e1 : some (isTy t (.tuple [])) = some b := by rw [← hb]; cases t <;> rfl
    rcases h1 with (h1 | ⟨o, h1⟩) | ⟨o, its, n, h1, h2, _⟩
    · exact ⟨_, .base (.tup h1), k6.trans e1⟩
    · exact ⟨_, .fTuple h1, k6.trans e1⟩
    · exact ⟨_, .kTuple h1 h2, k6.trans e1⟩
  | dict kvs =>
    simp only [isiD] at hb
    split at hb
    · rename_i h0
      obtain ⟨a, vs, rfl, h1, _⟩ := h.dct e h0
      refine ⟨_, .base (.dK h1), k7.trans ?_⟩
      rw [← hb]; cases t <;> rfl
    · cases hb
end
end Iv

namespace Iv
open PySem L2 PyProof.Rows
open Evl (Ex)

/-! ### what loops walk: lists and tuples alike -/
inductive Kd where
  | L | T
def Src (K : PySem.W.Frag) (H : Hp) (kd : Kd) (a : Addr) (vs : List V) : Prop := match kd with
  | .L => SqL K H a vs
  | .T => SqT K H a vs
def ItAt (kd : Kd) (h : Heap) (it a : Addr) (i : Nat) : Prop := match kd with
  | .L => h.IsListIter it a i
  | .T => h.IsTupleIter it a i
def itObj (kd : Kd) (a : Addr) : Obj := match kd with
  | .L => { cls := .type "list_iterator", data := .fields #[.ref a, .int 0 0] }
  | .T => { cls := .type "tuple_iterator", data := .fields #[.ref a, .int 0 0] }
def SeqAt' (kd : Kd) (h : Heap) (a : Addr) (its : Array Value) : Prop := match kd with
  | .L => h.IsList a its
  | .T => h.IsTuple a its
theorem ItAt.zero (kd : Kd) {h : Heap} {it a : Addr} (e : h.get? it = some (itObj kd a)) : ItAt kd h it a 0 := by
  cases kd <;> exact ⟨_, e, rfl, rfl⟩
theorem ItAt.obj {kd : Kd} {h : Heap} {it a : Addr} {i : Nat} (x : ItAt kd h it a i) : ∃ o, h.get? it = some o ∧ ∀ v, o.data ≠ .cell v := by
  cases kd <;> (obtain ⟨o, ho, _, hd⟩ := x; exact ⟨o, ho, fun v q => by rw [hd] at q; cases q⟩)
theorem ItAt.at {kd : Kd} {h h' : Heap} {it a : Addr} {i : Nat} (x : ItAt kd h it a i) (k : ∀ o, h.get? it = some o → h'.get? it = some o) : ItAt kd h' it a i := by
  cases kd <;> (obtain ⟨o, ho, r⟩ := x; exact ⟨o, k o ho, r⟩)
theorem begins (kd : Kd) (a : Addr) (its : Array Value) : Begins (.ref a) (itObj kd a) (fun h => SeqAt' kd h a its) := by
  cases kd
  · exact begins_list a its
  · exact begins_tuple a its
theorem drawsA {prog : Program} {w : World} {A : Around} (kd : Kd) (hh : A.handled = none) (it a : Addr) (hne : a ≠ it) (its : Array Value) : Draws prog w A it [it, a] its.size (fun i v => its[i]? = some v) (fun i h => ItAt kd h it a i ∧ SeqAt' kd h a its) := by
  cases kd
  · exact Draws.list hh it a hne its
  · exact Draws.tuple hh it a hne its
section
variable {X : Cx} {pins : List (Addr × Obj)} {σ : L2.St} {H : Hp} {s : Shared} {a : Addr} {vs us : List V} {kd : Kd}
theorem Src.seq (I : Inv X pins σ H s) (h : Src X.K H kd a vs) : ∃ its : List Value, Vals vs its ∧ SeqAt' kd s.heap a its.toArray ∧ vs.length ≤ sizeLine := by
  cases kd
  · obtain ⟨its, r, p, z⟩ := I.list h
    exact ⟨its, r, p.isList, z⟩
  · obtain ⟨its, r, p, z⟩ := I.tuple h
    exact ⟨its, r, p, z⟩
theorem Src.inj (I : Inv X pins σ H s) (h : Src X.K H kd a vs) (h' : Src X.K H kd a us) : vs = us := by
  cases kd
  · exact I.list_inj h h'
  · exact I.tuple_inj h h'
theorem SeqAt'.lt {h : Heap} {its : Array Value} (x : SeqAt' kd h a its) : a < h.objs.size := by
  cases kd <;> (obtain ⟨o, ho, _⟩ := x; exact Heap.lt_size ho)
end

theorem ItAt.ne {kd : Kd} {h : Heap} {it a : Addr} {i : Nat} {its : Array Value} (g : ItAt kd h it a i) (hs : SeqAt' kd h a its) : a ≠ it := fun q => by
  subst q
  cases kd <;>
    (obtain ⟨o2, ho2, hc2, _⟩ := g
     obtain ⟨o3, ho3, hc3, _⟩ := hs
     rw [ho2] at ho3; cases ho3
     rw [hc2] at hc3; injection hc3 with z; exact absurd z (by decide))

/-! ### enumerate -/
set_option maxHeartbeats 1000000 in
theorem meets_enum1 {v : Value} {o : Obj} {H : Heap → Prop} (B : Begins v o H) : Meets (Builtin.«enumerate.__new__» ⟨[.type "enumerate", v], []⟩) (fun _ R s => H s.heap ∧ R (.ok (.ret (.ref (s.heap.push o).objs.size))) { s with heap := (s.heap.push o).push { cls := .type "enumerate", data := .fields #[.none, .bool false, .ref s.heap.objs.size, rawInt 0, .none, .none] } }) := .of_wp fun prog w A R s h => by
  obtain ⟨hp, g, d, tk, os⟩ := s
  obtain ⟨h1, h⟩ := h
  have hsub := sub_enumerate
  have q1 : ∀ {A' : Around} {E' : Value → Shared → Prop} {Q' : Value → Shared → Prop}, Q' (.ref hp.objs.size) ⟨hp.push o, g, d, tk, os⟩ → wpAny (model prog w) A' (pyIter v) Q' E' ⟨hp, g, d, tk, os⟩ := fun q => B.iter prog w _ _ ⟨hp, g, d, tk, os⟩ _ h1 q
  wp_walk using q1
  refine wpAny_stack_any fun st => ?_
  refine wpAny_pure ?_
  split
  · rename_i c _ _ _ _ _
    cases (c == Value.type "enumerate") <;> (wp_walk using q1; exact ⟨_, rfl, h⟩)
  · wp_walk using q1
    exact ⟨_, rfl, h⟩
theorem enum1_begins {prog : Program} {w : World} {A : Around} {E : Value → Shared → Prop} {s : Shared} {v : Value} {o : Obj} {H : Heap → Prop} {Q : Value → Shared → Prop} (B : Begins v o H) (h1 : H s.heap)
    (h : ∀ h', IsEnum h' (s.heap.objs.size + 1) s.heap.objs.size 0 .none → h'.get? s.heap.objs.size = some o → (∀ b o, s.heap.get? b = some o → h'.get? b = some o) → Q (.ref (s.heap.objs.size + 1)) { s with heap := h' }) :
    wpAny (model prog w) A (call (.type "enumerate") [v]) Q E s := by
  refine callType_new F.called_enumerate (by decide) (F.typeCall_enumerate_1 _) (F.newCall_enumerate_1 _) (fun obj => F.args_object_init_2 obj _) F.entry_enumerate_new (meets_enum1 B) ⟨h1, ?_⟩
  have hz : (s.heap.push o).objs.size = s.heap.objs.size + 1 := Heap.size_push ..
  have he : IsEnum ((s.heap.push o).push { cls := .type "enumerate", data := .fields #[.none, .bool false, .ref s.heap.objs.size, rawInt 0, .none, .none] }) (s.heap.objs.size + 1) s.heap.objs.size 0 .none := by
    have q := Heap.get?_push_size (s.heap.push o) (o := { cls := .type "enumerate", data := .fields #[.none, .bool false, .ref s.heap.objs.size, rawInt 0, .none, .none] }) rfl
    rw [hz] at q
    exact q
  show _ ∧ _
  rw [hz]
  exact ⟨⟨_, he, rfl⟩, h _ he (Heap.get?_push_of_some _ (Heap.get?_push_size _ B.free)) fun b o x => Heap.get?_push_of_some _ (Heap.get?_push_of_some _ x)⟩
/-- the sequence at a at each turn, each item in a new pair with its number -/
def Jen (K : PySem.W.Frag) (kd : Kd) (a : Addr) : L2.It :=
  ⟨fun i H => ∃ vs x, Src K H kd a vs ∧ vs[i]? = some x, fun i H v H' => ∃ T x, v = .ref T ∧ H T = none ∧ H' = upd H T (.tup [.int (i : Nat), x]) ∧ ∀ vs, Src K H kd a vs → vs[i]? = some x, fun i H => ∃ vs, Src K H kd a vs ∧ vs.length = i⟩
theorem turn_en {P : Program} {w : World} {K : PySem.W.Frag} {elts : List Expr} {kk : Nat} {tpos : Pos} (kd : Kd) (a e it : Addr) (hae : e ≠ a) (hai : a ≠ it) :
    Turn P w K (.Tuple elts kk tpos) (Jen K kd a) [e, it] e (fun i h => (∃ old, IsEnum h e it ((i : Nat) : Int) old) ∧ ItAt kd h it a i ∧ e ≠ it) where
  mem := List.mem_cons_self ..
  obj := fun i h st b hb => by
    obtain ⟨⟨old, he⟩, hi, _⟩ := st
    rcases List.mem_cons.mp hb with rfl | hb
    · exact ⟨_, he, fun v q => nomatch q⟩
    · rcases List.mem_cons.mp hb with rfl | hb
      · exact hi.obj
      · cases hb
  keep := fun i h h' st k => by
    obtain ⟨⟨old, he⟩, hi, hne⟩ := st
    exact ⟨⟨old, k e (List.mem_cons_self ..) _ he⟩, hi.at fun o q => k it (by simp) o q, hne⟩
  item := by
    intro X hP hw hK hc i pins s σ H E I hf st hg
    subst hP hw hK
    obtain ⟨⟨old, he⟩, hit, hne⟩ := st
    obtain ⟨vs, x, hq, hx⟩ := hg
    obtain ⟨its, rv, hsq, hz⟩ := hq.seq I
    have hlen := rv.length
    have hil : i < its.length := by rw [← hlen]; exact (List.getElem?_eq_some_iff.mp hx).1
    have hel : e < s.heap.objs.size := Heap.lt_size he
    have hitl : it < s.heap.objs.size := by obtain ⟨_, q, _⟩ := hit.obj; exact Heap.lt_size q
    have D := drawsA (prog := X.prog) (w := X.w) (A := X.A.in1) kd (I.ok.hd hc) it a hai its.toArray
    refine wpAny_pyNext_enum_itemC D he ⟨hit, hsq⟩ (by simpa using hil) hne (by simp; exact ⟨hne, hae⟩) fun u h' tk hu ho hit' hT hsz hk => ?_
    have hu' : its[i]? = some u := by simpa using hu
    obtain ⟨u2, hu2, ru⟩ := rv.get hx
    rw [hu'] at hu2; cases hu2
    refine ⟨_, rfl, wpAny_letOwnedTupleGo_enum (s := { s with heap := h', toks := tk + 1 }) ho fun h'' he' sb => ?_⟩
    have hT2 : h''.get? s.heap.objs.size = some { cls := .type "tuple", data := .seq #[.int i tk, u] } := (sb.2 _ (Nat.ne_of_gt hel)).trans hT
    have new : ObjOk X.prog X.w (upd H s.heap.objs.size (.tup [.int (i : Nat), x])) h'' s.heap.objs.size (.tup [.int (i : Nat), x]) := ⟨by show 2 ≤ sizeLine; decide, [.int i tk, u], .cons ⟨_, rfl⟩ (.cons ru .nil), ⟨_, hT2, rfl, _, rfl⟩⟩
    have I1 : Inv X pins σ (upd H s.heap.objs.size (.tup [.int (i : Nat), x])) { s with heap := h'', toks := tk + 1 } := I.turnedNew (ch := [e, it]) (fun b ob hb q => (sb.2 b (fun z => hb (by simp [z]))).trans (hk b ob (fun z => hb (by simp [z])) (fun z => hb (by simp [z])) q)) hf (Nat.le_refl _) new
    refine ⟨.ref s.heap.objs.size, _, I1, rfl, ⟨_, x, rfl, I.hok.fresh (Nat.le_refl _), rfl, fun ys hy => by rw [hy.inj I hq]; exact hx⟩, ⟨⟨u, ?_⟩, hit'.1.at fun o q => (sb.2 it (Ne.symm hne)).trans q, hne⟩, fun b hb => ?_⟩
    · rw [show ((i + 1 : Nat) : Int) = (i : Int) + 1 by omega]
      exact he'
    · have hb' : b < s.heap.objs.size := by
        rcases List.mem_cons.mp hb with rfl | hb
        · exact hel
        · rcases List.mem_cons.mp hb with rfl | hb
          · exact hitl
          · cases hb
      rw [upd_ne (Nat.ne_of_lt hb')]
      exact (hf b hb).1
  done := by
    intro X hP hw hK hc i pins s σ H E I hf st hg
    subst hP hw hK
    obtain ⟨⟨old, he⟩, hit, hne⟩ := st
    obtain ⟨vs, hq, hx⟩ := hg
    obtain ⟨its, rv, hsq, hz⟩ := hq.seq I
    have hlen := rv.length
    have D := drawsA (prog := X.prog) (w := X.w) (A := X.A.in1) kd (I.ok.hd hc) it a hai its.toArray
    have hsz : its.toArray.size = i := by rw [List.size_toArray, ← hlen]; exact hx
    obtain ⟨f0, f1, f2, f3, f4, f5⟩ := hf it (by simp)
    exact wpAny_pyNext_enum_endD D he (by rw [hsz]; exact ⟨hit, hsq⟩) fun h' eb => ⟨rfl, I.turned (t' := s.toks) (fun b o hb q => eb b o hb q) f0 f1 f3 f4 f5⟩
  self := fun A i s Q E st h => by
    obtain ⟨⟨old, he⟩, _⟩ := st
    exact wpAny_pyIter_enum he h

theorem pi_en {X : Cx} {e : Expr} {ta : TA} {q pos tpos : Pos} {elts : List Expr} {kk : Nat} (hg : Gl X "enumerate") (hm : X.mg "enumerate" = none) (ha : PA X [e] ta) (hs : starEach [e] X.env = [(false, eval e X.env)]) :
    PI X (.Tuple elts kk tpos) (.Call (.Name "enumerate" q) [e] [] pos) (fun σ H R => ta σ H fun vs H1 => ∃ kd a ws, vs = [.ref a] ∧ Src X.K H1 kd a ws ∧ R (Jen X.K kd a) H1) := by
  refine ⟨fun pins s σ H R I h => ?_⟩
  refine Call_ (ld_blt I hg hm boot_enumerate (PyProof.Rows.callWith_type1 (thn (ha.run pos pins s σ H _ I h) fun us s1 ⟨vs, H1, I1, r1, q1⟩ => ?_) hs rfl))
  · obtain ⟨kd, a, ws, rfl, hq, k⟩ := q1
    obtain ⟨u, rfl, ru⟩ := vals1 r1
    cases ru
    obtain ⟨its, rv, hsq, hz⟩ := hq.seq I1
    have hal := hsq.lt
    refine enum1_begins (begins kd a its.toArray) hsq fun h' he hit hk => wpAny_pyIter_enum he ?_
    have I2 : Inv X pins σ H1 { s1 with heap := h' } := I1.kept (t' := s1.toks) hk
    refine ⟨s1.heap.objs.size + 1, [s1.heap.objs.size + 1, s1.heap.objs.size], _, _, H1, rfl, I2, turn_en kd a (s1.heap.objs.size + 1) s1.heap.objs.size (Nat.ne_of_gt (Nat.lt_succ_of_lt hal)) (Nat.ne_of_lt hal), ⟨⟨.none, he⟩, ItAt.zero kd hit, Nat.succ_ne_self _⟩, fun b hb => ?_, k⟩
    have hle : s1.heap.objs.size ≤ b := by
      rcases List.mem_cons.mp hb with rfl | hb
      · exact Nat.le_succ _
      · rcases List.mem_cons.mp hb with rfl | hb
        · exact Nat.le_refl _
        · cases hb
    exact I1.fpOk hle (I1.hok.fresh hle)

/-! ### zip -/
def Jzp (K : PySem.W.Frag) (kd ke : Kd) (a b : Addr) : L2.It :=
  ⟨fun i H => ∃ vs us x y, Src K H kd a vs ∧ Src K H ke b us ∧ vs[i]? = some x ∧ us[i]? = some y, fun i H v H' => ∃ T x y, v = .ref T ∧ H T = none ∧ H' = upd H T (.tup [x, y]) ∧ (∀ vs, Src K H kd a vs → vs[i]? = some x) ∧ ∀ us, Src K H ke b us → us[i]? = some y,
    fun i H => ∃ vs us, Src K H kd a vs ∧ Src K H ke b us ∧ i ≤ vs.length ∧ i ≤ us.length ∧ (vs.length = i ∨ us.length = i)⟩
theorem turn_zp {P : Program} {w : World} {K : PySem.W.Frag} {elts : List Expr} {kk : Nat} {tpos : Pos} (kd ke : Kd) {a b z TI TO i1 i2 : Addr} (S : ZipSep2 z TI TO i1 i2 [i1, a] [i2, b]) :
    Turn P w K (.Tuple elts kk tpos) (Jzp K kd ke a b) [z, TI, TO, i1, i2] z (fun i h => IsZip h z TI TO .none ∧ IsTupOf2 h TI (.ref i1) (.ref i2) ∧ (∃ x y, IsTupOf2 h TO x y) ∧ ItAt kd h i1 a i ∧ ItAt ke h i2 b i) where
  mem := List.mem_cons_self ..
  obj := fun i h st c hc => by
    obtain ⟨hz, hTI, ⟨x, y, hTO⟩, g1, g2⟩ := st
    have e' : c = z ∨ c = TI ∨ c = TO ∨ c = i1 ∨ c = i2 := by simpa using hc
    rcases e' with rfl | rfl | rfl | rfl | rfl
    · exact ⟨_, hz, fun v q => nomatch q⟩
    · exact ⟨_, hTI, fun v q => nomatch q⟩
    · exact ⟨_, hTO, fun v q => nomatch q⟩
    · exact g1.obj
    · exact g2.obj
  keep := fun i h h' st k => by
    obtain ⟨hz, hTI, ⟨x, y, hTO⟩, g1, g2⟩ := st
    exact ⟨k z (by simp) _ hz, k TI (by simp) _ hTI, ⟨x, y, k TO (by simp) _ hTO⟩, g1.at fun o q => k i1 (by simp) o q, g2.at fun o q => k i2 (by simp) o q⟩
  item := by
    intro X hP hw hK hc i pins s σ H E I hf st hg
    subst hP hw hK
    obtain ⟨hz, hTI, ⟨x0, y0, hTO⟩, g1, g2⟩ := st
    obtain ⟨vs, us, x, y, hqx, hqy, hx, hy⟩ := hg
    obtain ⟨its, rv, hs1, _⟩ := hqx.seq I
    obtain ⟨its2, rv2, hs2, _⟩ := hqy.seq I
    have l1 := rv.length
    have l2 := rv2.length
    have hi1 : i < its.length := by rw [← l1]; exact (List.getElem?_eq_some_iff.mp hx).1
    have hi2 : i < its2.length := by rw [← l2]; exact (List.getElem?_eq_some_iff.mp hy).1
    have hzl : z < s.heap.objs.size := Heap.lt_size hz
    have n1 := g1.ne hs1
    have n2 := g2.ne hs2
    have D1 := drawsA (prog := X.prog) (w := X.w) (A := X.A.in1) kd (I.ok.hd hc) i1 a n1 its.toArray
    have D2 := drawsA (prog := X.prog) (w := X.w) (A := X.A.in1) ke (I.ok.hd hc) i2 b n2 its2.toArray
    refine wpAny_pyNext_zipD2_item S D1 D2 hz hTI hTO ⟨g1, hs1⟩ ⟨g2, hs2⟩ (by simpa using hi1) (by simpa using hi2) fun u u' h' tk hu hu' z' TO' g1' g2' hT hsz hk => ?_
    obtain ⟨w1, hw1, r1⟩ := rv.get hx
    obtain ⟨w2, hw2, r2⟩ := rv2.get hy
    have e1 : its[i]? = some u := by simpa using hu
    have e2 : its2[i]? = some u' := by simpa using hu'
    rw [e1] at hw1; cases hw1
    rw [e2] at hw2; cases hw2
    refine ⟨_, rfl, wpAny_letOwnedTupleGo_zip (s := { s with heap := h', toks := tk }) z' fun h'' z'' sb => ?_⟩
    have hT2 : h''.get? s.heap.objs.size = some { cls := .type "tuple", data := .seq #[u, u'] } := (sb.2 _ (Nat.ne_of_gt hzl)).trans hT
    have new : ObjOk X.prog X.w (upd H s.heap.objs.size (.tup [x, y])) h'' s.heap.objs.size (.tup [x, y]) := ⟨by show 2 ≤ sizeLine; decide, [u, u'], .cons r1 (.cons r2 .nil), ⟨_, hT2, rfl, _, rfl⟩⟩
    have I1 : Inv X pins σ (upd H s.heap.objs.size (.tup [x, y])) { s with heap := h'', toks := tk } := I.turnedNew (ch := [z, TI, TO, i1, i2]) (fun c o hb q => (sb.2 c (fun q' => hb (by simp [q']))).trans (hk c o (fun q' => hb (by simp [q'])) (fun q' => hb (by simp [q'])) (fun q' => hb (by simp [q'])) (fun q' => hb (by simp [q'])) q)) hf (Nat.le_refl _) new
    refine ⟨.ref s.heap.objs.size, _, I1, rfl, ⟨_, x, y, rfl, I.hok.fresh (Nat.le_refl _), rfl, fun l hl => by rw [hl.inj I hqx]; exact hx, fun l hl => by rw [hl.inj I hqy]; exact hy⟩, ⟨z'', ?_, ⟨u, u', ?_⟩, ?_, ?_⟩, fun c hcm => ?_⟩
    · exact (sb.2 _ S.TIz).trans (hk _ _ S.TIz S.TITO S.TIi1 S.TIi2 hTI)
    · exact (sb.2 _ S.TOz).trans TO'
    · exact g1'.1.at fun o q => (sb.2 _ (Ne.symm S.zi1)).trans q
    · exact g2'.1.at fun o q => (sb.2 _ (Ne.symm S.zi2)).trans q
    · have hlt : c < s.heap.objs.size := by
        have e' : c = z ∨ c = TI ∨ c = TO ∨ c = i1 ∨ c = i2 := by simpa using hcm
        rcases e' with rfl | rfl | rfl | rfl | rfl
        · exact hzl
        · exact Heap.lt_size hTI
        · exact Heap.lt_size hTO
        · obtain ⟨_, q, _⟩ := g1.obj; exact Heap.lt_size q
        · obtain ⟨_, q, _⟩ := g2.obj; exact Heap.lt_size q
      rw [upd_ne (Nat.ne_of_lt hlt)]
      exact (hf c hcm).1
  done := by
    intro X hP hw hK hc i pins s σ H E I hf st hg
    subst hP hw hK
    obtain ⟨hz, hTI, ⟨x0, y0, hTO⟩, g1, g2⟩ := st
    obtain ⟨vs, us, hqx, hqy, le1, le2, hend⟩ := hg
    obtain ⟨its, rv, hs1, _⟩ := hqx.seq I
    obtain ⟨its2, rv2, hs2, _⟩ := hqy.seq I
    have l1 := rv.length
    have l2 := rv2.length
    have n1 := g1.ne hs1
    have n2 := g2.ne hs2
    have D1 := drawsA (prog := X.prog) (w := X.w) (A := X.A.in1) kd (I.ok.hd hc) i1 a n1 its.toArray
    have D2 := drawsA (prog := X.prog) (w := X.w) (A := X.A.in1) ke (I.ok.hd hc) i2 b n2 its2.toArray
    refine wpAny_pyNext_zipD2_end S D1 D2 hz hTI hTO ⟨g1, hs1⟩ ⟨g2, hs2⟩ (by simp; omega) (by simp; omega) (by simp; omega) fun h' tk hk => ?_
    exact ⟨rfl, I.turnedL (ch := [z, TI, TO, i1, i2]) (fun c o hb q => hk c o (fun q' => hb (by simp [q'])) (fun q' => hb (by simp [q'])) (fun q' => hb (by simp [q'])) (fun q' => hb (by simp [q'])) q) hf⟩
  self := fun A i s Q E st h => wpAny_pyIter_zip st.1 h

theorem pi_zp {X : Cx} {e e2 : Expr} {ta : TA} {q pos tpos : Pos} {elts : List Expr} {kk : Nat} (hg : Gl X "zip") (hm : X.mg "zip" = none) (ha : PA X [e, e2] ta)
    (hs : starEach [e, e2] X.env = (false, eval e X.env) :: starEach [e2] X.env) (hpl : (backTo pos (starEach [e2] X.env)).any (·.1) = false) :
    PI X (.Tuple elts kk tpos) (.Call (.Name "zip" q) [e, e2] [] pos) (fun σ H R => ta σ H fun vs H1 => ∃ kd ke a b ws us, vs = [.ref a, .ref b] ∧ Src X.K H1 kd a ws ∧ Src X.K H1 ke b us ∧ R (Jzp X.K kd ke a b) H1) := by
  refine ⟨fun pins s σ H R I h => ?_⟩
  refine Call_ (ld_blt I hg hm PyProof.Rows.boot_zip (PyProof.Rows.callWith_type1 (thn (ha.run pos pins s σ H _ I h) fun us s1 ⟨vs, H1, I1, r1, q1⟩ => ?_) hs hpl))
  obtain ⟨kd, ke, a, b, ws, xs, rfl, hq1, hq2, k⟩ := q1
  obtain ⟨u1, u2, rfl, ru1, ru2⟩ := vals2 r1
  cases ru1
  cases ru2
  obtain ⟨its, rv, hs1, hz⟩ := hq1.seq I1
  obtain ⟨its2, rv2, hs2, hz2⟩ := hq2.seq I1
  refine zip_begins2 (begins kd a its.toArray) (begins ke b its2.toArray) hs1 hs2 fun h' hzp hTI hTO hi1 hi2 hsz hk => wpAny_pyIter_zip hzp ?_
  have I2 : Inv X pins σ H1 { s1 with heap := h' } := I1.kept (t' := s1.toks) hk
  have S := zip_sep2 (N := s1.heap.objs.size) (fp1 := [a]) (fp2 := [b]) (fun c hc => by rw [List.mem_singleton.mp hc]; exact hs1.lt) (fun c hc => by rw [List.mem_singleton.mp hc]; exact hs2.lt)
  refine ⟨s1.heap.objs.size + 4, [s1.heap.objs.size + 4, s1.heap.objs.size + 2, s1.heap.objs.size + 3, s1.heap.objs.size, s1.heap.objs.size + 1], _, _, H1, rfl, I2, turn_zp kd ke S, ⟨hzp, hTI, ⟨_, _, hTO⟩, ItAt.zero kd hi1, ItAt.zero ke hi2⟩, fun c hcm => ?_, k⟩
  have hle : s1.heap.objs.size ≤ c := by
    have e' : c = s1.heap.objs.size + 4 ∨ c = s1.heap.objs.size + 2 ∨ c = s1.heap.objs.size + 3 ∨ c = s1.heap.objs.size ∨ c = s1.heap.objs.size + 1 := by simpa using hcm
    rcases e' with z | z | z | z | z <;> rw [z] <;> first | exact Nat.le_refl _ | exact Nat.le_add_right _ _
  exact I1.fpOk hle (I1.hok.fresh hle)
end Iv

namespace Iv
open PySem L2 PyProof.Rows
open Evl (Ex)

/-! ### the readings -/
section
variable (p : Pm)
def tE (m : E) : TE := fun σ H Q => ∃ F s d s', Good p F H σ s ∧ evE p.Φ m s = some (d, s') ∧ ∀ v F' H', Nxt p σ s F H s' F' H' → Good p F' H' σ s' → R p.K p.wa.s F' v d → Q v H'
/-- read, not handed on -/
def tP (m : E) : TE := fun σ H Q => ∃ F s d s', Good p F H σ s ∧ pk m (evE p.Φ m) s = some (d, s') ∧ ∀ v F' H', Nxt p σ s F H s' F' H' → Good p F' H' σ s' → RP p F' H' v d → Q v H'
/-- a value that stands apart -/
def tL (m : E) : TE := fun σ H Q => ∃ F s d s', Good p F H σ s ∧ evE p.Φ m s = some (d, s') ∧ ∀ a F' H', Nxt p σ s F H s' F' H' → Good p F' H' σ s' → H a = none → F' a = none → RO p F' H' a d → Q (.ref a) H'
def tB1 (m : E) : TT := fun σ H Q => ∃ F s b s', Good p F H σ s ∧ evE p.Φ m s = some (.bool b, s') ∧ ∀ F' H', Nxt p σ s F H s' F' H' → Good p F' H' σ s' → Q b H'
def tAs (ms : Es) : TA := fun σ H Q => ∃ F s ds s', Good p F H σ s ∧ evEs p.Φ ms s = some (ds, s') ∧ ∀ vs F' H', Nxt p σ s F H s' F' H' → Good p F' H' σ s' → RA p.K p.wa.s F' vs ds → Q vs H'
/-- J yields the data xs, whatever is known besides F -/
structure Yl (F : Hp) (J : L2.It) (xs : List D) : Prop where
  go : ∀ i H, Ex F H → i < xs.length → J.go i H
  stop : ∀ i H, Ex F H → i = xs.length → J.stop i H
  yld : ∀ i H v H' d, Ex F H → J.yld i H v H' → xs[i]? = some d → (H' = H ∧ R p.K p.wa.s F v d) ∨ ∃ T o, H T = none ∧ H' = upd H T o ∧ R p.K p.wa.s (upd F T o) v d
def tI (m : Iv.It) : TI := fun σ H Rr => ∃ F s xs s', Good p F H σ s ∧ evIt p.Φ m s = some (xs, s') ∧ ∀ J F' H', Nxt p σ s F H s' F' H' → Good p F' H' σ s' → Yl p F' J xs → Rr J H'
end
/-- what the rules ask of an expression's form -/
structure Frm (a : Expr) : Prop where
  ns : ∀ (es : List Expr) (env : Env), starEach (a :: es) env = (false, eval a env) :: starEach es env
  ix : PlainIx a
  bm : ∀ o, behindInMarks o a = false
  fs : ∀ (env : Env) (x : Value), foldedSetIterable a env x = pure x
structure OkE (p : Pm) (X : Cx) (a : Expr) (m : E) : Prop where
  fm : Frm a
  pe : PE X a (tE p m)
  vr : ∀ i, m = .var i → PE X a (tVar i)
abbrev OkT (p : Pm) (X : Cx) (a : Expr) (m : E) : Prop := PT X a (tB1 p m)
abbrev OkA (p : Pm) (X : Cx) (a : List Expr) (m : Es) : Prop := PA X a (tAs p m)
abbrev OkI (p : Pm) (X : Cx) (tg a : Expr) (m : Iv.It) : Prop := PI X tg a (tI p m)

section
variable {p : Pm} {X : Cx} {k : Nat} {σ : L2.St} {s s1 s2 : S1} {F F1 F2 H H1 H2 : Hp}
theorem dat_RP (g : Good p F H σ s) {i : Nat} {d : D} (h : s.dat i = some d) : ∃ v, σ[i]? = some (some v) ∧ RP p F H v d := by
  unfold S1.dat at h
  cases e : s.r[i]? with
  | none => rw [e] at h; cases h
  | some en =>
    rw [e] at h
    cases en with
    | no => cases h
    | val d' =>
      cases h
      obtain ⟨v, h1, h2⟩ := g.val i d e
      exact ⟨v, h1, .inl h2⟩
    | own d' =>
      cases h
      obtain ⟨a, h1, h2, h3, h4⟩ := g.own i d e
      exact ⟨.ref a, h1, .inr ⟨a, rfl, h2, h4⟩⟩
theorem R.rp {v : V} {d : D} (h : R p.K p.wa.s F v d) : RP p F H v d := .inl h
/-- a plain name is read -/
theorem OkE.pk {a : Expr} {m : E} (h : OkE p X a m) : PE X a (tP p m) := by
  refine ⟨fun pins sh σ H Q I hq => ?_⟩
  obtain ⟨F, s, d, s', g, hev, q⟩ := hq
  cases m with
  | var i =>
    simp only [Iv.pk, Option.map_eq_some_iff] at hev
    obtain ⟨d', hd, e⟩ := hev
    cases e
    obtain ⟨v, h1, h2⟩ := dat_RP g hd
    exact (h.vr i rfl).run pins sh σ H Q I ⟨v, h1, q v F H .refl g h2⟩
  | _ => exact h.pe.run pins sh σ H Q I ⟨F, s, d, s', g, hev, fun v F' H' n g' r => q v F' H' n g' r.rp⟩
/-- two operands -/
theorem ev2_ok {a b : Expr} {ma mb : E} (ha : OkE p X a ma) (hb : OkE p X b mb) (g : Good p F H σ s) {x y : D} {s' : S1} (hev : ev2 ma mb (evE p.Φ ma) (evE p.Φ mb) s = some (x, y, s')) :
    ∃ ta tb, PE X a ta ∧ PE X b tb ∧ ∀ k : V → V → Hp → Prop, (∀ vx vy F' H', Nxt p σ s F H s' F' H' → Good p F' H' σ s' → RP p F' H' vx x → RP p F' H' vy y → k vx vy H') → ta σ H fun vx H1 => tb σ H1 fun vy H2 => k vx vy H2 := by
  by_cases hv : ∃ i, ma = .var i
  · obtain ⟨i, rfl⟩ := hv
    simp only [ev2] at hev
    cases h0 : s.dat i with
    | none => rw [h0] at hev; cases hev
    | some x0 =>
      rw [h0] at hev
      obtain ⟨⟨y', s1⟩, h1, h2⟩ := Option.bind_eq_some_iff.mp hev
      simp only [Option.map_eq_some_iff] at h2
      obtain ⟨x', hx, e⟩ := h2
      simp only [Prod.mk.injEq] at e
      obtain ⟨rfl, rfl, rfl⟩ := e
      refine ⟨_, _, ha.vr i rfl, hb.pk, fun k hk => ?_⟩
      obtain ⟨v, hv, _⟩ := dat_RP g h0
      refine ⟨v, hv, F, s, _, _, g, h1, fun vy F' H' n g' ry => ?_⟩
      obtain ⟨v', h3, h4⟩ := dat_RP g' hx
      rw [hv] at h3; cases h3
      exact hk v vy F' H' n g' h4 ry
  · have hev' : ((evE p.Φ ma s).bind fun z => (pk mb (evE p.Φ mb) z.2).map fun w => (z.1, w.1, w.2)) = some (x, y, s') := by
      cases ma <;> first | exact hev | exact absurd ⟨_, rfl⟩ hv
    obtain ⟨⟨x', s1⟩, h1, h2⟩ := Option.bind_eq_some_iff.mp hev'
    simp only [Option.map_eq_some_iff] at h2
    obtain ⟨⟨y', s2⟩, hy, e⟩ := h2
    simp only [Prod.mk.injEq] at e
    obtain ⟨rfl, rfl, rfl⟩ := e
    refine ⟨_, _, ha.pe, hb.pk, fun k hk => ?_⟩
    exact ⟨F, s, _, s1, g, h1, fun vx F1 H1 n1 g1 r1 => ⟨F1, s1, _, _, g1, hy, fun vy F2 H2 n2 g2 r2 => hk vx vy F2 H2 (n1.trans n2 g2) g2 (r1.mono n2.ex).rp r2⟩⟩

/-! ### iterators that yield data -/
theorem enum_get : ∀ (ds : List D) (k i : Nat), (enumD k ds)[i]? = ds[i]?.map fun d => .tuple [.int ((k + i : Nat) : Int), d]
  | [], k, i => by simp [enumD]
  | d :: ds, k, 0 => by simp [enumD]
  | d :: ds, k, i + 1 => by
    simp only [enumD, List.getElem?_cons_succ]
    rw [enum_get ds (k + 1) i]
    have : k + 1 + i = k + (i + 1) := by omega
    rw [this]
theorem enum_len : ∀ (ds : List D) (k : Nat), (enumD k ds).length = ds.length
  | [], k => rfl
  | d :: ds, k => by simp [enumD, enum_len ds]
theorem zip_get : ∀ (xs ys : List D) (i : Nat) (d : D), (zipD xs ys)[i]? = some d → ∃ x y, xs[i]? = some x ∧ ys[i]? = some y ∧ d = .tuple [x, y]
  | [], ys, i, d, h => by simp [zipD] at h
  | x :: xs, [], i, d, h => by simp [zipD] at h
  | x :: xs, y :: ys, 0, d, h => by
    simp [zipD] at h
    exact ⟨x, y, rfl, rfl, h.symm⟩
  | x :: xs, y :: ys, i + 1, d, h => by
    simp only [zipD, List.getElem?_cons_succ] at h
    exact zip_get xs ys i d h
theorem zip_len : ∀ (xs ys : List D), (zipD xs ys).length = min xs.length ys.length
  | [], ys => by simp [zipD]
  | x :: xs, [] => by simp [zipD]
  | x :: xs, y :: ys => by simp [zipD, zip_len xs ys]
theorem range_get (a b : Int) (i : Nat) (d : D) (h : (rangeD a b)[i]? = some d) : d = .int (a + (i : Nat)) := by
  unfold rangeD at h
  rw [List.getElem?_map] at h
  obtain ⟨j, hj, rfl⟩ := Option.map_eq_some_iff.mp h
  have := List.getElem?_eq_some_iff.mp hj
  obtain ⟨h1, h2⟩ := this
  rw [List.getElem_range] at h2
  subst h2; rfl
theorem range_len (a b : Int) : (rangeD a b).length = (b - a).toNat := by simp [rangeD]
theorem yl_list {a : Addr} {vs : List V} {ds : List D} (h1 : Rd F a (.lst vs)) (h2 : RA p.K p.wa.s F vs ds) : Yl p F (Itl p.K a) ds where
  go := fun i H e hi => by
    have hl := h2.length
    exact ⟨vs, vs[i]'(by omega), .inl (Evl.ex_rd e h1), by simp [hl, hi]⟩
  stop := fun i H e hi => ⟨vs, .inl (Evl.ex_rd e h1), by rw [h2.length]; omega⟩
  yld := fun i H v H' d e hy hd => by
    obtain ⟨e1, y⟩ := hy
    obtain ⟨v', h3, h4⟩ := h2.get hd
    have := y vs (.inl (Evl.ex_rd e h1))
    rw [h3] at this; cases this
    exact .inl ⟨e1, h4⟩
theorem yl_tup {a : Addr} {vs : List V} {ds : List D} (h1 : SqT p.K F a vs) (h2 : RA p.K p.wa.s F vs ds) : Yl p F (Itt p.K a) ds where
  go := fun i H e hi => by
    have hl := h2.length
    exact ⟨vs, vs[i]'(by omega), Evl.ex_t e h1, by simp [hl, hi]⟩
  stop := fun i H e hi => ⟨vs, Evl.ex_t e h1, by rw [h2.length]; omega⟩
  yld := fun i H v H' d e hy hd => by
    obtain ⟨e1, y⟩ := hy
    obtain ⟨v', h3, h4⟩ := h2.get hd
    have := y vs (Evl.ex_t e h1)
    rw [h3] at this; cases this
    exact .inl ⟨e1, h4⟩
theorem yl_range {a b : Int} {n : Nat} (hn : n = (b - a).toNat) : Yl p F (Itr a n) (rangeD a b) where
  go := fun i H e hi => by rw [range_len] at hi; show i < n; omega
  stop := fun i H e hi => by rw [range_len] at hi; show n ≤ i; omega
  yld := fun i H v H' d e hy hd => by
    obtain ⟨e1, y⟩ := hy
    subst y
    rw [range_get a b i d hd]
    exact .inl ⟨e1, .int _⟩
/-- a value that is a sequence -/
theorem R.src {v : V} {d : D} {xs : List D} (h : R p.K p.wa.s F v d) (hs : seqOf d = some xs) : ∃ kd a vs, v = .ref a ∧ (∀ H, Ex F H → Src p.K H kd a vs) ∧ RA p.K p.wa.s F vs xs := by
  cases h <;> simp [seqOf] at hs
  · subst hs
    rename_i a vs ds h1 h2
    exact ⟨.L, a, vs, rfl, fun H e => .inl (Evl.ex_rd e h1), h2⟩
  · subst hs
    rename_i a vs ds h1 h2
    exact ⟨.T, a, vs, rfl, fun H e => Evl.ex_t e h1, h2⟩
  · cases hs
  · cases hs
theorem yl_en {kd : Kd} {a : Addr} {vs : List V} {ds : List D} (h1 : ∀ H, Ex F H → Src p.K H kd a vs) (h2 : RA p.K p.wa.s F vs ds) : Yl p F (Jen p.K kd a) (enumD 0 ds) where
  go := fun i H e hi => by
    have hl := h2.length
    rw [enum_len] at hi
    exact ⟨vs, vs[i]'(by omega), h1 H e, by simp [hl, hi]⟩
  stop := fun i H e hi => ⟨vs, h1 H e, by rw [enum_len] at hi; rw [h2.length]; omega⟩
  yld := fun i H v H' d e hy hd => by
    obtain ⟨T, x, rfl, hT, rfl, y⟩ := hy
    rw [enum_get] at hd
    obtain ⟨d', hd', rfl⟩ := Option.map_eq_some_iff.mp hd
    obtain ⟨v', h3, h4⟩ := h2.get hd'
    have := y vs (h1 H e)
    rw [h3] at this; cases this
    refine .inr ⟨T, _, hT, rfl, ?_⟩
    rw [Nat.zero_add]
    exact .tup (.of upd_same) (.cons (.int _) (.cons (h4.mono (Ex.new (fresh_of e hT))) .nil))
theorem yl_zp {kd ke : Kd} {a b : Addr} {vs us : List V} {ds es : List D} (h1 : ∀ H, Ex F H → Src p.K H kd a vs) (h2 : RA p.K p.wa.s F vs ds) (g1 : ∀ H, Ex F H → Src p.K H ke b us) (g2 : RA p.K p.wa.s F us es) : Yl p F (Jzp p.K kd ke a b) (zipD ds es) where
  go := fun i H e hi => by
    have hl := h2.length
    have hl2 := g2.length
    rw [zip_len] at hi
    exact ⟨vs, us, vs[i]'(by omega), us[i]'(by omega), h1 H e, g1 H e, List.getElem?_eq_getElem _, List.getElem?_eq_getElem _⟩
  stop := fun i H e hi => ⟨vs, us, h1 H e, g1 H e, by rw [zip_len] at hi; rw [h2.length]; omega, by rw [zip_len] at hi; rw [g2.length]; omega, by rw [zip_len] at hi; rw [h2.length, g2.length]; omega⟩
  yld := fun i H v H' d e hy hd => by
    obtain ⟨T, x, y, rfl, hT, rfl, y1, y2⟩ := hy
    obtain ⟨dx, dy, hx, hy, rfl⟩ := zip_get _ _ _ _ hd
    obtain ⟨v1, a1, a2⟩ := h2.get hx
    obtain ⟨v2, b1, b2⟩ := g2.get hy
    have z1 := y1 vs (h1 H e)
    have z2 := y2 us (g1 H e)
    rw [a1] at z1; cases z1
    rw [b1] at z2; cases z2
    have ex := Ex.new (o := HO.tup [x, y]) (fresh_of e hT)
    exact .inr ⟨T, _, hT, rfl, .tup (.of upd_same) (.cons (a2.mono ex) (.cons (b2.mono ex) .nil))⟩
end
end Iv

namespace Iv
open PySem L2 PyProof.Rows
open Evl (Ex)
theorem Frm.mk' {a : Expr} (h1 : ∀ (es : List Expr) (env : Env), starEach (a :: es) env = (false, eval a env) :: starEach es env := by intro _ _; rfl) (h2 : PlainIx a := by intro _ _; rfl) (h3 : ∀ o, behindInMarks o a = false := by intro _; rfl)
    (h4 : ∀ (env : Env) (x : Value), foldedSetIterable a env x = pure x := by intro _ _; rfl) : Frm a := ⟨h1, h2, h3, h4⟩
section
variable {p : Pm} {X : Cx} {k : Nat}
theorem OkE.nv {a : Expr} {m : E} (fm : Frm a) (h : PE X a (tE p m)) (hm : ∀ i, m ≠ .var i) : OkE p X a m := ⟨fm, h, fun i e => absurd e (hm i)⟩

/-! ### names and constants -/
theorem e_var {i : Nat} {x : Str} {pos : Pos} (hN : X.N[i]? = some x) (hv : Vis X.env.scope x) (hd : (x == ("__debug__" : Str)) = false) (hcd : (x == ("__classdict__" : Str)) = false) : OkE p X (.Name x pos) (.var i) := by
  have pe := pe_var (X := X) (pos := pos) hN hv hd hcd
  refine ⟨.mk', ⟨fun pins sh σ H Q I h => ?_⟩, fun j e => by cases e; exact pe⟩
  obtain ⟨F, s, d, s', g, hev, q⟩ := h
  simp only [evE, S1.use] at hev
  split at hev
  · rename_i d' hd'
    cases hev
    obtain ⟨v, h1, h2⟩ := g.val i _ hd'
    exact pe.run pins sh σ H Q I ⟨v, h1, q v F H .refl g h2⟩
  · rename_i d' hd'
    cases hev
    obtain ⟨a, o, h1, h2, h3, h4, h5⟩ := g.unown hd'
    exact pe.run pins sh σ H Q I ⟨_, h1, q _ _ _ h4 h3 h5⟩
  · cases hev
theorem e_cst {a : Expr} {v : V} {d : D} (fm : Frm a) (pe : PE X a (tC v)) (r : ∀ K sa F, R K sa F v d) : OkE p X a (.cst d) := by
  refine .nv fm ⟨fun pins sh σ H Q I h => ?_⟩ (fun i => by intro z; cases z)
  obtain ⟨F, s, d', s', g, hev, q⟩ := h
  simp only [evE, Option.some.injEq, Prod.mk.injEq] at hev
  obtain ⟨rfl, rfl⟩ := hev
  exact pe.run pins sh σ H Q I (q v F H .refl g (r _ _ _))
theorem e_neg {a : Expr} {ma : E} {pos : Pos} (ha : OkE p X a ma) : OkE p X (.UnaryOp .USub a pos) (.neg ma) := by
  refine .nv .mk' ⟨fun pins sh σ H Q I h => ?_⟩ (fun i => by intro z; cases z)
  obtain ⟨F, s, d, s', g, hev, q⟩ := h
  simp only [evE] at hev
  obtain ⟨⟨d1, s1⟩, h1, h2⟩ := Option.bind_eq_some_iff.mp hev
  cases d1 <;> simp at h2
  obtain ⟨rfl, rfl⟩ := h2
  refine (pe_un un_neg ha.pe).run pins sh σ H Q I ⟨F, s, _, _, g, h1, fun v F' H' n g' r => ?_⟩
  cases r
  exact ⟨_, rfl, q _ F' H' n g' (.int _)⟩

/-! ### operators -/
theorem e_op {a b : Expr} {ma mb : E} {o : Op2} {f : Value → Value → Sem Value} {e : Expr} (fm : Frm e) (hop : OpR X f (rG p (op2 o))) (mk : ∀ ta tb, PE X a ta → PE X b tb → PE X e (tOp (rG p (op2 o)) ta tb)) (ha : OkE p X a ma) (hb : OkE p X b mb) : OkE p X e (.op o ma mb) := by
  refine .nv fm ⟨fun pins sh σ H Q I h => ?_⟩ (fun i => by intro z; cases z)
  obtain ⟨F, s, d, s', g, hev, q⟩ := h
  simp only [evE] at hev
  obtain ⟨⟨x, y, s1⟩, h1, h2⟩ := Option.bind_eq_some_iff.mp hev
  simp only [Option.map_eq_some_iff, Prod.mk.injEq] at h2
  obtain ⟨d', h2, rfl, rfl⟩ := h2
  obtain ⟨ta, tb, pa, pb, hk⟩ := ev2_ok ha hb g h1
  refine (mk ta tb pa pb).run pins sh σ H Q I (hk _ fun vx vy F' H' n g' rx ry => ?_)
  exact ⟨F', x, y, _, g'.ex, rx, ry, h2, fun v F2 H2 gr r => q v F2 H2 (n.trans (g'.nxtGrow gr) (g'.grow gr)) (g'.grow gr) r⟩
theorem e_bin {a b : Expr} {ma mb : E} {o : Op2} {f : Operator} {pos : Pos} (hop : OpR X (binaryOp f) (rG p (op2 o))) (ha : OkE p X a ma) (hb : OkE p X b mb) : OkE p X (.BinOp a f b pos) (.op o ma mb) :=
  e_op .mk' hop (fun _ _ pa pb => pe_op hop pa pb) ha hb
theorem e_cmp {a b : Expr} {ma mb : E} {o : Op2} {f : CmpOp} {pos : Pos} (hop : OpR X (compareOp f) (rG p (op2 o))) (ha : OkE p X a ma) (hb : OkE p X b mb) : OkE p X (.Compare a [f] [b] pos) (.op o ma mb) :=
  e_op .mk' hop (fun _ _ pa pb => pe_cmpR hop pa pb (hb.fm.bm f)) ha hb
theorem op2_bool {o : Op2} {f : CmpOp} {x y d : D} (ho : OpR X (compareOp f) (rG p (op2 o))) (h : op2 o x y = some d) : True := trivial
theorem e_chain {a b c : Expr} {ma mb mc : E} {o o' : Op2} {f f' : CmpOp} {pos : Pos} (ho : OpR X (compareOp f) (rG p (op2 o))) (ho' : OpR X (compareOp f') (rG p (op2 o'))) (ha : OkE p X a ma) (hb : OkE p X b mb) (hc : OkE p X c mc) : OkE p X (.Compare a [f, f'] [b, c] pos) (.chain o o' ma mb mc) := by
  refine .nv .mk' ⟨fun pins sh σ H Q I h => ?_⟩ (fun i => by intro z; cases z)
  obtain ⟨F, s, d, s', g, hev, q⟩ := h
  simp only [evE] at hev
  obtain ⟨⟨x, s1⟩, h1, hev⟩ := Option.bind_eq_some_iff.mp hev
  obtain ⟨⟨y, s2⟩, h2, hev⟩ := Option.bind_eq_some_iff.mp hev
  obtain ⟨d1, h3, hev⟩ := Option.bind_eq_some_iff.mp hev
  refine (pe_chain ho ho' ha.pe hb.pe hc.pe (hm := by show behindInMarks f' c = false; exact hc.fm.bm f')).run pins sh σ H Q I ⟨F, s, _, _, g, h1, fun vx F1 H1 n1 g1 r1 => ⟨F1, s1, _, _, g1, h2, fun vy F2 H2 n2 g2 r2 => ?_⟩⟩
  refine ⟨F2, x, y, _, g2.ex, (r1.mono n2.ex).rp, r2.rp, h3, fun v F3 H3 gr r3 => ?_⟩
  have g3 := g2.grow gr
  have n3 := n1.trans (n2.trans (g2.nxtGrow gr) g3) g3
  cases d1 with
  | bool bb =>
    cases bb with
    | true =>
      simp only at hev
      obtain ⟨⟨z, s3⟩, h4, h5⟩ := Option.bind_eq_some_iff.mp hev
      simp only [Option.map_eq_some_iff, Prod.mk.injEq] at h5
      obtain ⟨d', h5, rfl, rfl⟩ := h5
      cases r3
      refine ⟨true, rfl, F3, _, _, _, g3, h4, fun vz F4 H4 n4 g4 r4 => ?_⟩
      have e4 := (g2.nxtGrow gr).ex.trans n4.ex
      exact ⟨F4, y, z, _, g4.ex, (r2.mono e4).rp, r4.rp, h5, fun v F5 H5 gr' r => q v F5 H5 (n3.trans (n4.trans (g4.nxtGrow gr') (g4.grow gr')) (g4.grow gr')) (g4.grow gr') r⟩
    | false =>
      simp only [Option.some.injEq, Prod.mk.injEq] at hev
      obtain ⟨rfl, rfl⟩ := hev
      cases r3
      exact ⟨false, rfl, q _ F3 H3 n3 g3 (.bl _)⟩
  | _ => simp at hev

/-! ### and, or, not, if -/
theorem e_and {a b : Expr} {rest : List Expr} {ma mb : E} {pos : Pos} (ha : OkE p X a ma) (hb : OkE p X (.BoolOp .And (b :: rest) pos) mb) : OkE p X (.BoolOp .And (a :: b :: rest) pos) (.and ma mb) := by
  refine .nv .mk' ⟨fun pins sh σ H Q I h => ?_⟩ (fun i => by intro z; cases z)
  obtain ⟨F, s, d, s', g, hev, q⟩ := h
  simp only [evE] at hev
  obtain ⟨⟨x, s1⟩, h1, hev⟩ := Option.bind_eq_some_iff.mp hev
  refine (pe_and ha.pe hb.pe).run pins sh σ H Q I ⟨F, s, _, _, g, h1, fun vx F1 H1 n1 g1 r1 => ?_⟩
  cases x with
  | bool bb =>
    cases r1
    cases bb with
    | true => exact ⟨true, rfl, F1, s1, _, _, g1, hev, fun v F2 H2 n2 g2 r => q v F2 H2 (n1.trans n2 g2) g2 r⟩
    | false =>
      simp only [Option.some.injEq, Prod.mk.injEq] at hev
      obtain ⟨rfl, rfl⟩ := hev
      exact ⟨false, rfl, q _ F1 H1 n1 g1 (.bl _)⟩
  | _ => simp at hev
theorem e_or {a b : Expr} {rest : List Expr} {ma mb : E} {pos : Pos} (ha : OkE p X a ma) (hb : OkE p X (.BoolOp .Or (b :: rest) pos) mb) : OkE p X (.BoolOp .Or (a :: b :: rest) pos) (.or ma mb) := by
  refine .nv .mk' ⟨fun pins sh σ H Q I h => ?_⟩ (fun i => by intro z; cases z)
  obtain ⟨F, s, d, s', g, hev, q⟩ := h
  simp only [evE] at hev
  obtain ⟨⟨x, s1⟩, h1, hev⟩ := Option.bind_eq_some_iff.mp hev
  refine (pe_or ha.pe hb.pe).run pins sh σ H Q I ⟨F, s, _, _, g, h1, fun vx F1 H1 n1 g1 r1 => ?_⟩
  cases x with
  | bool bb =>
    cases r1
    cases bb with
    | false => exact ⟨false, rfl, F1, s1, _, _, g1, hev, fun v F2 H2 n2 g2 r => q v F2 H2 (n1.trans n2 g2) g2 r⟩
    | true =>
      simp only [Option.some.injEq, Prod.mk.injEq] at hev
      obtain ⟨rfl, rfl⟩ := hev
      exact ⟨true, rfl, q _ F1 H1 n1 g1 (.bl _)⟩
  | _ => simp at hev
theorem e_one {a : Expr} {ma : E} {o : BoolOp} {pos : Pos} (ha : OkE p X a ma) (hm : ∀ i, ma ≠ .var i) : OkE p X (.BoolOp o [a] pos) ma := .nv .mk' (pe_one ha.pe) hm
theorem e_not {a : Expr} {ma : E} {pos : Pos} (ha : OkE p X a ma) : OkE p X (.UnaryOp .Not a pos) (.not ma) := by
  refine .nv .mk' ⟨fun pins sh σ H Q I h => ?_⟩ (fun i => by intro z; cases z)
  obtain ⟨F, s, d, s', g, hev, q⟩ := h
  simp only [evE] at hev
  obtain ⟨⟨x, s1⟩, h1, hev⟩ := Option.bind_eq_some_iff.mp hev
  refine (pe_not ha.pe).run pins sh σ H Q I ⟨F, s, _, _, g, h1, fun vx F1 H1 n1 g1 r1 => ?_⟩
  cases x <;> simp at hev
  obtain ⟨rfl, rfl⟩ := hev
  cases r1
  exact ⟨_, rfl, q _ F1 H1 n1 g1 (.bl _)⟩
theorem e_ife {c a b : Expr} {mc ma mb : E} {pos : Pos} (hc : OkT p X c mc) (ha : OkE p X a ma) (hb : OkE p X b mb) : OkE p X (.IfExp c a b pos) (.ife mc ma mb) := by
  refine .nv .mk' ⟨fun pins sh σ H Q I h => ?_⟩ (fun i => by intro z; cases z)
  obtain ⟨F, s, d, s', g, hev, q⟩ := h
  simp only [evE] at hev
  obtain ⟨⟨x, s1⟩, h1, hev⟩ := Option.bind_eq_some_iff.mp hev
  cases x with
  | bool bb =>
    refine (pe_ifExp hc ha.pe hb.pe).run pins sh σ H Q I ⟨F, s, bb, s1, g, h1, fun F1 H1 n1 g1 => ?_⟩
    cases bb with
    | true => exact ⟨F1, s1, _, _, g1, hev, fun v F2 H2 n2 g2 r => q v F2 H2 (n1.trans n2 g2) g2 r⟩
    | false => exact ⟨F1, s1, _, _, g1, hev, fun v F2 H2 n2 g2 r => q v F2 H2 (n1.trans n2 g2) g2 r⟩
  | _ => simp at hev

/-! ### arguments, displays -/
theorem a_nil : OkA p X [] .nil := by
  refine ⟨fun pos pins sh σ H Q I h => ?_⟩
  obtain ⟨F, s, ds, s', g, hev, q⟩ := h
  simp only [evEs, Option.some.injEq, Prod.mk.injEq] at hev
  obtain ⟨rfl, rfl⟩ := hev
  exact pa_nil.run pos pins sh σ H Q I (q [] F H .refl g .nil)
theorem a_cons {e : Expr} {es : List Expr} {m : E} {ms : Es} (he : OkE p X e m) (hs : OkA p X es ms) : OkA p X (e :: es) (.cons m ms) := by
  refine ⟨fun pos pins sh σ H Q I h => ?_⟩
  obtain ⟨F, s, ds, s', g, hev, q⟩ := h
  simp only [evEs] at hev
  obtain ⟨⟨d, s1⟩, h1, hev⟩ := Option.bind_eq_some_iff.mp hev
  simp only [Option.map_eq_some_iff, Prod.mk.injEq] at hev
  obtain ⟨⟨ds', s2⟩, h2, rfl, rfl⟩ := hev
  refine (pa_cons he.pe hs (hs := he.fm.ns es X.env)).run pos pins sh σ H Q I ⟨F, s, d, s1, g, h1, fun v F1 H1 n1 g1 r1 => ⟨F1, s1, _, _, g1, h2, fun vs F2 H2 n2 g2 r2 => ?_⟩⟩
  exact q _ F2 H2 (n1.trans n2 g2) g2 (.cons (r1.mono n2.ex) r2)
theorem e_tup {es : List Expr} {ms : Es} {x1 : Nat} {pos : Pos} (h : OkA p X es ms) : OkE p X (.Tuple es x1 pos) (.tup ms) := by
  refine .nv .mk' ⟨fun pins sh σ H Q I hh => ?_⟩ (fun i => by intro z; cases z)
  obtain ⟨F, s, d, s', g, hev, q⟩ := hh
  simp only [evE] at hev
  obtain ⟨⟨ds, s1⟩, h1, hev⟩ := Option.bind_eq_some_iff.mp hev
  simp only at hev
  split at hev <;> cases hev
  rename_i hl
  refine (pe_tup h).run pins sh σ H Q I ⟨F, s, ds, _, g, h1, fun vs F1 H1 n1 g1 r1 => ⟨by rw [line_eq, r1.length]; exact hl, fun a ha => ?_⟩⟩
  exact q _ _ _ (n1.trans (g1.nxtNew ha) (g1.new ha)) (g1.new ha) (.tup (.of upd_same) (r1.mono (Ex.new (g1.noneF ha))))
theorem tL_tE {e : Expr} {m : E} (h : PE X e (tL p m)) : PE X e (tE p m) := by
  refine ⟨fun pins sh σ H Q I hh => ?_⟩
  obtain ⟨F, s, d, s', g, hev, q⟩ := hh
  refine h.run pins sh σ H Q I ⟨F, s, d, s', g, hev, fun a F' H' n g' h0 hF hR => ?_⟩
  have hno : ¬ Owned σ s' a := fun z => g.noneO h0 (n.ownd z)
  have hw : ¬ InW p.wa a := g.noneW h0
  obtain ⟨o, ho, hr⟩ : ∃ o, H' a = some o ∧ R p.K p.wa.s (upd F' a o) (.ref a) d := by
    cases d with
    | list ds =>
      obtain ⟨vs, e1, e2⟩ := hR
      exact ⟨_, e1, .lst (.inl upd_same) (e2.mono (upd_ex hF))⟩
    | dict ds =>
      obtain ⟨vs, e1, e2⟩ := hR
      exact ⟨_, e1, .dic upd_same (e2.mono (upd_ex hF))⟩
    | _ => exact hR.elim
  have g2 := g'.freeze ho hF (g.none0 h0) hw hno
  refine q _ _ _ ⟨n.ex.trans (upd_ex hF), n.keep, fun b u e => ?_, n.own, n.len, n.dom⟩ g2 hr
  by_cases hb : b = a
  · subst hb; exact .inr (.inl h0)
  · rw [upd_ne hb] at e; exact n.new b u e
theorem l_lst {es : List Expr} {ms : Es} {pos : Pos} (h : OkA p X es ms) : PE X (.List es pos) (tL p (.lst ms)) := by
  refine ⟨fun pins sh σ H Q I hh => ?_⟩
  obtain ⟨F, s, d, s', g, hev, q⟩ := hh
  simp only [evE] at hev
  obtain ⟨⟨ds, s1⟩, h1, hev⟩ := Option.bind_eq_some_iff.mp hev
  simp only at hev
  split at hev <;> cases hev
  rename_i hl
  refine (pe_lst h).run pins sh σ H Q I ⟨F, s, ds, _, g, h1, fun vs F1 H1 n1 g1 r1 => ⟨by rw [line_eq, r1.length]; exact hl, fun a ha => ?_⟩⟩
  refine q a F1 _ ⟨n1.ex, fun b u e x y => ?_, n1.new, n1.own, n1.len, fun b e => n1.dom b (upd_none e)⟩ (g1.loose ha) (n1.dom a ha) (g1.noneF ha) ⟨vs, upd_same, r1⟩
  have := n1.keep b u e x y
  rw [upd_ne (ne_of_none this ha)]
  exact this
end
end Iv

namespace Iv
open PySem L2 PyProof.Rows
open Evl (Ex)
section
variable {p : Pm} {X : Cx} {k : Nat}
abbrev OkW (p : Pm) (X : Cx) (a : Expr) (m : E) : Prop := PW X a (tB1 p m)
/-! ### tests -/
theorem t_val {a : Expr} {m : E} (h : OkE p X a m) (hf : ∀ env whole, isTrue a env whole = (do let v ← whole; standAt a.pos; holding [v] (truthy v))) : OkT p X a m := by
  refine ⟨fun pins sh σ H Q I hh => ?_⟩
  obtain ⟨F, s, b, s', g, hev, q⟩ := hh
  refine (pt_val h.pe (hf X.env)).run pins sh σ H Q I ⟨F, s, _, _, g, hev, fun v F' H' n g' r => ?_⟩
  cases r
  exact ⟨b, rfl, q F' H' n g'⟩
theorem t_op {a b : Expr} {ma mb : E} {o : Op2} {f : CmpOp} {pos : Pos} (hop : OpR X (compareOp f) (rG p (op2 o))) (ha : OkE p X a ma) (hb : OkE p X b mb) : OkT p X (.Compare a [f] [b] pos) (.op o ma mb) := by
  refine ⟨fun pins sh σ H Q I hh => ?_⟩
  obtain ⟨F, s, bb, s', g, hev, q⟩ := hh
  simp only [evE] at hev
  obtain ⟨⟨x, y, s1⟩, h1, h2⟩ := Option.bind_eq_some_iff.mp hev
  simp only [Option.map_eq_some_iff, Prod.mk.injEq] at h2
  obtain ⟨d', h2, rfl, rfl⟩ := h2
  obtain ⟨ta, tb, pa, pb, hk⟩ := ev2_ok ha hb g h1
  refine (pt_cmpR hop pa pb (hb.fm.bm f)).run pins sh σ H Q I (hk _ fun vx vy F' H' n g' rx ry => ?_)
  refine ⟨F', x, y, _, g'.ex, rx, ry, h2, fun v F2 H2 gr r => ?_⟩
  cases r
  exact ⟨bb, rfl, q F2 H2 (n.trans (g'.nxtGrow gr) (g'.grow gr)) (g'.grow gr)⟩
/-- a value's derivation gives the test's where the machine tests it plainly -/
theorem t_chain {a b c : Expr} {ma mb mc : E} {o o' : Op2} {f f' : CmpOp} {pos : Pos} (ho : OpR X (compareOp f) (rG p (op2 o))) (ho' : OpR X (compareOp f') (rG p (op2 o'))) (ha : OkE p X a ma) (hb : OkE p X b mb) (hc : OkE p X c mc) : OkT p X (.Compare a [f, f'] [b, c] pos) (.chain o o' ma mb mc) := by
  refine ⟨fun pins sh σ H Q I h => ?_⟩
  obtain ⟨F, s, b0, s', g, hev, q⟩ := h
  simp only [evE] at hev
  obtain ⟨⟨x, s1⟩, h1, hev⟩ := Option.bind_eq_some_iff.mp hev
  obtain ⟨⟨y, s2⟩, h2, hev⟩ := Option.bind_eq_some_iff.mp hev
  obtain ⟨d1, h3, hev⟩ := Option.bind_eq_some_iff.mp hev
  refine (pt_chain ho ho' ha.pe hb.pe hc.pe (hm := by show behindInMarks f' c = false; exact hc.fm.bm f')).run pins sh σ H Q I ⟨F, s, _, _, g, h1, fun vx F1 H1 n1 g1 r1 => ⟨F1, s1, _, _, g1, h2, fun vy F2 H2 n2 g2 r2 => ?_⟩⟩
  refine ⟨F2, x, y, _, g2.ex, (r1.mono n2.ex).rp, r2.rp, h3, fun v F3 H3 gr r3 => ?_⟩
  have g3 := g2.grow gr
  have n3 := n1.trans (n2.trans (g2.nxtGrow gr) g3) g3
  cases d1 with
  | bool bb =>
    cases bb with
    | true =>
      simp only at hev
      obtain ⟨⟨z, s3⟩, h4, h5⟩ := Option.bind_eq_some_iff.mp hev
      simp only [Option.map_eq_some_iff, Prod.mk.injEq] at h5
      obtain ⟨d', h5, rfl, rfl⟩ := h5
      cases r3
      refine ⟨true, rfl, F3, _, _, _, g3, h4, fun vz F4 H4 n4 g4 r4 => ?_⟩
      have e4 := (g2.nxtGrow gr).ex.trans n4.ex
      refine ⟨F4, y, z, _, g4.ex, (r2.mono e4).rp, r4.rp, h5, fun v F5 H5 gr' r => ?_⟩
      cases r
      exact ⟨b0, rfl, q F5 H5 (n3.trans (n4.trans (g4.nxtGrow gr') (g4.grow gr')) (g4.grow gr')) (g4.grow gr')⟩
    | false =>
      simp only [Option.some.injEq, Prod.mk.injEq, PyData.bool.injEq] at hev
      obtain ⟨rfl, rfl⟩ := hev
      cases r3
      exact ⟨false, rfl, false, rfl, q F3 H3 n3 g3⟩
  | _ => simp at hev
theorem w_and1 {a : Expr} {m : E} {pos : Pos} (h : OkT p X a m) : OkW p X (.BoolOp .And [a] pos) m := pw_and1 h
theorem w_or1 {a : Expr} {m : E} {pos : Pos} (h : OkT p X a m) : OkW p X (.BoolOp .Or [a] pos) m := pw_or1 h
theorem w_and {a b : Expr} {rest : List Expr} {ma mb : E} {pos : Pos} (ha : OkT p X a ma) (hb : OkW p X (.BoolOp .And (b :: rest) pos) mb) : OkW p X (.BoolOp .And (a :: b :: rest) pos) (.and ma mb) := by
  refine ⟨fun wh pins sh σ H Q I h => ?_⟩
  obtain ⟨F, s, b0, s', g, hev, q⟩ := h
  simp only [evE] at hev
  obtain ⟨⟨x, s1⟩, h1, hev⟩ := Option.bind_eq_some_iff.mp hev
  cases x with
  | bool bb =>
    refine (pw_and ha hb).run wh pins sh σ H Q I ⟨F, s, bb, s1, g, h1, fun F1 H1 n1 g1 => ?_⟩
    cases bb with
    | true => exact ⟨F1, s1, _, _, g1, hev, fun F2 H2 n2 g2 => q F2 H2 (n1.trans n2 g2) g2⟩
    | false =>
      simp only [Option.some.injEq, Prod.mk.injEq, PyData.bool.injEq] at hev
      obtain ⟨rfl, rfl⟩ := hev
      exact q F1 H1 n1 g1
  | _ => simp at hev
theorem w_or {a b : Expr} {rest : List Expr} {ma mb : E} {pos : Pos} (ha : OkT p X a ma) (hb : OkW p X (.BoolOp .Or (b :: rest) pos) mb) : OkW p X (.BoolOp .Or (a :: b :: rest) pos) (.or ma mb) := by
  refine ⟨fun wh pins sh σ H Q I h => ?_⟩
  obtain ⟨F, s, b0, s', g, hev, q⟩ := h
  simp only [evE] at hev
  obtain ⟨⟨x, s1⟩, h1, hev⟩ := Option.bind_eq_some_iff.mp hev
  cases x with
  | bool bb =>
    refine (pw_or ha hb).run wh pins sh σ H Q I ⟨F, s, bb, s1, g, h1, fun F1 H1 n1 g1 => ?_⟩
    cases bb with
    | false => exact ⟨F1, s1, _, _, g1, hev, fun F2 H2 n2 g2 => q F2 H2 (n1.trans n2 g2) g2⟩
    | true =>
      simp only [Option.some.injEq, Prod.mk.injEq, PyData.bool.injEq] at hev
      obtain ⟨rfl, rfl⟩ := hev
      exact q F1 H1 n1 g1
  | _ => simp at hev
theorem t_not {a : Expr} {m : E} {pos : Pos} (h : OkT p X a m) : OkT p X (.UnaryOp .Not a pos) (.not m) := by
  refine ⟨fun pins sh σ H Q I hh => ?_⟩
  obtain ⟨F, s, b0, s', g, hev, q⟩ := hh
  simp only [evE] at hev
  obtain ⟨⟨x, s1⟩, h1, hev⟩ := Option.bind_eq_some_iff.mp hev
  cases x <;> simp at hev
  obtain ⟨rfl, rfl⟩ := hev
  exact (pt_not h).run pins sh σ H Q I ⟨F, s, _, _, g, h1, fun F1 H1 n1 g1 => by simpa using q F1 H1 n1 g1⟩

/-! ### more expressions -/
theorem l_rep {es : List Expr} {ms : Es} {b : Expr} {mb : E} {p1 pos : Pos} (h : OkA p X es ms) (hb : OkE p X b mb) : PE X (.BinOp (.List es p1) .Mult b pos) (tL p (.rep ms mb)) := by
  refine ⟨fun pins sh σ H Q I hh => ?_⟩
  obtain ⟨F, s, d, s', g, hev, q⟩ := hh
  simp only [evE] at hev
  obtain ⟨⟨ds, s1⟩, h1, hev⟩ := Option.bind_eq_some_iff.mp hev
  obtain ⟨⟨x, s2⟩, h2, hev⟩ := Option.bind_eq_some_iff.mp hev
  cases x with
  | int kk =>
    simp only at hev
    split at hev
    case isFalse => cases hev
    rename_i hl
    simp only [Option.some.injEq, Prod.mk.injEq] at hev
    obtain ⟨rfl, rfl⟩ := hev
    obtain ⟨hl1, hl2, hl3, hl4⟩ := hl
    refine (pe_op op_rep (pe_lst h) hb.pe).run pins sh σ H Q I ⟨F, s, ds, s1, g, h1, fun vs F1 H1 n1 g1 r1 => ⟨by rw [line_eq, r1.length]; exact hl3, fun a ha => ?_⟩⟩
    have g1' := g1.loose (o := .lst vs) ha
    refine ⟨F1, s1, _, _, g1', h2, fun v F2 H2 n2 g2 r2 => ?_⟩
    cases r2
    have hno : ¬ Owned σ s1 a := g1.noneO ha
    have e2 : H2 a = some (.lst vs) := n2.keep a _ upd_same hno (g1.noneW ha)
    refine ⟨a, kk, vs, rfl, rfl, e2, ?_, ?_, ?_, fun b' hb' => ?_⟩
    · unfold big at hl2; omega
    · unfold big at hl1; omega
    · rw [line_eq, r1.length]; exact hl4
    have n12 : Nxt p σ s F H s2 F2 H2 := by
      refine Nxt.trans n1 (Nxt.trans (s1 := s1) (F1 := F1) (H1 := upd H1 a (.lst vs)) ⟨fun _ _ z => z, fun c o e _ _ => by rw [upd_ne (ne_of_none e ha)]; exact e, fun _ _ z => .inl z, fun _ d z => ⟨d, z⟩, rfl, fun c e => upd_none e⟩ n2 g2) g2
    refine q b' F2 _ ⟨n12.ex, fun c u e x y => ?_, n12.new, n12.own, n12.len, fun c e => n12.dom c (upd_none e)⟩ (g2.loose hb') (n12.dom _ hb') (g2.noneF hb') ⟨_, upd_same, (r1.mono n2.ex).rep _⟩
    have := n12.keep c u e x y
    rw [upd_ne (ne_of_none this hb')]
    exact this
  | _ => simp at hev
theorem e_idx (hK : X.K = p.K) (hr : Room k X.A) {a b : Expr} {ma mb : E} {pos : Pos} (ha : OkE p X a ma) (hb : OkE p X b mb) : OkE p X (.Subscript a b pos) (.idx ma mb) := by
  refine .nv .mk' ⟨fun pins sh σ H Q I h => ?_⟩ (fun i => by intro z; cases z)
  obtain ⟨F, s, d, s', g, hev, q⟩ := h
  simp only [evE] at hev
  obtain ⟨⟨x, y, s1⟩, h1, h2⟩ := Option.bind_eq_some_iff.mp hev
  simp only [Option.map_eq_some_iff, Prod.mk.injEq] at h2
  obtain ⟨d', h2, rfl, rfl⟩ := h2
  obtain ⟨ta, tb, pa, pb, hk⟩ := ev2_ok ha hb g h1
  refine (ok_idx hK hr pa pb hb.fm.ix).run pins sh σ H Q I (hk _ fun vx vy F' H' n g' rx ry => ?_)
  exact ⟨F', x, y, _, g'.ex, rx, ry, h2, fun v F2 H2 gr r => q v F2 H2 (n.trans (g'.nxtGrow gr) (g'.grow gr)) (g'.grow gr) r⟩
/-- a[lo:hi] -/
theorem frm_sub {a b : Expr} {pos : Pos} : Frm (.Subscript a b pos) := .mk'
theorem e_slF (hK : X.K = p.K) {a lo : Expr} {ma ml : E} {p2 pos : Pos} (ha : OkE p X a ma) (hl : OkE p X lo ml) : OkE p X (.Subscript a (.Slice (some lo) none none p2) pos) (.slF ma ml) := by
  refine .nv .mk' ⟨fun pins sh σ H Q I h => ?_⟩ (fun i => by intro z; cases z)
  obtain ⟨F, s, d, s', g, hev, q⟩ := h
  simp only [evE] at hev
  obtain ⟨⟨x, y, s1⟩, h1, h2⟩ := Option.bind_eq_some_iff.mp hev
  cases y <;> simp only [Option.map_eq_some_iff, Prod.mk.injEq] at h2 <;> try cases h2
  obtain ⟨h2, rfl, rfl⟩ := by rename_i hh; exact hh
  obtain ⟨ta, tb, pa, pb, hk⟩ := ev2_ok ha hl g h1
  refine (pe_slice (ok_slc hK) pa (po_some pb) po_none).run pins sh σ H Q I (hk (fun vx vy H2 => ∃ i, vy = .int i ∧ rS p vx (some i) none H2 Q) fun vx vy F' H' n g' rx ry => ?_)
  exact ⟨_, ry.ints, F', x, _, g'.ex, rx, h2, fun v F2 H2 gr r => q v F2 H2 (n.trans (g'.nxtGrow gr) (g'.grow gr)) (g'.grow gr) r⟩
theorem e_slT (hK : X.K = p.K) {a hi : Expr} {ma mh : E} {p2 pos : Pos} (ha : OkE p X a ma) (hh : OkE p X hi mh) : OkE p X (.Subscript a (.Slice none (some hi) none p2) pos) (.slT ma mh) := by
  refine .nv .mk' ⟨fun pins sh σ H Q I h => ?_⟩ (fun i => by intro z; cases z)
  obtain ⟨F, s, d, s', g, hev, q⟩ := h
  simp only [evE] at hev
  obtain ⟨⟨x, y, s1⟩, h1, h2⟩ := Option.bind_eq_some_iff.mp hev
  cases y <;> simp only [Option.map_eq_some_iff, Prod.mk.injEq] at h2 <;> try cases h2
  obtain ⟨h2, rfl, rfl⟩ := by rename_i hh; exact hh
  obtain ⟨ta, tb, pa, pb, hk⟩ := ev2_ok ha hh g h1
  refine (pe_slice (ok_slc hK) pa po_none (po_some pb)).run pins sh σ H Q I (hk (fun vx vy H2 => ∃ i, vy = .int i ∧ rS p vx none (some i) H2 Q) fun vx vy F' H' n g' rx ry => ?_)
  exact ⟨_, ry.ints, F', x, _, g'.ex, rx, h2, fun v F2 H2 gr r => q v F2 H2 (n.trans (g'.nxtGrow gr) (g'.grow gr)) (g'.grow gr) r⟩
theorem e_slB (hK : X.K = p.K) {a lo hi : Expr} {ma ml mh : E} {p2 pos : Pos} (ha : OkE p X a ma) (hl : OkE p X lo ml) (hh : OkE p X hi mh) : OkE p X (.Subscript a (.Slice (some lo) (some hi) none p2) pos) (.slB ma ml mh) := by
  refine .nv .mk' ⟨fun pins sh σ H Q I h => ?_⟩ (fun i => by intro z; cases z)
  obtain ⟨F, s, d, s', g, hev, q⟩ := h
  simp only [evE] at hev
  obtain ⟨⟨x, s1⟩, h1, hev⟩ := Option.bind_eq_some_iff.mp hev
  obtain ⟨⟨y, s2⟩, h2, hev⟩ := Option.bind_eq_some_iff.mp hev
  obtain ⟨⟨z, s3⟩, h3, hev⟩ := Option.bind_eq_some_iff.mp hev
  cases y <;> cases z <;> simp only [Option.map_eq_some_iff, Prod.mk.injEq] at hev <;> try cases hev
  obtain ⟨h4, rfl, rfl⟩ := by rename_i hh; exact hh
  refine (pe_slice (ok_slc hK) ha.pe (po_some hl.pe) (po_some hh.pe)).run pins sh σ H Q I ⟨F, s, x, s1, g, h1, fun vx F1 H1 n1 g1 r1 => ⟨F1, s1, _, s2, g1, h2, fun vy F2 H2 n2 g2 r2 => ?_⟩⟩
  cases r2
  refine ⟨_, rfl, F2, s2, _, _, g2, h3, fun vz F3 H3 n3 g3 r3 => ?_⟩
  cases r3
  refine ⟨_, rfl, F3, x, _, g3.ex, (r1.mono (n2.ex.trans n3.ex)).rp, h4, fun v F4 H4 gr r => ?_⟩
  exact q v F4 H4 (n1.trans (n2.trans (n3.trans (g3.nxtGrow gr) (g3.grow gr)) (g3.grow gr)) (g3.grow gr)) (g3.grow gr) r
theorem e_mx2 (hc : X.calm = true) {a b : Expr} {ma mb : E} {q pos : Pos} (hg : Gl X "max") (hm : X.mg "max" = none) (ha : OkE p X a ma) (hb : OkE p X b mb) : OkE p X (.Call (.Name "max" q) [a, b] [] pos) (.mx2 ma mb) := by
  refine .nv .mk' ⟨fun pins sh σ H Q I h => ?_⟩ (fun i => by intro z; cases z)
  obtain ⟨F, s, d, s', g, hev, k⟩ := h
  simp only [evE] at hev
  obtain ⟨⟨x, s1⟩, h1, hev⟩ := Option.bind_eq_some_iff.mp hev
  obtain ⟨⟨y, s2⟩, h2, hev⟩ := Option.bind_eq_some_iff.mp hev
  cases x <;> cases y <;> simp at hev
  obtain ⟨rfl, rfl⟩ := hev
  refine (pe_callB (call_max2 hc) hg hm (by decide +kernel) (pa_cons ha.pe (pa_cons hb.pe pa_nil (hs := hb.fm.ns _ _)) (hs := ha.fm.ns _ _)) (he := ha.fm.ns _ _) (hpl := by rw [hb.fm.ns]; rfl)).run pins sh σ H Q I ⟨F, s, _, s1, g, h1, fun vx F1 H1 n1 g1 r1 => ⟨F1, s1, _, _, g1, h2, fun vy F2 H2 n2 g2 r2 => ?_⟩⟩
  cases r1
  cases r2
  exact ⟨_, _, rfl, k _ F2 H2 (n1.trans n2 g2) g2 (.int _)⟩
theorem e_mn2 (hc : X.calm = true) {a b : Expr} {ma mb : E} {q pos : Pos} (hg : Gl X "min") (hm : X.mg "min" = none) (ha : OkE p X a ma) (hb : OkE p X b mb) : OkE p X (.Call (.Name "min" q) [a, b] [] pos) (.mn2 ma mb) := by
  refine .nv .mk' ⟨fun pins sh σ H Q I h => ?_⟩ (fun i => by intro z; cases z)
  obtain ⟨F, s, d, s', g, hev, k⟩ := h
  simp only [evE] at hev
  obtain ⟨⟨x, s1⟩, h1, hev⟩ := Option.bind_eq_some_iff.mp hev
  obtain ⟨⟨y, s2⟩, h2, hev⟩ := Option.bind_eq_some_iff.mp hev
  cases x <;> cases y <;> simp at hev
  obtain ⟨rfl, rfl⟩ := hev
  refine (pe_callB (call_min2 hc) hg hm (by decide +kernel) (pa_cons ha.pe (pa_cons hb.pe pa_nil (hs := hb.fm.ns _ _)) (hs := ha.fm.ns _ _)) (he := ha.fm.ns _ _) (hpl := by rw [hb.fm.ns]; rfl)).run pins sh σ H Q I ⟨F, s, _, s1, g, h1, fun vx F1 H1 n1 g1 r1 => ⟨F1, s1, _, _, g1, h2, fun vy F2 H2 n2 g2 r2 => ?_⟩⟩
  cases r1
  cases r2
  exact ⟨_, _, rfl, k _ F2 H2 (n1.trans n2 g2) g2 (.int _)⟩
theorem boot_ty (t : Ty) : bootBuiltins (Str.ofString (tyName t)) = some (.type (tyName t)) := by cases t <;> decide +kernel
theorem e_isi (hK : X.K = p.K) {a : Expr} {m : E} {t : Ty} {x : Str} {q q2 pos : Pos} (hg : Gl X "isinstance") (hm : X.mg "isinstance" = none) (hx : x = Str.ofString (tyName t)) (hg2 : Gl X x) (hm2 : X.mg x = none) (ha : OkE p X a m) : OkE p X (.Call (.Name "isinstance" q) [a, .Name x q2] [] pos) (.isi t m) := by
  refine .nv .mk' ⟨fun pins sh σ H Q I h => ?_⟩ (fun i => by intro z; cases z)
  obtain ⟨F, s, d, s', g, hev, k⟩ := h
  simp only [evE] at hev
  obtain ⟨⟨d0, s1⟩, h1, hev⟩ := Option.bind_eq_some_iff.mp hev
  simp only [Option.map_eq_some_iff, Prod.mk.injEq] at hev
  obtain ⟨b, hb, rfl, rfl⟩ := hev
  have hty : PE X (.Name x q2) (tC (.ty (tyName t))) := pe_bltn hg2 hm2 (by rw [hx]; exact boot_ty t) rfl (hn := by rw [hx]; cases t <;> decide) (hd := by rw [hx]; cases t <;> decide)
  refine (pe_callB call_isi hg hm boot_isinstance (pa_cons ha.pe (pa_cons hty pa_nil) (hs := ha.fm.ns _ _)) (he := ha.fm.ns _ _)).run pins sh σ H Q I ⟨F, s, _, s1, g, h1, fun vx F1 H1 n1 g1 r1 => ?_⟩
  obtain ⟨u, hu, hk⟩ := RP.ty g1.ex r1.rp t hb
  exact ⟨vx, _, u, _, b, rfl, .ty _, by rw [hK]; exact hu, by rw [hK]; exact hk, k _ F1 H1 n1 g1 (.bl _)⟩
end
end Iv

namespace Iv
open PySem L2 PyProof.Rows
open Evl (Ex)
/-! ### the promise of a function -/
def spF (K : PySem.W.Frag) (Φ : Str → List D → DW → Option (D × DW)) (f : Str) : Sp := fun vs H Q _ => ∃ wa F w ds d w', Ex F H ∧ RepW wa H w ∧ (∀ a, InW wa a → F a = none) ∧ RA K wa.s F vs ds ∧ Φ f ds w = some (d, w') ∧
  ∀ v F' H', Ex F F' → Ex F' H' → (∀ a o, H a = some o → ¬ InW wa a → H' a = some o) → (∀ a o, F' a = some o → F a = some o ∨ H a = none) → RepW wa H' w' → (∀ a, InW wa a → F' a = none) → R K wa.s F' v d → Q v H'
structure Callable (p : Pm) (X : Cx) (k : Nat) (x : Str) : Prop where
  ex : ∃ f fd ps, FnOk X.prog X.w X.K X.mg X.base CX0 k f fd ps (spF p.K p.Φ x) ∧ X.mg x = some (Value.ref f) ∧ PySem.W.keepIn X.K (Value.ref f) = true ∧ L2.Binds X.K fd ps []
  room : Room k X.A
section
variable {p : Pm} {X : Cx} {k : Nat} {σ : L2.St} {s s1 : S1} {F F1 H H1 : Hp}
/-- the state behind a call -/
theorem Good.called (g : Good p F H σ s) {F' H' : Hp} {w' : DW} (e1 : Ex F F') (e2 : Ex F' H') (kp : ∀ a o, H a = some o → ¬ InW p.wa a → H' a = some o) (nw : ∀ a o, F' a = some o → F a = some o ∨ H a = none) (rw' : RepW p.wa H' w') (wf : ∀ a, InW p.wa a → F' a = none) :
    Good p F' H' σ { s with w := w' } ∧ Nxt p σ s F H { s with w := w' } F' H' := by
  constructor
  · refine ⟨e2, g.f0.trans e1, fun a o e => ?_, fun a o e w => kp a o (g.keep a o e w) w, g.len, fun i d e => ?_, fun i d e => ?_, g.dis, rw', wf, g.w0⟩
    · rcases nw a o e with z | z
      · exact g.fn a o z
      · exact .inr (g.none0 z)
    · obtain ⟨v, h1, h2⟩ := g.val i d e
      exact ⟨v, h1, h2.mono e1⟩
    · obtain ⟨a, h1, h2, h3, h4⟩ := g.own i d e
      have hw := (g.ownW ⟨i, d, e, h1⟩).2.2
      have hH : ∃ o, H a = some o := by
        cases hh : H a with
        | none => exact absurd ⟨i, d, e, h1⟩ (g.noneO hh)
        | some o => exact ⟨o, rfl⟩
      obtain ⟨o, ho⟩ := hH
      refine ⟨a, h1, ?_, h3, h4.mono e1 (by rw [ho, kp a o ho hw])⟩
      cases hf : F' a with
      | none => rfl
      | some u =>
        rcases nw a u hf with z | z
        · rw [h2] at z; cases z
        · rw [ho] at z; cases z
  · refine ⟨e1, fun a o e _ w => kp a o e w, fun a o e => ?_, fun i d e => ⟨d, e⟩, rfl, fun a e => ?_⟩
    · rcases nw a o e with z | z
      · exact .inl z
      · exact .inr (.inl z)
    · cases hh : H a with
      | none => rfl
      | some o =>
        by_cases w : InW p.wa a
        · obtain ⟨o', ho'⟩ := rw'.at w
          rw [e] at ho'; cases ho'
        · rw [kp a o hh w] at e; cases e
theorem e_call (hK : X.K = p.K) {x : Str} {e : Expr} {es : List Expr} {ms : Es} {q pos : Pos} (hg : Gl X x) (hc : Callable p X k x) (ha : OkA p X (e :: es) ms) (hd : (x == ("__debug__" : Str)) = false)
    (h1 : starEach (e :: es) X.env = (false, eval e X.env) :: starEach es X.env) (h2 : ((backTo pos (starEach es X.env)).any fun x => x.fst) = false) : OkE p X (.Call (.Name x q) (e :: es) [] pos) (.call x ms) := by
  refine .nv .mk' ⟨fun pins sh σ H Q I h => ?_⟩ (fun i => by intro z; cases z)
  obtain ⟨F, s, d, s', g, hev, q⟩ := h
  simp only [evE] at hev
  obtain ⟨⟨ds, s1⟩, e1, hev⟩ := Option.bind_eq_some_iff.mp hev
  simp only [Option.map_eq_some_iff, Prod.mk.injEq] at hev
  obtain ⟨⟨d', w'⟩, e2, rfl, rfl⟩ := hev
  obtain ⟨f, fd, ps, ok, hm, kp, bi⟩ := hc.ex
  refine (pe_call ok hc.room hg hm kp bi .nil pass0 ha hd h1 h2).run pins sh σ H Q I ⟨F, s, ds, s1, g, e1, fun vs F1 H1 n1 g1 r1 => ?_⟩
  refine ⟨p.wa, F1, s1.w, ds, d', w', g1.ex, g1.wrd, g1.wF, by rw [List.append_nil]; exact r1, e2, fun v F' H' x1 x2 x3 x4 x5 x6 x7 => ?_⟩
  obtain ⟨g2, n2⟩ := g1.called x1 x2 x3 x4 x5 x6
  exact q v F' H' (n1.trans n2 g2) g2 x7
theorem e_call0 (hK : X.K = p.K) {x : Str} {q pos : Pos} (hg : Gl X x) (hc : Callable p X k x) (hd : (x == ("__debug__" : Str)) = false) : OkE p X (.Call (.Name x q) [] [] pos) (.call x .nil) := by
  refine .nv .mk' ⟨fun pins sh σ H Q I h => ?_⟩ (fun i => by intro z; cases z)
  obtain ⟨F, s, d, s', g, hev, q⟩ := h
  simp only [evE, evEs] at hev
  simp only [Option.bind_some, Option.map_eq_some_iff, Prod.mk.injEq] at hev
  obtain ⟨⟨d', w'⟩, e2, rfl, rfl⟩ := hev
  obtain ⟨f, fd, ps, ok, hm, kp, bi⟩ := hc.ex
  refine (pe_call0 ok hc.room hg hm kp bi .nil pass0 hd).run pins sh σ H Q I ?_
  refine ⟨p.wa, F, s.w, [], d', w', g.ex, g.wrd, g.wF, .nil, e2, fun v F' H' x1 x2 x3 x4 x5 x6 x7 => ?_⟩
  obtain ⟨g2, n2⟩ := g.called x1 x2 x3 x4 x5 x6
  exact q v F' H' n2 g2 x7
/-! ### built-in functions -/
theorem rG_to {g : D → Option D} {vx : V} {dx d : D} {F H : Hp} {σ : L2.St} {s0 s' : S1} {Q : VK} {F0 H0 : Hp} (g' : Good p F H σ s') (n : Nxt p σ s0 F0 H0 s' F H) (r : RP p F H vx dx) (e : g dx = some d) (q : ∀ v F' H', Nxt p σ s0 F0 H0 s' F' H' → Good p F' H' σ s' → R p.K p.wa.s F' v d → Q v H') : rF p g [vx] H Q :=
  ⟨F, vx, dx, d, rfl, g'.ex, r, e, fun v F2 H2 gr r2 => q v F2 H2 (n.trans (g'.nxtGrow gr) (g'.grow gr)) (g'.grow gr) r2⟩
theorem pa1 {a : Expr} {t : TE} (fm : Frm a) (h : PE X a t) : PA X [a] (tCons t tNil) := pa_cons h pa_nil (hs := fm.ns _ _)
theorem bf_run {a : Expr} {m : E} {b : Bf} {e : Expr} (ha : OkE p X a m) (fm : Frm e) (mk : ∀ t, PA X [a] t → PE X e (tCB (rF p (bf1 b)) t)) : OkE p X e (.bf b m) := by
  refine .nv fm ⟨fun pins sh σ H Q I h => ?_⟩ (fun i => by intro z; cases z)
  obtain ⟨F, s, d, s', g, hev, q⟩ := h
  simp only [evE] at hev
  obtain ⟨⟨x, s1⟩, h1, h2⟩ := Option.bind_eq_some_iff.mp hev
  simp only [Option.map_eq_some_iff, Prod.mk.injEq] at h2
  obtain ⟨d', h2, rfl, rfl⟩ := h2
  exact (mk _ (pa1 ha.fm ha.pk)).run pins sh σ H Q I ⟨F, s, x, _, g, h1, fun v F1 H1 n1 g1 r1 => rG_to g1 n1 r1 h2 q⟩
/-- .. whose value stands apart -/
theorem bf_runL {a : Expr} {m : E} {b : Bf} {e : Expr} (ha : OkE p X a m) (mk : ∀ t, PA X [a] t → PE X e (tCB (rFL p (bf1 b)) t)) : PE X e (tL p (.bf b m)) := by
  refine ⟨fun pins sh σ H Q I h => ?_⟩
  obtain ⟨F, s, d, s', g, hev, q⟩ := h
  simp only [evE] at hev
  obtain ⟨⟨x, s1⟩, h1, h2⟩ := Option.bind_eq_some_iff.mp hev
  simp only [Option.map_eq_some_iff, Prod.mk.injEq] at h2
  obtain ⟨d', h2, rfl, rfl⟩ := h2
  refine (mk _ (pa1 ha.fm ha.pk)).run pins sh σ H Q I ⟨F, s, x, _, g, h1, fun v F1 H1 n1 g1 r1 => ?_⟩
  refine ⟨F1, v, x, d', rfl, g1.ex, r1, h2, fun a o h0 ho => q a F1 _ ⟨n1.ex, fun b u z x y => ?_, n1.new, n1.own, n1.len, fun b z => n1.dom b (upd_none z)⟩ (g1.loose h0) (n1.dom a h0) (g1.noneF h0) ho.ro⟩
  have := n1.keep b u z x y
  rw [upd_ne (ne_of_none this h0)]; exact this
end
end Iv

namespace Iv
open PySem L2 PyProof.Rows
open Evl (Ex)
/-! ### slots wiped, put back -/
theorem wipe_get (σ : L2.St) (i : Nat) : ∀ vs : List Nat, (wipe σ vs)[i]? = if i ∈ vs then σ[i]?.map (fun _ => none) else σ[i]?
  | [] => by simp [wipe]
  | v :: vs => by
    unfold wipe
    rw [List.getElem?_set, wipe_get σ i vs, wipe_length]
    by_cases h : v = i
    · subst h
      simp only [if_true, List.mem_cons, true_or]
      by_cases hl : v < σ.length
      · simp [hl]
      · simp [hl]
    · have h' : ¬ i = v := fun z => h z.symm
      simp [h, h']
theorem wipeR_len (r : List Ent) : ∀ vs : List Nat, (wipeR r vs).length = r.length
  | [] => rfl
  | v :: vs => by simp [wipeR, wipeR_len r vs]
theorem wipeR_get (r : List Ent) (i : Nat) : ∀ vs : List Nat, (wipeR r vs)[i]? = if i ∈ vs then r[i]?.map (fun _ => .no) else r[i]?
  | [] => by simp [wipeR]
  | v :: vs => by
    unfold wipeR
    rw [List.getElem?_set, wipeR_get r i vs, wipeR_len]
    by_cases h : v = i
    · subst h
      simp only [if_true, List.mem_cons, true_or]
      by_cases hl : v < r.length
      · simp [hl]
      · simp [hl]
    · have h' : ¬ i = v := fun z => h z.symm
      simp [h, h']
theorem backR_len (o r : List Ent) : ∀ vs : List Nat, (backR o r vs).length = r.length
  | [] => rfl
  | v :: vs => by simp [backR, backR_len o r vs]
theorem backR_get (o r : List Ent) (i : Nat) : ∀ vs : List Nat, (backR o r vs)[i]? = if i ∈ vs then r[i]?.map (fun _ => o.getD i .no) else r[i]?
  | [] => by simp [backR]
  | v :: vs => by
    unfold backR
    rw [List.getElem?_set, backR_get o r i vs, backR_len]
    by_cases h : v = i
    · subst h
      simp only [if_true, List.mem_cons, true_or]
      by_cases hl : v < r.length
      · simp [hl]
      · simp [hl]
    · have h' : ¬ i = v := fun z => h z.symm
      simp [h, h']
def S1.wp (s : S1) (vs : List Nat) : S1 := { s with r := wipeR s.r vs }
section
variable {p : Pm} {X : Cx} {k : Nat} {σ σ1 σb : L2.St} {s s1 s2 sb : S1} {F F1 F2 Fb H H1 H2 Hb : Hp} {vs : List Nat}
theorem wp_own {i : Nat} {d : D} (h : (s.wp vs).r[i]? = some (.own d)) : i ∉ vs ∧ s.r[i]? = some (.own d) := by
  simp only [S1.wp] at h
  rw [wipeR_get] at h
  split at h
  · cases e : s.r[i]? <;> simp [e] at h
  · rename_i hn; exact ⟨hn, h⟩
theorem wp_val {i : Nat} {d : D} (h : (s.wp vs).r[i]? = some (.val d)) : i ∉ vs ∧ s.r[i]? = some (.val d) := by
  simp only [S1.wp] at h
  rw [wipeR_get] at h
  split at h
  · cases e : s.r[i]? <;> simp [e] at h
  · rename_i hn; exact ⟨hn, h⟩
theorem wp_owned {a : Addr} (h : Owned (wipe σ vs) (s.wp vs) a) : Owned σ s a := by
  obtain ⟨i, d, h1, h2⟩ := h
  obtain ⟨h3, h4⟩ := wp_own h1
  rw [wipe_get, if_neg h3] at h2
  exact ⟨i, d, h4, h2⟩
theorem Good.wipeG (g : Good p F H σ s) (vs : List Nat) : Good p F H (wipe σ vs) (s.wp vs) := by
  refine ⟨g.ex, g.f0, g.fn, g.keep, by rw [wipe_length, g.len]; simp [S1.wp, wipeR_len], fun i d e => ?_, fun i d e => ?_, fun i j d e a e1 e2 e3 e4 => ?_, g.wrd, g.wF, g.w0⟩
  · obtain ⟨h3, h4⟩ := wp_val e
    rw [wipe_get, if_neg h3]; exact g.val i d h4
  · obtain ⟨h3, h4⟩ := wp_own e
    rw [wipe_get, if_neg h3]; exact g.own i d h4
  · obtain ⟨h3, h4⟩ := wp_own e1
    obtain ⟨h5, h6⟩ := wp_own e2
    rw [wipe_get, if_neg h3] at e3
    rw [wipe_get, if_neg h5] at e4
    exact g.dis i j d e a h4 h6 e3 e4
theorem Nxt.trans' (a : Nxt p σ s F H s1 F1 H1) (ho : ∀ x, Owned σ1 s1 x → Owned σ s x) (b : Nxt p σ1 s1 F1 H1 s2 F2 H2) (wF : ∀ a, InW p.wa a → F2 a = none) : Nxt p σ s F H s2 F2 H2 where
  ex := a.ex.trans b.ex
  keep := fun x o h n w => b.keep x o (a.keep x o h n w) (fun z => n (ho x z)) w
  new := fun x o h => by
    rcases b.new x o h with z | z | z
    · exact a.new x o z
    · cases e : H x with
      | none => exact .inr (.inl rfl)
      | some u =>
        by_cases n : Owned σ s x
        · exact .inr (.inr n)
        · by_cases w : InW p.wa x
          · rw [wF x w] at h; cases h
          · rw [a.keep x u e n w] at z; cases z
    · exact .inr (.inr (ho x z))
  own := fun i d h => by
    obtain ⟨d1, h1⟩ := b.own i d h
    exact a.own i d1 h1
  len := b.len.trans a.len
  dom := fun x h => a.dom x (b.dom x h)
/-- an object apart is changed -/
theorem Good.touch (g : Good p F H σ s) {a : Addr} {o o' : HO} (h : H a = some o') (hF : F a = none) (h0 : p.H0 a = none) (hO : ¬ Owned σ s a) : Good p F (upd H a o) σ s where
  ex := fun b u e => by
    have hb : b ≠ a := fun z => by rw [z, hF] at e; cases e
    rw [upd_ne hb]; exact g.ex b u e
  f0 := g.f0
  fn := g.fn
  keep := fun b u e w => by
    have hb : b ≠ a := fun z => by rw [z, h0] at e; cases e
    rw [upd_ne hb]; exact g.keep b u e w
  len := g.len
  val := g.val
  own := fun i d e => by
    obtain ⟨b, h1, h2, h3, h4⟩ := g.own i d e
    have hb : b ≠ a := fun z => hO ⟨i, d, e, by rw [← z]; exact h1⟩
    exact ⟨b, h1, h2, h3, h4.mono (fun _ _ z => z) (upd_ne hb)⟩
  dis := g.dis
  wrd := g.wrd.ext fun b w => upd_ne fun z => by rw [z] at w; exact g.w0 a w h0
  wF := g.wF
  w0 := g.w0
/-- .. which was not there at the base -/
theorem Nxt.touch (n : Nxt p σb sb Fb Hb s F H) {a : Addr} {o : HO} (hD : Hb a = none) : Nxt p σb sb Fb Hb s F (upd H a o) :=
  ⟨n.ex, fun b u e x y => by rw [upd_ne (ne_of_none e hD)]; exact n.keep b u e x y, n.new, n.own, n.len, fun b e => n.dom b (upd_none e)⟩
theorem noOwn_get {r : List Ent} (h : noOwn r vs = true) {i : Nat} (hi : i ∈ vs) : ∃ e, r[i]? = some e ∧ ∀ d, e ≠ .own d := by
  have := List.all_eq_true.mp h i hi
  cases e : r[i]? with
  | none => rw [e] at this; cases this
  | some en =>
    refine ⟨en, rfl, fun d z => ?_⟩
    rw [e, z] at this; cases this
/-- behind the turns -/
theorem Good.back (g1 : Good p F1 H1 σ s1) (hn : noOwn s1.r vs = true) (g : Good p F H (wipe σ vs) (s.wp vs)) (e : Ex F1 F) : Good p F H σ { s with r := backR s1.r s.r vs } := by
  have hlen : s.r.length = s1.r.length := by
    have := g.len
    rw [wipe_length] at this
    simp only [S1.wp, wipeR_len] at this
    rw [← this, g1.len]
  have gt : ∀ i, i ∉ vs → (backR s1.r s.r vs)[i]? = (s.wp vs).r[i]? := fun i hi => by
    simp only [S1.wp]
    rw [backR_get, if_neg hi, wipeR_get, if_neg hi]
  have gi : ∀ i, i ∈ vs → (backR s1.r s.r vs)[i]? = s1.r[i]? := fun i hi => by
    obtain ⟨en, h1, h2⟩ := noOwn_get hn hi
    have hl := (List.getElem?_eq_some_iff.mp h1).1
    rw [backR_get, if_pos hi, List.getElem?_eq_getElem (by omega), h1]
    simp [List.getD, h1]
  refine ⟨g.ex, g.f0, g.fn, g.keep, by show σ.length = (backR s1.r s.r vs).length; rw [backR_len, hlen, g1.len], fun i d q => ?_, fun i d q => ?_, fun i j d d' a q1 q2 q3 q4 => ?_, g.wrd, g.wF, g.w0⟩
  · by_cases hi : i ∈ vs
    · have q : s1.r[i]? = some (.val d) := by rw [← gi i hi]; exact q
      obtain ⟨v, h1, h2⟩ := g1.val i d q
      exact ⟨v, h1, h2.mono e⟩
    · have q : (s.wp vs).r[i]? = some (.val d) := by rw [← gt i hi]; exact q
      obtain ⟨v, h1, h2⟩ := g.val i d q
      rw [wipe_get, if_neg hi] at h1
      exact ⟨v, h1, h2⟩
  · by_cases hi : i ∈ vs
    · have q : s1.r[i]? = some (.own d) := by rw [← gi i hi]; exact q
      obtain ⟨en, h1, h2⟩ := noOwn_get hn hi
      rw [h1] at q; cases q
      exact absurd rfl (h2 d)
    · have q : (s.wp vs).r[i]? = some (.own d) := by rw [← gt i hi]; exact q
      obtain ⟨v, h1, h2⟩ := g.own i d q
      rw [wipe_get, if_neg hi] at h1
      exact ⟨v, h1, h2⟩
  · have hi : i ∉ vs := fun hi => by
      have q : s1.r[i]? = some (.own d) := by rw [← gi i hi]; exact q1
      obtain ⟨en, h1, h2⟩ := noOwn_get hn hi
      rw [h1] at q; cases q
      exact absurd rfl (h2 d)
    have hj : j ∉ vs := fun hi => by
      have q : s1.r[j]? = some (.own d') := by rw [← gi j hi]; exact q2
      obtain ⟨en, h1, h2⟩ := noOwn_get hn hi
      rw [h1] at q; cases q
      exact absurd rfl (h2 d')
    refine g.dis i j d d' a ?_ ?_ ?_ ?_
    · rw [← gt i hi]; exact q1
    · rw [← gt j hj]; exact q2
    · rw [wipe_get, if_neg hi]; exact q3
    · rw [wipe_get, if_neg hj]; exact q4
theorem Nxt.back (hn : noOwn s1.r vs = true) (n : Nxt p (L2.wipe σ vs) (s1.wp vs) F1 H1 (s.wp vs) F H) : Nxt p σ s1 F1 H1 { s with r := backR s1.r s.r vs } F H where
  ex := n.ex
  keep := fun a o h x y => n.keep a o h (fun z => x (wp_owned z)) y
  new := fun a o h => by
    rcases n.new a o h with z | z | z
    · exact .inl z
    · exact .inr (.inl z)
    · exact .inr (.inr (wp_owned z))
  own := fun i d q => by
    have hlen : s.r.length = s1.r.length := by
      have := n.len
      simp only [S1.wp, wipeR_len] at this
      exact this
    have q : (backR s1.r s.r vs)[i]? = some (.own d) := q
    rw [backR_get] at q
    split at q
    · rename_i hi
      obtain ⟨en, h1, h2⟩ := noOwn_get hn hi
      have hl := (List.getElem?_eq_some_iff.mp h1).1
      rw [List.getElem?_eq_getElem (by omega)] at q
      simp [List.getD, h1] at q
      exact absurd q (h2 d)
    · rename_i hi
      obtain ⟨d', h'⟩ := n.own i d (by simp only [S1.wp]; rw [wipeR_get, if_neg hi]; exact q)
      exact ⟨d', (wp_own h').2⟩
  len := by
    have := n.len
    simp only [S1.wp, wipeR_len] at this
    show (backR s1.r s.r vs).length = _
    rw [backR_len]; exact this
  dom := n.dom

/-! ### targets -/
mutual
def tgIn (vs : List Nat) : Tg → Bool
  | .nm i => vs.contains i
  | .tp ts => tgsIn vs ts
def tgsIn (vs : List Nat) : List Tg → Bool
  | [] => true
  | t :: ts => tgIn vs t && tgsIn vs ts
end
/-- the slots that a target sets -/
def Chg (ok : Nat → Prop) (r r1 : List Ent) (σ σ2 : L2.St) : Prop := r1.length = r.length ∧ ∀ i : Nat, (r1[i]? = r[i]? ∧ σ2[i]? = σ[i]?) ∨ (ok i ∧ ∃ d, r1[i]? = some (.val d))
/-- what a target's reading does -/
structure TgOk (p : Pm) (t : Tg) (g : TG) : Prop where
  run : ∀ (σ : L2.St) (F H : Hp) (s : S1) (v : V) (x : D) (r1 : List Ent) (Q : L2.St → Hp → Prop), Good p F H σ s → R p.K p.wa.s F v x → setT t x s.r = some r1 →
    (∀ σ2, Good p F H σ2 { s with r := r1 } → Chg (fun i => ∀ vs, tgIn vs t = true → i ∈ vs) s.r r1 σ σ2 → Q σ2 H) → g v σ H Q
structure TgsOk (p : Pm) (t : List Tg) (g : TGs) : Prop where
  run : ∀ (σ : L2.St) (F H : Hp) (s : S1) (v : List V) (x : List D) (r1 : List Ent) (Q : L2.St → Hp → Prop), Good p F H σ s → RA p.K p.wa.s F v x → setTs t x s.r = some r1 →
    (∀ σ2, Good p F H σ2 { s with r := r1 } → Chg (fun i => ∀ vs, tgsIn vs t = true → i ∈ vs) s.r r1 σ σ2 → Q σ2 H) → g v σ H Q
theorem Chg.wipe {ok : Nat → Prop} {r r1 : List Ent} {σ σ2 : L2.St} (c : Chg ok r r1 σ σ2) (h1 : σ.length = r.length) (h2 : σ2.length = r1.length) (hv : ∀ i, ok i → i ∈ vs) : L2.wipe σ2 vs = L2.wipe σ vs := by
  apply List.ext_getElem?
  intro i
  rw [wipe_get, wipe_get]
  by_cases hi : i ∈ vs
  · rw [if_pos hi, if_pos hi]
    have hl : σ2.length = σ.length := by rw [h1, h2, c.1]
    by_cases hb : i < σ.length
    · rw [List.getElem?_eq_getElem hb, List.getElem?_eq_getElem (by omega)]; rfl
    · rw [List.getElem?_eq_none (by omega), List.getElem?_eq_none (by omega)]
  · rw [if_neg hi, if_neg hi]
    rcases c.2 i with z | z
    · exact z.2
    · exact absurd (hv i z.1) hi
/-- a slot is set to a known value -/
theorem Good.setV (g : Good p F H σ s) {i : Nat} {v : V} {d : D} (hi : i < s.r.length) (r : R p.K p.wa.s F v d) : Good p F H (σ.set i (some v)) { s with r := s.r.set i (.val d) } := by
  have gr : ∀ j, (s.r.set i (.val d))[j]? = if i = j then some (.val d) else s.r[j]? := fun j => by
    rw [List.getElem?_set]
    by_cases h : i = j
    · subst h; simp [hi]
    · simp [h]
  have gs : ∀ j, (σ.set i (some v))[j]? = if i = j then some (some v) else σ[j]? := fun j => by
    rw [List.getElem?_set]
    by_cases h : i = j
    · subst h; simp [g.len, hi]
    · simp [h]
  refine ⟨g.ex, g.f0, g.fn, g.keep, by simp [g.len], fun j e q => ?_, fun j e q => ?_, fun j l e e' a q1 q2 q3 q4 => ?_, g.wrd, g.wF, g.w0⟩
  · simp only [gr] at q
    rw [gs]
    by_cases h : i = j
    · rw [if_pos h] at q ⊢; cases q; exact ⟨v, rfl, r⟩
    · rw [if_neg h] at q ⊢; exact g.val j e q
  · simp only [gr] at q
    rw [gs]
    by_cases h : i = j
    · rw [if_pos h] at q; cases q
    · rw [if_neg h] at q ⊢; exact g.own j e q
  · simp only [gr] at q1 q2
    rw [gs] at q3 q4
    by_cases h : i = j
    · rw [if_pos h] at q1; cases q1
    · by_cases h' : i = l
      · rw [if_pos h'] at q2; cases q2
      · rw [if_neg h] at q1 q3; rw [if_neg h'] at q2 q4
        exact g.dis j l e e' a q1 q2 q3 q4
theorem chg_refl {ok : Nat → Prop} {r : List Ent} {σ : L2.St} : Chg ok r r σ σ := ⟨rfl, fun i => .inl ⟨rfl, rfl⟩⟩
theorem tg_nm {i : Nat} : TgOk p (.nm i) (gName i) := by
  refine ⟨fun σ F H s v x r1 Q g r e q => ?_⟩
  simp only [setT] at e
  split at e <;> cases e
  rename_i hi
  refine q _ (g.setV hi r) ⟨by simp, fun j => ?_⟩
  by_cases h : i = j
  · subst h
    exact .inr ⟨fun vs h => by simpa [tgIn] using h, x, by simp [hi]⟩
  · exact .inl ⟨by simp [h], by simp [h]⟩
theorem tgs_nil : TgsOk p [] gNil := by
  refine ⟨fun σ F H s v x r1 Q g r e q => ?_⟩
  cases x <;> simp [setTs] at e
  subst e
  cases r
  exact ⟨rfl, q σ g chg_refl⟩
theorem tgs_cons {t : Tg} {ts : List Tg} {a : TG} {b : TGs} (h1 : TgOk p t a) (h2 : TgsOk p ts b) : TgsOk p (t :: ts) (gCons a b) := by
  refine ⟨fun σ F H s v x r1 Q g r e q => ?_⟩
  cases x with
  | nil => simp [setTs] at e
  | cons d ds =>
    simp only [setTs] at e
    split at e
    case h_2 => cases e
    rename_i r' er
    cases r with
    | cons rd rds =>
      refine ⟨_, _, rfl, h1.run σ F H s _ d r' _ g rd er fun σ2 g2 c2 => h2.run σ2 F H _ _ ds r1 _ g2 rds e fun σ3 g3 c3 => q σ3 g3 ⟨c3.1.trans c2.1, fun i => ?_⟩⟩
      rcases c3.2 i with z | ⟨z1, z2⟩
      · rcases c2.2 i with y | ⟨y1, y2⟩
        · exact .inl ⟨z.1.trans y.1, z.2.trans y.2⟩
        · refine .inr ⟨fun vs h => y1 vs ?_, ?_⟩
          · simp only [tgsIn, Bool.and_eq_true] at h; exact h.1
          · obtain ⟨d', hd⟩ := y2; exact ⟨d', z.1.trans hd⟩
      · refine .inr ⟨fun vs h => z1 vs ?_, z2⟩
        simp only [tgsIn, Bool.and_eq_true] at h; exact h.2
theorem setTs_len : ∀ {ts : List Tg} {ds : List D} {r r1 : List Ent}, setTs ts ds r = some r1 → ts.length = ds.length
  | [], [], _, _, _ => rfl
  | t :: ts, d :: ds, r, r1, h => by
    simp only [setTs] at h
    split at h
    · simp only [List.length_cons, setTs_len h]
    · cases h
  | [], _ :: _, _, _, h => by simp [setTs] at h
  | _ :: _, [], _, _, h => by simp [setTs] at h
theorem tg_tp {K : PySem.W.Frag} {ts : List Tg} {n : Nat} {a : TGs} (hK : K = p.K) (hn : n = ts.length) (h : TgsOk p ts a) : TgOk p (.tp ts) (gTup K n a) := by
  refine ⟨fun σ F H s v x r1 Q g r e q => ?_⟩
  cases x <;> simp only [setT] at e <;> try cases e
  cases r with
  | tup h1 h2 =>
    refine ⟨_, _, rfl, by rw [hK]; exact Evl.ex_t g.ex h1, by rw [hn, setTs_len e, h2.length], h.run σ F H s _ _ r1 _ g h2 e fun σ2 g2 c2 => q σ2 g2 ⟨c2.1, fun i => ?_⟩⟩
    rcases c2.2 i with z | ⟨z1, z2⟩
    · exact .inl z
    · exact .inr ⟨fun vs h => z1 vs (by simpa [tgIn] using h), z2⟩
end
end Iv

namespace Iv
open PySem L2 PyProof.Rows
open Evl (Ex)
section
variable {p : Pm} {X : Cx} {k : Nat} {σ σ1 σ2 σb : L2.St} {s s1 s2 sb : S1} {F F1 F2 Fb H H1 H2 Hb : Hp} {vs : List Nat}
/-- .. of heaps that keep what C says -/
structure YlB (p : Pm) (C : Hp → Prop) (F : Hp) (J : L2.It) (xs : List PySem.PyData) : Prop where
  go : ∀ i H, Ex F H → C H → i < xs.length → J.go i H
  stop : ∀ i H, Ex F H → C H → i = xs.length → J.stop i H
  yld : ∀ i H v H' d, Ex F H → C H → J.yld i H v H' → xs[i]? = some d → (H' = H ∧ R p.K p.wa.s F v d) ∨ ∃ T o, H T = none ∧ H' = upd H T o ∧ R p.K p.wa.s (upd F T o) v d
theorem Yl.b {J : L2.It} {xs : List PySem.PyData} {C : Hp → Prop} (y : Yl p F J xs) : YlB p C F J xs := ⟨fun i H e _ => y.go i H e, fun i H e _ => y.stop i H e, fun i H v H' d e _ => y.yld i H v H' d e⟩
theorem ext_yld {J : L2.It} {xs : List D} {C : Hp → Prop} (y : YlB p C F1 J xs) (g : Good p F H σ s) (e : Ex F1 F) (cH : C H) {i : Nat} {v : V} {H' : Hp} {d : D} (h : J.yld i H v H') (hd : xs[i]? = some d) :
    ∃ F', Good p F' H' σ s ∧ Nxt p σ s F H s F' H' ∧ R p.K p.wa.s F' v d := by
  rcases y.yld i H v H' d (e.trans g.ex) cH h hd with ⟨rfl, r⟩ | ⟨T, o, hT, rfl, r⟩
  · exact ⟨F, g, .refl, r.mono e⟩
  · have e2 : Ex (upd F1 T o) (upd F T o) := fun a u q => by
      by_cases ha : a = T
      · subst ha; rw [upd_same] at q ⊢; exact q
      · rw [upd_ne ha] at q ⊢; exact e a u q
    exact ⟨_, g.new hT, g.nxtNew hT, r.mono e2⟩
/-- from the state within a turn back to the wiped one -/
theorem Nxt.turn (c : Chg ok (s.wp vs).r s1.r (wipe σ vs) σ2) (hv : ∀ i, ok i → i ∈ vs) (n : Nxt p σ2 s1 F H s2 F2 H2) : Nxt p (wipe σ vs) (s.wp vs) F H (s2.wp vs) F2 H2 := by
  have ow : ∀ a, Owned σ2 s1 a → Owned (wipe σ vs) (s.wp vs) a := fun a ⟨i, d, h1, h2⟩ => by
    rcases c.2 i with z | ⟨_, d', z⟩
    · exact ⟨i, d, by rw [← z.1]; exact h1, by rw [← z.2]; exact h2⟩
    · rw [z] at h1; cases h1
  refine ⟨n.ex, fun a o h x y => n.keep a o h (fun z => x (ow a z)) y, fun a o h => ?_, fun i d h => ?_, ?_, n.dom⟩
  · rcases n.new a o h with z | z | z
    · exact .inl z
    · exact .inr (.inl z)
    · exact .inr (.inr (ow a z))
  · obtain ⟨h3, h4⟩ := wp_own h
    obtain ⟨d', h5⟩ := n.own i d h4
    rcases c.2 i with z | ⟨z, _⟩
    · exact ⟨d', by rw [← z.1]; exact h5⟩
    · exact absurd (hv i z) h3
  · show (wipeR s2.r vs).length = _
    rw [wipeR_len, n.len, c.1]
theorem wipe_ow (c : Chg ok (s.wp vs).r s1.r (wipe σ vs) σ2) {a : Addr} (h : Owned σ2 s1 a) : Owned (wipe σ vs) (s.wp vs) a := by
  obtain ⟨i, d, h1, h2⟩ := h
  rcases c.2 i with z | ⟨_, d', z⟩
  · exact ⟨i, d, by rw [← z.1]; exact h1, by rw [← z.2]; exact h2⟩
  · rw [z] at h1; cases h1
/-- what a loop that fills the list at D goes by -/
structure Lc (p : Pm) (σb : L2.St) (sb : S1) (Fb Hb : Hp) (F1 : Hp) (D : Addr) (σ : L2.St) (s : S1) (F H : Hp) (acc : List V) (ad : List PySem.PyData) : Prop where
  g : Good p F H σ s
  n : Nxt p σb sb Fb Hb s F H
  o : ∀ x, Owned σ s x → Owned σb sb x
  e : Ex F1 F
  hD : H D = some (.lst acc)
  hF : F D = none
  h0 : p.H0 D = none
  no : ¬ Owned σ s D
  r : RA p.K p.wa.s F acc ad
theorem lc_turns {g : TG} {t : Tg} {c e : E} {J : L2.It} {xs ds : List PySem.PyData} {D : Addr} {acc0 : List V} {ad0 : List PySem.PyData} {F0 : Hp} (y : YlB p (fun H => ∀ a o, Hb a = some o → ¬ Owned σb sb a → ¬ InW p.wa a → H a = some o) F0 J xs) (hgo : lcGo vs t (evE p.Φ c) (evE p.Φ e) xs s1 = some (ds, s2)) (hb : Hb D = none)
    (L : Lc p σb sb Fb Hb F0 D (wipe σ vs) (s1.wp vs) F1 H1 acc0 ad0) (hlen : ad0.length + ds.length ≤ line) (hg : TgOk p t g) (ht : tgIn vs t = true)
    (Fin : Hp → Prop) (hfin : ∀ F H acc, Lc p σb sb Fb Hb F0 D (wipe σ vs) (s2.wp vs) F H acc (ad0 ++ ds) → Fin H) :
    ∃ W : Nat → Nat → Hp → Prop, (∃ m, W 0 m H1) ∧ ∀ i m H, W i m H → (J.stop i H ∧ Fin H) ∨ (J.go i H ∧ ∃ Nx : Hp → Prop, (∀ H', Nx H' → ∃ m', m' < m ∧ W (i + 1) m' H') ∧
      ∀ x H', J.yld i H x H' → g x (wipe σ vs) H' fun σ2 H2 => wipe σ2 vs = wipe σ vs ∧ tB1 p c σ2 H2 fun b H3 => if b = true then tE p e σ2 H3 fun y H4 => ∃ acc, H4 D = some (.lst acc) ∧ acc.length < sizeLine ∧ Nx (upd H4 D (.lst (acc ++ [y]))) else Nx H3) := by
  refine ⟨fun i m H => m = xs.length - i ∧ i ≤ xs.length ∧ ∃ F s acc ad dr, Lc p σb sb Fb Hb F0 D (wipe σ vs) (s.wp vs) F H acc ad ∧ lcGo vs t (evE p.Φ c) (evE p.Φ e) (xs.drop i) s = some (dr, s2) ∧ ad0 ++ ds = ad ++ dr, ⟨_, rfl, Nat.zero_le _, F1, s1, acc0, ad0, ds, L, by simpa using hgo, rfl⟩, ?_⟩
  rintro i m H ⟨hm, hi, F, s, acc, ad, dr, L, hgo, hds⟩
  by_cases hie : i = xs.length
  · refine .inl ⟨y.stop i H (L.e.trans L.g.ex) L.n.keep hie, ?_⟩
    subst hie
    simp only [List.drop_length, lcGo, Option.some.injEq, Prod.mk.injEq] at hgo
    obtain ⟨rfl, rfl⟩ := hgo
    rw [List.append_nil] at hds
    exact hfin F H acc (by rw [hds]; exact L)
  have hlt : i < xs.length := by omega
  refine .inr ⟨y.go i H (L.e.trans L.g.ex) L.n.keep hlt, fun H' => ∃ F s acc ad dr, Lc p σb sb Fb Hb F0 D (wipe σ vs) (s.wp vs) F H' acc ad ∧ lcGo vs t (evE p.Φ c) (evE p.Φ e) (xs.drop (i + 1)) s = some (dr, s2) ∧ ad0 ++ ds = ad ++ dr, fun H' h => ⟨xs.length - (i + 1), by omega, rfl, by omega, h⟩, fun x H' hy => ?_⟩
  have hx : xs[i]? = some xs[i] := List.getElem?_eq_getElem hlt
  rw [List.drop_eq_getElem_cons hlt] at hgo
  simp only [lcGo] at hgo
  split at hgo
  · cases hgo
  rename_i r1 hr1
  obtain ⟨F', g', n', r'⟩ := ext_yld y L.g L.e L.n.keep hy hx
  refine hg.run _ F' H' (s.wp vs) x _ r1 _ g' r' hr1 fun σ2 g2 c2 => ?_
  have hv : ∀ i, (∀ vs, tgIn vs t = true → i ∈ vs) → i ∈ vs := fun i h => h vs ht
  have hw : L2.wipe σ2 vs = L2.wipe σ vs := by
    have := c2.wipe (vs := vs) g'.len g2.len hv
    rw [this]
    apply List.ext_getElem?
    intro j
    rw [wipe_get, wipe_get]
    by_cases hj : j ∈ vs
    · rw [if_pos hj, if_pos hj]; cases σ[j]? <;> rfl
    · rw [if_neg hj]
  refine ⟨hw, ?_⟩
  have hDn : ∀ {u}, H D = some u → H' D = some u := fun h => n'.keep D _ h L.no (fun w => L.g.w0 D w L.h0)
  have oD : ∀ {σ' s'}, (∀ x, Owned σ' s' x → Owned (wipe σ vs) (s.wp vs) x) → ¬ Owned σ' s' D := fun h z => L.no (h D z)
  simp only [asB] at hgo
  split at hgo
  case h_3 => cases hgo
  · -- the test says yes
    rename_i s3 hc
    split at hc <;> cases hc
    rename_i hc
    refine ⟨F', _, true, s3, g2, hc, fun F3 H3 n3 g3 => ?_⟩
    simp only [↓reduceIte]
    split at hgo
    case h_2 => cases hgo
    rename_i d s4 he
    split at hgo <;> cases hgo
    rename_i ds' hrest
    refine ⟨F3, s3, d, s4, g3, he, fun v F4 H4 n4 g4 r4 => ?_⟩
    have n34 := n3.trans n4 g4
    have nt := Nxt.turn c2 hv n34
    have nn := n'.trans nt (s2 := s4.wp vs) (F2 := F4) (H2 := H4) (by rw [← hw]; exact g4.wipeG vs)
    have ow4 : ∀ x, Owned σ2 s4 x → Owned (L2.wipe σ vs) (s.wp vs) x := fun x h => wipe_ow c2 (n34.ownd h)
    have hD4 : H4 D = some (.lst acc) := n34.keep D _ (hDn L.hD) (fun z => L.no (wipe_ow c2 z)) (fun w => L.g.w0 D w L.h0)
    have hF4 : F4 D = none := by
      cases hf : F4 D with
      | none => rfl
      | some u =>
        rcases nn.new D u hf with z | z | z
        · rw [L.hF] at z; cases z
        · rw [L.hD] at z; cases z
        · exact absurd z L.no
    refine ⟨acc, hD4, ?_, F4, s4, acc ++ [v], ad ++ [d], ds', ?_, hrest, by rw [hds]; simp⟩
    · rw [L.r.length]
      have := congrArg List.length hds
      simp only [List.length_append, List.length_cons] at this
      show _ < sizeLine
      rw [sizeLine_eq]
      have hl : line = 16777216 := rfl
      omega
    · have gw : Good p F4 H4 (L2.wipe σ vs) (s4.wp vs) := by rw [← hw]; exact g4.wipeG vs
      have now : ¬ Owned (L2.wipe σ vs) (s4.wp vs) D := fun z => L.no (nn.ownd z)
      refine ⟨gw.touch hD4 hF4 L.h0 now, ?_, fun x h => L.o x (nn.ownd h), L.e.trans nn.ex, upd_same, hF4, L.h0, now, (L.r.mono nn.ex).app (.cons r4 .nil)⟩
      refine Nxt.touch ?_ hb
      exact L.n.trans' L.o nn gw.wF
  · -- .. no
    rename_i s3 hc
    split at hc <;> cases hc
    rename_i hc
    refine ⟨F', _, false, s3, g2, hc, fun F3 H3 n3 g3 => ?_⟩
    simp only [Bool.false_eq_true, ↓reduceIte]
    have nt := Nxt.turn c2 hv n3
    have gw : Good p F3 H3 (L2.wipe σ vs) (s3.wp vs) := by rw [← hw]; exact g3.wipeG vs
    have nn := n'.trans nt gw
    have hD3 : H3 D = some (.lst acc) := n3.keep D _ (hDn L.hD) (fun z => L.no (wipe_ow c2 z)) (fun w => L.g.w0 D w L.h0)
    have hF3 : F3 D = none := by
      cases hf : F3 D with
      | none => rfl
      | some u =>
        rcases nn.new D u hf with z | z | z
        · rw [L.hF] at z; cases z
        · rw [L.hD] at z; cases z
        · exact absurd z L.no
    exact ⟨F3, s3, acc, ad, dr, ⟨gw, L.n.trans' L.o nn gw.wF, fun x h => L.o x (nn.ownd h), L.e.trans nn.ex, hD3, hF3, L.h0, fun z => L.no (nn.ownd z), L.r.mono nn.ex⟩, hgo, hds⟩
end
end Iv

namespace Iv
open PySem L2 PyProof.Rows
open Evl (Ex)
mutual
def gT (K : PySem.W.Frag) : Tg → TG
  | .nm i => gName i
  | .tp ts => gTup K ts.length (gTs K ts)
def gTs (K : PySem.W.Frag) : List Tg → TGs
  | [] => gNil
  | t :: ts => gCons (gT K t) (gTs K ts)
end
section
variable {p : Pm} {X : Cx} {k : Nat}
mutual
theorem gT_ok : ∀ t : Tg, TgOk p t (gT p.K t)
  | .nm i => tg_nm
  | .tp ts => tg_tp rfl rfl (gTs_ok ts)
theorem gTs_ok : ∀ t : List Tg, TgsOk p t (gTs p.K t)
  | [] => tgs_nil
  | t :: ts => tgs_cons (gT_ok t) (gTs_ok ts)
end
theorem w_nil : PTs X [] (tB1 p (.cst (.bool true))) := by
  refine ⟨fun pins sh σ H Q I h => pts_nil.run pins sh σ H Q I ?_⟩
  obtain ⟨F, s, b, s', g, hev, q⟩ := h
  simp only [evE, Option.some.injEq, Prod.mk.injEq, PyData.bool.injEq] at hev
  obtain ⟨rfl, rfl⟩ := hev
  exact q F H .refl g
theorem w_one {a : Expr} {m : E} (h : OkT p X a m) : PTs X [a] (tB1 p m) := pts_one h

variable {σ : L2.St} {s s1 s2 : S1} {F F1 H H1 : Hp} {vs : List Nat}
/-- the start of a loop that fills the list at D -/
theorem lc_start (g : Good p F1 H1 σ s1) {D : Addr} (hD : H1 D = none) : Lc p (wipe σ vs) (s1.wp vs) F1 H1 F1 D (wipe σ vs) (s1.wp vs) F1 (upd H1 D (.lst [])) [] [] where
  g := (g.wipeG vs).loose hD
  n := ⟨fun _ _ z => z, fun b u e _ _ => by rw [upd_ne (ne_of_none e hD)]; exact e, fun _ _ z => .inl z, fun _ d z => ⟨d, z⟩, rfl, fun b e => upd_none e⟩
  o := fun _ z => z
  e := fun _ _ z => z
  hD := upd_same
  hF := g.noneF hD
  h0 := g.none0 hD
  no := (g.wipeG vs).noneO hD
  r := .nil
theorem lc_stop (g1 : Good p F1 H1 σ s1) (hn : noOwn s1.r vs = true) {D : Addr} {acc : List V} {ad : List PySem.PyData} (L : Lc p (wipe σ vs) (s1.wp vs) F1 H1 F1 D (wipe σ vs) (s.wp vs) F H acc ad) :
    Good p F H σ { s with r := backR s1.r s.r vs } ∧ Nxt p σ s1 F1 H1 { s with r := backR s1.r s.r vs } F H :=
  ⟨g1.back hn L.g L.e, L.n.back hn⟩
theorem lc_read {t : Tg} {it : Iv.It} {c e : E} (tv : tgIn vs t = true) {Q : VK} (hh : tL p (.lc vs t it c e) σ H Q) : tLc (tI p it) (gT p.K t) (tB1 p c) (tE p e) vs σ H Q := by
  obtain ⟨F, s, d, s', g, hev, q⟩ := hh
  simp only [evE, Option.map_eq_some_iff, Prod.mk.injEq] at hev
  obtain ⟨⟨ds, s5⟩, hev, rfl, rfl⟩ := hev
  simp only [lcAll] at hev
  split at hev
  · cases hev
  rename_i xs s1 hit
  split at hev
  case isFalse => cases hev
  rename_i hno
  simp only [Bool.and_eq_true, decide_eq_true_eq] at hno
  split at hev
  case h_2 => cases hev
  rename_i ds' s2 hgo
  split at hev <;> cases hev
  rename_i hlen
  refine ⟨F, s, xs, s1, g, hit, fun J F1 H1 n1 g1 y => ?_⟩
  intro D hD
  refine lc_turns (σb := wipe σ vs) (sb := s1.wp vs) (Fb := F1) (Hb := H1) y.b hgo hD (lc_start g1 hD) (by simpa using hlen) (gT_ok t) tv (fun H => Q (.ref D) H) fun F' H' acc L => ?_
  obtain ⟨g2, n2⟩ := lc_stop g1 hno.1 L
  rw [List.nil_append] at L
  exact q D F' H' (n1.trans n2 g2) g2 (n1.dom D hD) L.hF ⟨acc, L.hD, L.r⟩
theorem l_lc {elt tg iter : Expr} {ifs : List Expr} {scope : Scope} {own : List (Str × Nat)} {pos : Pos} {t : Tg} {it : Iv.It} {c e : E} (hc : X.calm = true) (hn : X.N.Nodup) (hi : OkI p X tg iter it) (bo : BlkOk X.N X.env.scope scope own)
    (hg : ∀ (s : Shared) (H : Hp) (C : Addr) (cl : List (Str × Addr)) (fp : List Addr), PG (X.blk s H scope (compEnvC scope cl C X.env) fp) tg (gT p.K t))
    (ht : ∀ (s : Shared) (H : Hp) (C : Addr) (cl : List (Str × Addr)) (fp : List Addr), PTs (X.blk s H scope (compEnvC scope cl C X.env) fp) ifs (tB1 p c))
    (he : ∀ (s : Shared) (H : Hp) (C : Addr) (cl : List (Str × Addr)) (fp : List Addr), PE (X.blk s H scope (compEnvC scope cl C X.env) fp) elt (tE p e))
    (hf : ∀ (x : Value), foldedSetIterable iter X.env x = pure x) (hv : own.map (·.2) = vs) (tv : tgIn vs t = true) :
    PE X (.ListComp elt [{ target := tg, iter := iter, ifs := ifs, is_async := 0 }] scope pos) (tL p (.lc vs t it c e)) := by
  refine ⟨fun pins sh σ H Q I hh => ?_⟩
  have hpe := pe_lc hc hn hi bo hg ht he (pos := pos) hf
  rw [hv] at hpe
  exact hpe.run pins sh σ H Q I (lc_read tv hh)
theorem l_lcD {elt tg : Expr} {ifs : List Expr} {scope : Scope} {own : List (Str × Nat)} {pos : Pos} {t : Tg} {i : Nat} {x : Str} {px : Pos} {c e : E} (hc : X.calm = true) (hn : X.N.Nodup) (hi : PE X (.Name x px) (tVar i)) (bo : BlkOk X.N X.env.scope scope own)
    (hg : ∀ (s : Shared) (H : Hp) (C : Addr) (cl : List (Str × Addr)) (fp : List Addr), PG (X.blk s H scope (compEnvC scope cl C X.env) fp) tg (gT p.K t))
    (ht : ∀ (s : Shared) (H : Hp) (C : Addr) (cl : List (Str × Addr)) (fp : List Addr), PTs (X.blk s H scope (compEnvC scope cl C X.env) fp) ifs (tB1 p c))
    (he : ∀ (s : Shared) (H : Hp) (C : Addr) (cl : List (Str × Addr)) (fp : List Addr), PE (X.blk s H scope (compEnvC scope cl C X.env) fp) elt (tE p e))
    (hv : own.map (·.2) = vs) (tv : tgIn vs t = true) :
    PE X (.ListComp elt [{ target := tg, iter := .Name x px, ifs := ifs, is_async := 0 }] scope pos) (tL p (.lcD vs t i c e)) := by
  refine ⟨fun pins sh σ H Q I hh => ?_⟩
  obtain ⟨F, s, d, s', g, hev, q⟩ := hh
  simp only [evE] at hev
  split at hev
  case h_2 => cases hev
  rename_i kvs hsi
  split at hev
  case isFalse => cases hev
  rename_i hno
  simp only [Bool.and_eq_true, Bool.not_eq_true'] at hno
  obtain ⟨⟨hdk, hno⟩, hni⟩ := hno
  split at hev
  case h_2 => cases hev
  rename_i ds s2 hgo
  split at hev <;> cases hev
  rename_i hlen
  have hpe := pe_lock (pe_lc hc hn (pi_keys hi) bo hg ht he (pos := pos) (fun _ => rfl))
  rw [hv] at hpe
  obtain ⟨a, ha, hFa, h0a, ks, hHa, hR⟩ := g.own i _ hsi
  have hil : i < s.r.length := (List.getElem?_eq_some_iff.mp hsi).1
  have hvi : i ∉ vs := by simpa using hni
  refine hpe.run pins sh σ H Q I ⟨a, _, hHa, trivial, fun od => ?_⟩
  refine ⟨_, ha, a, od, rfl, .inl ⟨ks, upd_same, ?_⟩⟩
  intro D hD
  -- the state while the dict is locked
  have ga : Good p F (upd H a (.frz od (.dK ks))) σ (s.put i .no) := by
    have gp : ∀ (j : Nat) (e : Ent), (s.put i .no).r[j]? = some e → e ≠ .no → i ≠ j ∧ s.r[j]? = some e := fun j e q hne => by
      rw [put_get] at q
      by_cases h : i = j
      · rw [if_pos h] at q; split at q <;> cases q; exact absurd rfl hne
      · rw [if_neg h] at q; exact ⟨h, q⟩
    have hoa : ∀ (j : Nat) (e : PySem.PyData) (b : Addr), (s.put i .no).r[j]? = some (Ent.own e) → σ[j]? = some (some (V.ref b)) → b ≠ a := fun j e b q1 q2 z => by
      obtain ⟨h1, h2⟩ := gp j _ q1 (by intro z; cases z)
      exact h1 (g.dis i j _ e a hsi h2 ha (by rw [← z]; exact q2))
    refine ⟨fun b u z => ?_, g.f0, g.fn, fun b u z w => ?_, by rw [g.len]; simp [S1.put], fun j e q => g.val j e (gp j _ q (by intro z; cases z)).2, fun j e q => ?_, fun j l e e' b q1 q2 q3 q4 => g.dis j l e e' b (gp j _ q1 (by intro z; cases z)).2 (gp l _ q2 (by intro z; cases z)).2 q3 q4, ?_, g.wF, g.w0⟩
    · have : b ≠ a := fun y => by rw [y, hFa] at z; cases z
      rw [upd_ne this]; exact g.ex b u z
    · have : b ≠ a := fun y => by rw [y, h0a] at z; cases z
      rw [upd_ne this]; exact g.keep b u z w
    · obtain ⟨b, z1, z2, z3, z4⟩ := g.own j e (gp j _ q (by intro z; cases z)).2
      exact ⟨b, z1, z2, z3, z4.mono (fun _ _ z => z) (upd_ne (hoa j e b q z1))⟩
    · exact g.wrd.ext fun b w => upd_ne fun z => by rw [z] at w; exact g.w0 a w h0a
  have hDa : D ≠ a := fun z => by rw [z, upd_same] at hD; cases hD
  have hD' : H D = none := by rw [upd_ne hDa] at hD; exact hD
  have hno' : noOwn (s.put i .no).r vs = true := by
    apply List.all_eq_true.mpr
    intro v hv
    obtain ⟨en, h1, h2⟩ := noOwn_get hno hv
    rw [put_get, if_neg (fun z => hvi (by rw [z]; exact hv)), h1]
    cases en with
    | own d => exact absurd rfl (h2 d)
    | _ => rfl
  have hOa : ∀ {σ' s'}, (∀ x, Owned σ' s' x → Owned (L2.wipe σ vs) ((s.put i .no).wp vs) x) → ¬ Owned σ' s' a := fun h z => by
    obtain ⟨j, e, z1, z2⟩ := wp_owned (h a z)
    rw [put_get] at z1
    by_cases hj : i = j
    · rw [if_pos hj] at z1; split at z1 <;> cases z1
    · rw [if_neg hj] at z1; exact hj (g.dis i j _ e a hsi z1 ha z2)
  have hwa : ¬ InW p.wa a := fun w => g.w0 a w h0a
  have y : YlB p (fun H' => ∀ b o, upd H a (.frz od (.dK ks)) b = some o → ¬ Owned (L2.wipe σ vs) ((s.put i .no).wp vs) b → ¬ InW p.wa b → H' b = some o) F (Itk a od ks) (kvs.map (·.1)) := by
    have cf : ∀ (H' : Hp), (∀ b o, upd H a (.frz od (.dK ks)) b = some o → ¬ Owned (L2.wipe σ vs) ((s.put i .no).wp vs) b → ¬ InW p.wa b → H' b = some o) → H' a = some (HO.frz od (.dK ks)) := fun H' h => h a _ upd_same (hOa fun _ z => z) hwa
    refine ⟨fun j H' e c h => ⟨cf H' c, ?_⟩, fun j H' e c h => ⟨cf H' c, ?_⟩, fun j H' v H2 d e c h hd => ?_⟩
    · rw [hR.length]; simpa using h
    · rw [hR.length]; have : j = kvs.length := by simpa using h
      omega
    · obtain ⟨rfl, kk, u, h1, rfl⟩ := h
      refine .inl ⟨rfl, ?_⟩
      obtain ⟨v, h3, h4⟩ := RA.get hR.keys hd
      rw [List.getElem?_map, h1] at h3
      cases h3
      exact h4
  refine lc_turns (σb := L2.wipe σ vs) (sb := (s.put i .no).wp vs) (Fb := F) (Hb := upd H a (.frz od (.dK ks))) y hgo hD (lc_start ga hD) (by simpa using hlen) (gT_ok t) tv (fun H' => H' a = some (.frz od (.dK ks)) ∧ Q (.ref D) (upd H' a (.dK ks))) fun F' H' acc L => ?_
  have ka : H' a = some (.frz od (.dK ks)) := L.n.keep a _ upd_same (hOa fun _ z => z) hwa
  refine ⟨ka, ?_⟩
  obtain ⟨g2, n2⟩ := lc_stop ga hno' L
  rw [List.nil_append] at L
  have sl : s2.r.length = s.r.length := by
    have := n2.len
    simp only [S1.put, List.length_set, backR_len] at this
    exact this
  have hFa' : F' a = none := by
    cases hf : F' a with
    | none => rfl
    | some u =>
      rcases n2.new a u hf with z | z | z
      · rw [hFa] at z; cases z
      · rw [upd_same] at z; cases z
      · exact absurd z fun ⟨j, e, z1, z2⟩ => by
          rw [put_get] at z1
          by_cases hj : i = j
          · rw [if_pos hj] at z1; split at z1 <;> cases z1
          · rw [if_neg hj] at z1; exact hj (g.dis i j _ e a hsi z1 ha z2)
  have bk : ∀ j, ((backR s.r s2.r vs).set i (.own (.dict kvs)))[j]? = if i = j then some (.own (.dict kvs)) else (backR (s.put i .no).r s2.r vs)[j]? := fun j => by
    rw [List.getElem?_set]
    by_cases hj : i = j
    · subst hj; simp [backR_len, sl, hil]
    · rw [if_neg hj, if_neg hj, backR_get, backR_get]
      by_cases hjv : j ∈ vs
      · rw [if_pos hjv, if_pos hjv]
        have : (s.put i .no).r.getD j .no = s.r.getD j .no := by
          rw [List.getD_eq_getElem?_getD, List.getD_eq_getElem?_getD, put_get, if_neg hj]
        rw [this]
      · rw [if_neg hjv, if_neg hjv]
  have ob : ∀ (j : Nat) (e : PySem.PyData) (b : Addr), (backR (s.put i .no).r s2.r vs)[j]? = some (.own e) → σ[j]? = some (some (.ref b)) → b ≠ a := fun j e b q1 q2 z => by
    obtain ⟨d', h3⟩ := n2.own j e q1
    rw [put_get] at h3
    by_cases hj : i = j
    · rw [if_pos hj] at h3; split at h3 <;> cases h3
    · rw [if_neg hj] at h3; exact hj (g.dis i j _ d' a hsi h3 ha (by rw [← z]; exact q2))
  have aD : a ≠ D := fun z => hDa z.symm
  have g3 : Good p F' (upd H' a (.dK ks)) σ { s2 with r := (backR s.r s2.r vs).set i (.own (.dict kvs)) } := by
    refine ⟨fun b u z => ?_, g2.f0, g2.fn, fun b u z w => ?_, by simp [backR_len, sl, g.len], fun j e q => ?_, fun j e q => ?_, fun j l e e' b q1 q2 q3 q4 => ?_, ?_, g2.wF, g2.w0⟩
    · have : b ≠ a := fun y => by rw [y, hFa'] at z; cases z
      rw [upd_ne this]; exact g2.ex b u z
    · have : b ≠ a := fun y => by rw [y, h0a] at z; cases z
      rw [upd_ne this]; exact g2.keep b u z w
    · simp only [bk] at q
      by_cases hj : i = j
      · rw [if_pos hj] at q; cases q
      · rw [if_neg hj] at q; exact g2.val j e q
    · simp only [bk] at q
      by_cases hj : i = j
      · rw [if_pos hj] at q; cases q
        subst hj
        exact ⟨a, ha, hFa', h0a, ks, upd_same, hR.mono n2.ex⟩
      · rw [if_neg hj] at q
        obtain ⟨b, z1, z2, z3, z4⟩ := g2.own j e q
        exact ⟨b, z1, z2, z3, z4.mono (fun _ _ z => z) (upd_ne (ob j e b q z1))⟩
    · simp only [bk] at q1 q2
      by_cases hj : i = j
      · by_cases hl : i = l
        · rw [← hj, ← hl]
        · rw [if_neg hl] at q2
          rw [← hj] at q3; rw [ha] at q3; cases q3
          exact absurd rfl (ob l _ _ q2 q4)
      · rw [if_neg hj] at q1
        by_cases hl : i = l
        · rw [← hl] at q4; rw [ha] at q4; cases q4
          exact absurd rfl (ob j _ _ q1 q3)
        · rw [if_neg hl] at q2
          exact g2.dis j l e e' b q1 q2 q3 q4
    · exact g2.wrd.ext fun b w => upd_ne fun z => by rw [z] at w; exact hwa w
  refine q D F' _ ⟨n2.ex, fun b u z x y => ?_, fun b u z => ?_, fun j e q => ?_, ?_, fun b z => ?_⟩ g3 hD' L.hF ⟨acc, by rw [upd_ne hDa]; exact L.hD, L.r⟩
  · have hb : b ≠ a := fun z => x ⟨i, _, hsi, by rw [z]; exact ha⟩
    rw [upd_ne hb]
    refine n2.keep b u (by rw [upd_ne hb]; exact z) (fun ⟨j, e, z1, z2⟩ => x ?_) y
    rw [put_get] at z1
    by_cases hj : i = j
    · rw [if_pos hj] at z1; split at z1 <;> cases z1
    · rw [if_neg hj] at z1; exact ⟨j, e, z1, z2⟩
  · rcases n2.new b u z with z | z | ⟨j, e, z1, z2⟩
    · exact .inl z
    · exact .inr (.inl (upd_none z))
    · refine .inr (.inr ?_)
      rw [put_get] at z1
      by_cases hj : i = j
      · rw [if_pos hj] at z1; split at z1 <;> cases z1
      · rw [if_neg hj] at z1; exact ⟨j, e, z1, z2⟩
  · simp only [bk] at q
    by_cases hj : i = j
    · rw [← hj]; exact ⟨_, hsi⟩
    · rw [if_neg hj] at q
      obtain ⟨d', h3⟩ := n2.own j e q
      rw [put_get, if_neg hj] at h3
      exact ⟨d', h3⟩
  · simp [backR_len, sl]
  · have := n2.dom b (upd_none z)
    exact upd_none this
end
end Iv

namespace Iv
open PySem L2 PyProof.Rows
open Evl (Ex)
section
variable {p : Pm} {X : Cx} {k : Nat} {σ σ1 σ2 σb : L2.St} {s s1 s2 sb : S1} {F F1 F2 Fb H H1 H2 Hb : Hp} {vs vs1 : List Nat}
theorem wipe_wipe (hv : ∀ i, i ∈ vs1 → i ∈ vs) : wipe (wipe σ vs1) vs = wipe σ vs := by
  apply List.ext_getElem?
  intro j
  rw [wipe_get, wipe_get, wipe_get]
  by_cases h : j ∈ vs
  · rw [if_pos h, if_pos h]
    by_cases h1 : j ∈ vs1
    · rw [if_pos h1]; cases σ[j]? <;> rfl
    · rw [if_neg h1]
  · rw [if_neg h, if_neg h, if_neg (fun z => h (hv j z))]
theorem wp_wp (hv : ∀ i, i ∈ vs1 → i ∈ vs) : (s.wp vs1).wp vs = s.wp vs := by
  have : wipeR (wipeR s.r vs1) vs = wipeR s.r vs := by
    apply List.ext_getElem?
    intro j
    rw [wipeR_get, wipeR_get, wipeR_get]
    by_cases h : j ∈ vs
    · rw [if_pos h, if_pos h]
      by_cases h1 : j ∈ vs1
      · rw [if_pos h1]; cases s.r[j]? <;> rfl
      · rw [if_neg h1]
    · rw [if_neg h, if_neg h, if_neg (fun z => h (hv j z))]
  show ({ r := wipeR (wipeR s.r vs1) vs, w := s.w } : S1) = { r := wipeR s.r vs, w := s.w }
  rw [this]
theorem Nxt.wp (n : Nxt p σb sb Fb Hb s F H) (vs : List Nat) : Nxt p σb sb Fb Hb (s.wp vs) F H :=
  ⟨n.ex, n.keep, n.new, fun i d h => n.own i d (wp_own h).2, by show (wipeR s.r vs).length = _; rw [wipeR_len, n.len], n.dom⟩
theorem lc2_turns {g : TG} {t t1 : Tg} {c c1 e : E} {it1 : Iv.It} {J : L2.It} {xs ds : List PySem.PyData} {D : Addr} {acc0 : List V} {ad0 : List PySem.PyData} {F0 : Hp}
    (y : YlB p (fun H => ∀ a o, Hb a = some o → ¬ Owned σb sb a → ¬ InW p.wa a → H a = some o) F0 J xs)
    (hgo : lc2Go vs t (evE p.Φ c) (fun s2 => match evIt p.Φ it1 s2 with
      | some (ys, s3) => if noOwn s3.r vs1 && decide (ys.length ≤ line) then lcGo vs1 t1 (evE p.Φ c1) (evE p.Φ e) ys s3 else none
      | none => none) xs s1 = some (ds, s2)) (hb : Hb D = none)
    (L : Lc p σb sb Fb Hb F0 D (wipe σ vs) (s1.wp vs) F1 H1 acc0 ad0) (hlen : ad0.length + ds.length ≤ line) (hg : TgOk p t g) (ht : tgIn vs t = true) (ht1 : tgIn vs1 t1 = true) (hvv : ∀ i, i ∈ vs1 → i ∈ vs)
    (Fin : Hp → Prop) (hfin : ∀ F H acc, Lc p σb sb Fb Hb F0 D (wipe σ vs) (s2.wp vs) F H acc (ad0 ++ ds) → Fin H) :
    ∃ W : Nat → Nat → Hp → Prop, (∃ m, W 0 m H1) ∧ ∀ i m H, W i m H → (J.stop i H ∧ Fin H) ∨ (J.go i H ∧ ∃ Nx : Hp → Prop, (∀ H', Nx H' → ∃ m', m' < m ∧ W (i + 1) m' H') ∧
      ∀ x H', J.yld i H x H' → g x (wipe σ vs) H' fun σ2 H2 => wipe σ2 vs = wipe σ vs ∧ tB1 p c σ2 H2 fun b H3 => if b = true then tI p it1 σ2 H3 fun J1 H4 => ∃ W1 : Nat → Nat → Hp → Prop, (∃ m, W1 0 m H4) ∧ ∀ j k H, W1 j k H → (J1.stop j H ∧ Nx H) ∨ (J1.go j H ∧ ∃ Nx1 : Hp → Prop, (∀ H', Nx1 H' → ∃ k', k' < k ∧ W1 (j + 1) k' H') ∧
        ∀ x H', J1.yld j H x H' → gT p.K t1 x (wipe σ2 vs1) H' fun σ3 H5 => wipe σ3 vs1 = wipe σ2 vs1 ∧ tB1 p c1 σ3 H5 fun b H6 => if b = true then tE p e σ3 H6 fun y H7 => ∃ acc, H7 D = some (.lst acc) ∧ acc.length < sizeLine ∧ Nx1 (upd H7 D (.lst (acc ++ [y]))) else Nx1 H6) else Nx H3) := by
  generalize hin : (fun s2 : S1 => match evIt p.Φ it1 s2 with
      | some (ys, s3) => if noOwn s3.r vs1 && decide (ys.length ≤ line) then lcGo vs1 t1 (evE p.Φ c1) (evE p.Φ e) ys s3 else none
      | none => none) = inner at hgo
  refine ⟨fun i m H => m = xs.length - i ∧ i ≤ xs.length ∧ ∃ F s acc ad dr, Lc p σb sb Fb Hb F0 D (wipe σ vs) (s.wp vs) F H acc ad ∧ lc2Go vs t (evE p.Φ c) inner (xs.drop i) s = some (dr, s2) ∧ ad0 ++ ds = ad ++ dr, ⟨_, rfl, Nat.zero_le _, F1, s1, acc0, ad0, ds, L, by simpa using hgo, rfl⟩, ?_⟩
  rintro i m H ⟨hm, hi, F, s, acc, ad, dr, L, hgo, hds⟩
  by_cases hie : i = xs.length
  · refine .inl ⟨y.stop i H (L.e.trans L.g.ex) L.n.keep hie, ?_⟩
    subst hie
    simp only [List.drop_length, lc2Go, Option.some.injEq, Prod.mk.injEq] at hgo
    obtain ⟨rfl, rfl⟩ := hgo
    rw [List.append_nil] at hds
    exact hfin F H acc (by rw [hds]; exact L)
  have hlt : i < xs.length := by omega
  refine .inr ⟨y.go i H (L.e.trans L.g.ex) L.n.keep hlt, fun H' => ∃ F s acc ad dr, Lc p σb sb Fb Hb F0 D (wipe σ vs) (s.wp vs) F H' acc ad ∧ lc2Go vs t (evE p.Φ c) inner (xs.drop (i + 1)) s = some (dr, s2) ∧ ad0 ++ ds = ad ++ dr, fun H' h => ⟨xs.length - (i + 1), by omega, rfl, by omega, h⟩, fun x H' hy => ?_⟩
  have hx : xs[i]? = some xs[i] := List.getElem?_eq_getElem hlt
  rw [List.drop_eq_getElem_cons hlt] at hgo
  simp only [lc2Go] at hgo
  split at hgo
  · cases hgo
  rename_i r1 hr1
  obtain ⟨F', g', n', r'⟩ := ext_yld y L.g L.e L.n.keep hy hx
  refine hg.run _ F' H' (s.wp vs) x _ r1 _ g' r' hr1 fun σ2 g2 c2 => ?_
  have hv : ∀ i, (∀ vs, tgIn vs t = true → i ∈ vs) → i ∈ vs := fun i h => h vs ht
  have hw : L2.wipe σ2 vs = L2.wipe σ vs := by
    have := c2.wipe (vs := vs) g'.len g2.len hv
    rw [this]
    exact wipe_wipe fun _ z => z
  refine ⟨hw, ?_⟩
  have hDn : ∀ {u}, H D = some u → H' D = some u := fun h => n'.keep D _ h L.no (fun w => L.g.w0 D w L.h0)
  simp only [asB] at hgo
  split at hgo
  case h_3 => cases hgo
  · -- the test says yes
    rename_i s3 hc
    split at hc <;> cases hc
    rename_i hc
    refine ⟨F', _, true, s3, g2, hc, fun F3 H3 n3 g3 => ?_⟩
    simp only [↓reduceIte]
    split at hgo
    case h_2 => cases hgo
    rename_i ds1 s5 he
    split at hgo <;> cases hgo
    rename_i ds' hrest
    rw [← hin] at he
    simp only at he
    split at he
    case h_2 => cases he
    rename_i ys s4 hit1
    split at he
    case isFalse => cases he
    rename_i hno
    refine ⟨F3, s3, ys, s4, g3, hit1, fun J1 F4 H4 n4 g4 y1 => ?_⟩
    have n34 := n3.trans n4 g4
    have nt := Nxt.turn c2 hv n34
    have nn := n'.trans nt (s2 := s4.wp vs) (F2 := F4) (H2 := H4) (by rw [← hw]; exact g4.wipeG vs)
    have ow4 : ∀ x, Owned σ2 s4 x → Owned (L2.wipe σ vs) (s.wp vs) x := fun x h => wipe_ow c2 (n34.ownd h)
    have hD4 : H4 D = some (.lst acc) := n34.keep D _ (hDn L.hD) (fun z => L.no (wipe_ow c2 z)) (fun w => L.g.w0 D w L.h0)
    have hF4 : F4 D = none := by
      cases hf : F4 D with
      | none => rfl
      | some u =>
        rcases nn.new D u hf with z | z | z
        · rw [L.hF] at z; cases z
        · rw [L.hD] at z; cases z
        · exact absurd z L.no
    have nA : Nxt p σb sb Fb Hb (⟨r1, (s.wp vs).w⟩ : S1) F' H' := by
      have n1 := L.n.trans' L.o n' g'.wF
      refine ⟨n1.ex, n1.keep, n1.new, fun j d q => ?_, by rw [c2.1, n1.len], n1.dom⟩
      rcases c2.2 j with z | ⟨_, d', z⟩
      · exact n1.own j d (by rw [← z.1]; exact q)
      · rw [z] at q; cases q
    have nB : Nxt p σb sb Fb Hb s4 F4 H4 := nA.trans' (fun x z => L.o x (wipe_ow c2 z)) n34 g4.wF
    have L4 : Lc p σb sb Fb Hb F4 D (L2.wipe σ2 vs1) (s4.wp vs1) F4 H4 acc ad :=
      ⟨g4.wipeG vs1, nB.wp vs1, fun x z => L.o x (ow4 x (wp_owned z)), fun _ _ z => z, hD4, hF4, L.h0, fun z => L.no (ow4 D (wp_owned z)), L.r.mono nn.ex⟩
    have hl1 : ad.length + ds1.length ≤ line := by
      have := congrArg List.length hds
      simp only [List.length_append] at this
      omega
    refine lc_turns y1.b he hb L4 hl1 (gT_ok t1) ht1 _ fun F5 H5 acc5 L5 => ?_
    refine ⟨F5, s5, acc5, ad ++ ds1, ds', ?_, hrest, by rw [hds]; simp⟩
    have n5 := L5.n.wp vs
    rw [wp_wp hvv] at n5
    have g5 := L5.g.wipeG vs
    rw [wp_wp hvv, wipe_wipe hvv, hw] at g5
    have o5 : ∀ x, Owned (L2.wipe σ vs) (s5.wp vs) x → Owned (L2.wipe σ2 vs1) (s5.wp vs1) x := fun x z => by
      rw [← wp_wp hvv, ← hw, ← wipe_wipe hvv] at z
      exact wp_owned z
    exact ⟨g5, n5, fun x z => L5.o x (o5 x z), (L.e.trans nn.ex).trans L5.e, L5.hD, L5.hF, L5.h0, fun z => L5.no (o5 D z), L5.r⟩
  · -- .. no
    rename_i s3 hc
    split at hc <;> cases hc
    rename_i hc
    refine ⟨F', _, false, s3, g2, hc, fun F3 H3 n3 g3 => ?_⟩
    simp only [Bool.false_eq_true, ↓reduceIte]
    have nt := Nxt.turn c2 hv n3
    have gw : Good p F3 H3 (L2.wipe σ vs) (s3.wp vs) := by rw [← hw]; exact g3.wipeG vs
    have nn := n'.trans nt gw
    have hD3 : H3 D = some (.lst acc) := n3.keep D _ (hDn L.hD) (fun z => L.no (wipe_ow c2 z)) (fun w => L.g.w0 D w L.h0)
    have hF3 : F3 D = none := by
      cases hf : F3 D with
      | none => rfl
      | some u =>
        rcases nn.new D u hf with z | z | z
        · rw [L.hF] at z; cases z
        · rw [L.hD] at z; cases z
        · exact absurd z L.no
    exact ⟨F3, s3, acc, ad, dr, ⟨gw, L.n.trans' L.o nn gw.wF, fun x h => L.o x (nn.ownd h), L.e.trans nn.ex, hD3, hF3, L.h0, fun z => L.no (nn.ownd z), L.r.mono nn.ex⟩, hgo, hds⟩
theorem lc2_read {t t1 : Tg} {it it1 : Iv.It} {c c1 e : E} (hvv : ∀ i, i ∈ vs1 → i ∈ vs) (tv : tgIn vs t = true) (tv1 : tgIn vs1 t1 = true) {Q : VK} (hh : tL p (.lc2 vs vs1 t it c t1 it1 c1 e) σ H Q) : tLc2 (tI p it) (gT p.K t) (tB1 p c) (tI p it1) (gT p.K t1) (tB1 p c1) (tE p e) vs vs1 σ H Q := by
  obtain ⟨F, s, d, s', g, hev, q⟩ := hh
  simp only [evE, Option.map_eq_some_iff, Prod.mk.injEq] at hev
  obtain ⟨⟨ds, s5⟩, hev, rfl, rfl⟩ := hev
  simp only [lcAll] at hev
  split at hev
  · cases hev
  rename_i xs s1 hit
  split at hev
  case isFalse => cases hev
  rename_i hno
  simp only [Bool.and_eq_true, decide_eq_true_eq] at hno
  split at hev
  case h_2 => cases hev
  rename_i ds' s2 hgo
  split at hev <;> cases hev
  rename_i hlen
  refine ⟨F, s, xs, s1, g, hit, fun J F1 H1 n1 g1 y => ?_⟩
  intro D hD
  refine lc2_turns (σb := L2.wipe σ vs) (sb := s1.wp vs) (Fb := F1) (Hb := H1) y.b hgo hD (lc_start g1 hD) (by simpa using hlen) (gT_ok t) tv tv1 hvv (fun H => Q (.ref D) H) fun F' H' acc L => ?_
  obtain ⟨g2, n2⟩ := lc_stop g1 hno.1 L
  rw [List.nil_append] at L
  exact q D F' H' (n1.trans n2 g2) g2 (n1.dom D hD) L.hF ⟨acc, L.hD, L.r⟩
theorem l_lc2 {elt tg iter tg1 iter1 : Expr} {ifs ifs1 : List Expr} {scope : Scope} {own : List (Str × Nat)} {pos : Pos} {t t1 : Tg} {it it1 : Iv.It} {c c1 e : E} (hc : X.calm = true) (hn : X.N.Nodup) (hi : OkI p X tg iter it) (bo : BlkOk X.N X.env.scope scope own)
    (hvv : ∀ i, i ∈ vs1 → i ∈ vs)
    (hg : ∀ (s : Shared) (H : Hp) (C : Addr) (cl : List (Str × Addr)) (fp : List Addr), PG (X.blk s H scope (compEnvC scope cl C X.env) fp) tg (gT p.K t))
    (ht : ∀ (s : Shared) (H : Hp) (C : Addr) (cl : List (Str × Addr)) (fp : List Addr), PTs (X.blk s H scope (compEnvC scope cl C X.env) fp) ifs (tB1 p c))
    (hi1 : ∀ (s : Shared) (H : Hp) (C : Addr) (cl : List (Str × Addr)) (fp : List Addr), OkI p (X.blk s H scope (compEnvC scope cl C X.env) fp) tg1 iter1 it1)
    (hg1 : ∀ (s : Shared) (H : Hp) (C : Addr) (cl : List (Str × Addr)) (fp : List Addr), PG (X.blk s H scope (compEnvC scope cl C X.env) fp) tg1 (gT p.K t1))
    (ht1 : ∀ (s : Shared) (H : Hp) (C : Addr) (cl : List (Str × Addr)) (fp : List Addr), PTs (X.blk s H scope (compEnvC scope cl C X.env) fp) ifs1 (tB1 p c1))
    (he : ∀ (s : Shared) (H : Hp) (C : Addr) (cl : List (Str × Addr)) (fp : List Addr), PE (X.blk s H scope (compEnvC scope cl C X.env) fp) elt (tE p e))
    (hf : ∀ (x : Value), foldedSetIterable iter X.env x = pure x) (hf1 : ∀ (env : Env) (x : Value), foldedSetIterable iter1 env x = pure x) (hv : own.map (·.2) = vs) (tv : tgIn vs t = true) (tv1 : tgIn vs1 t1 = true) :
    PE X (.ListComp elt [{ target := tg, iter := iter, ifs := ifs, is_async := 0 }, { target := tg1, iter := iter1, ifs := ifs1, is_async := 0 }] scope pos) (tL p (.lc2 vs vs1 t it c t1 it1 c1 e)) := by
  refine ⟨fun pins sh σ H Q I hh => ?_⟩
  have hpe := pe_lc2 hc hn hi bo (fun i h => by rw [hv]; exact hvv i h) hg ht hi1 hg1 ht1 he (pos := pos) hf hf1
  rw [hv] at hpe
  exact hpe.run pins sh σ H Q I (lc2_read hvv tv tv1 hh)
end
end Iv

namespace HT
open PySem PySem.Spec PyProof.Rows
section
variable {prog : Program} {w : World} {A : Around} {E : Value → Shared → Prop} {s : Shared}
theorem iv_places (n : Nat) : Builtin.Slice.slicePlaces ((n : Int) - 1) (-1) (-1) = n := by
  unfold Builtin.Slice.slicePlaces
  rw [if_neg (by decide)]
  by_cases h : (n : Int) - 1 > -1
  · rw [if_pos h]
    have : (- -1 : Int) = 1 := by decide
    rw [this, Int.ediv_one]; omega
  · rw [if_neg h]; omega
theorem iv_applied {sl : Addr} {vl vu vs : Value} {n : Nat} {Q : Int × Int × Nat → Shared → Prop} (hs : s.heap.IsSliceOf sl vl vu vs) (pl : IsPart vl none) (pu : IsPart vu none) (ps : IsPart vs (some (-1)))
    (h : Q ((n : Int) - 1, -1, n) s) : wpAny (model prog w) A (Builtin.Slice.sliceApplied (.ref sl) (pure (n : Int))) Q E s := by
  obtain ⟨os, hos, hcs, hds⟩ := id hs
  unfold Builtin.Slice.sliceApplied Builtin.Slice.sliceFields
  refine wpAny_bind (wpAny_bind (wpAny_field hos hds (x := vl) rfl (wpAny_bind (wpAny_field hos hds (x := vu) rfl (wpAny_bind (wpAny_field hos hds (x := vs) rfl (wpAny_pure ?_)))))))
  refine wpAny_bind (slicePart_ ps ?_)
  show wpAny _ _ (if ((-1 : Int) == 0) = true then _ else _) _ _ s
  rw [if_neg (by decide)]
  refine wpAny_bind (slicePart_ pl (wpAny_bind (slicePart_ pu (wpAny_bind (wpAny_pure ?_)))))
  show wpAny _ _ (pure ((n : Int) - 1, (-1 : Int), Builtin.Slice.slicePlaces ((n : Int) - 1) (-1) (-1))) _ _ s
  rw [iv_places]
  exact wpAny_pure h
theorem iv_fm {α β : Type} {f g : α → Option β} : ∀ {l : List α}, (∀ x ∈ l, f x = g x) → l.filterMap f = l.filterMap g
  | [], _ => rfl
  | x :: l, h => by
    rw [List.filterMap_cons, List.filterMap_cons, h x (List.mem_cons_self ..), iv_fm fun y hy => h y (List.mem_cons_of_mem _ hy)]
theorem iv_pick (xs : Array Value) : ((List.range xs.size).filterMap fun (k : Nat) => xs[((xs.size : Int) - 1 + (k : Int) * (-1)).toNat]?).toArray = xs.toList.reverse.toArray := by
  have e : (List.range xs.size).filterMap (fun (k : Nat) => xs[((xs.size : Int) - 1 + (k : Int) * (-1)).toNat]?) = ((List.range xs.size).map fun k => xs.size - 1 - k).filterMap (xs[·]?) := by
    rw [List.filterMap_map]
    refine iv_fm fun k hk => ?_
    have := List.mem_range.mp hk
    have e2 : ((xs.size : Int) - 1 + (k : Int) * (-1)).toNat = xs.size - 1 - k := by omega
    rw [e2]; rfl
  rw [e, PySem.W.krv_range, List.filterMap_reverse, PySem.W.krv_all]
theorem iv_getItem_rev {t sl : Addr} {items : Array Value} {vl vu vs : Value} {Q : Value → Shared → Prop} (ht : IsTup s.heap t items) (hs : s.heap.IsSliceOf sl vl vu vs) (pl : IsPart vl none) (pu : IsPart vu none) (ps : IsPart vs (some (-1)))
    (h : Q (.ref s.heap.objs.size) { s with heap := s.heap.push { cls := .type "tuple", data := .seq items.toList.reverse.toArray } })
    (hsz : items.size ≤ sizeLine) : wpAny (model prog w) A (getItem (.ref t) (.ref sl)) Q E s := by
  have htake : sizeOk (.seq items.toList.reverse.toArray) := by
    show items.toList.reverse.toArray.size ≤ sizeLine
    rw [List.size_toArray, List.length_reverse, Array.length_toList]
    exact hsz
  obtain ⟨os, hos, hcs, hds⟩ := id hs
  have hTs : s.TypeIs (.ref sl) "slice" := ⟨os, hos, hcs⟩
  unfold getItem
  try with_reducible refine wpAny_holding ?_
  first | refine wpAny_bind (wpAny_pure ?_) | skip
  refine wpAny_bind (wpAny_sequenceKey ht.typeIs (by decide) ?_)
  refine wpAny_bind (wpAny_callSpecial?_slot (name := Str.ofString "__getitem__") ht.typeIs PyProof.Rows.slot_tuple_getitem
    (wpAny_call_entry PyProof.Rows.slot_tuple_getitem ht.typeIs entry_tuple_getitem ?_ (args_tuple_getitem _ _)))
  show wpAny _ _ (Builtin.Tuple.tupleItemsOf (.ref t) >>= _) _ _ s
  refine wpAny_bind (tupleItemsOf_ ht ?_)
  refine wpAny_bind (wpAny_typeOf hTs ?_)
  rw [if_pos (by decide)]
  refine wpAny_bind (iv_applied hs pl pu ps ?_)
  have hno : ¬ ((((items.size : Int) - 1 == 0) && ((-1 : Int) == 1) && (items.size == items.size)) = true) := by
    simp
  show wpAny _ _ (if (((items.size : Int) - 1 == 0) && ((-1 : Int) == 1) && (items.size == items.size)) = true then _ else _) _ _ s
  rw [if_neg hno, iv_pick]
  first
    | exact wpAny_bind (m := Builtin.Tuple.tupleExact _) (wpAny_newObj_type (wpAny_pure ⟨_, rfl, wpAny_pure h⟩) htake)
    | exact wpAny_bind (m := Builtin.Tuple.tupleExact _) (wpAny_newObj_type (wpAny_bind (wpAny_pure (wpAny_pure ⟨_, rfl, wpAny_pure h⟩))) htake)
    | exact wpAny_bind (wpAny_bind (m := Builtin.Tuple.tupleExact _) (wpAny_newObj_type (wpAny_pure (wpAny_pure ⟨_, rfl, wpAny_pure h⟩)) htake))
    | exact wpAny_bind (wpAny_bind (m := Builtin.Tuple.tupleExact _) (wpAny_newObj_type (wpAny_pure ⟨_, rfl, wpAny_pure h⟩) htake))
end
end HT
namespace Iv
open PySem L2 PyProof.Rows
open Evl (Ex)
/-- x[::-1] of a list or a tuple -/
def tRev (K : PySem.W.Frag) (te : TE) : TE := fun σ H Q => te σ H fun x H1 => ∃ a xs, x = .ref a ∧ ((SqL K H1 a xs ∧ ∀ p, H1 p = none → Q (.ref p) (upd H1 p (.lst xs.reverse))) ∨ (SqT K H1 a xs ∧ ∀ p, H1 p = none → Q (.ref p) (upd H1 p (.tup xs.reverse))))
section
variable {p : Pm} {X : Cx} {k : Nat}
theorem pe_rev {e : Expr} {te : TE} {k : Nat} {p1 p2 p3 pos : Pos} (he : PE X e te) : PE X (.Subscript e (.Slice none none (some (.UnaryOp .USub (.Constant (.int 1) k p1) p2)) p3) pos) (tRev X.K te) := by
  refine ⟨fun pins s σ H Q I h => ?_⟩
  refine Subscript_ (thn (he.run pins s σ H _ I h) fun v s1 ⟨x, H1, I1, r1, q1⟩ => ?_)
  obtain ⟨a, xs, ex, q⟩ := q1
  subst ex
  cases r1
  have hst : PO X (some (.UnaryOp .USub (.Constant (.int 1) k p1) p2)) (tPart (tUn (rU fun i => .int (-i)) (tC (.int 1)))) := po_some (pe_un un_neg pe_int)
  refine wpAny_Slice (thn (po_none.run pins s1 σ H1 (fun o H2 => o = none ∧ H2 = H1) I1 ⟨rfl, rfl⟩) fun vl s2 ⟨l, H2, I2, pl, el, e2⟩ => ?_)
  subst el e2
  refine thn (po_none.run pins s2 σ H2 (fun o H3 => o = none ∧ H3 = H2) I2 ⟨rfl, rfl⟩) fun vu s3 ⟨u, H3, I3, pu, eu, e3⟩ => ?_
  subst eu e3
  refine thn (hst.run pins s3 σ H3 (fun o H4 => o = some (-1) ∧ H4 = H3) I3 ⟨1, rfl, -1, rfl, rfl, rfl⟩) fun vs s4 ⟨o, H4, I4, ps, eo, e4⟩ => ?_
  subst eo e4
  have I5 : Inv X pins σ H4 { s4 with heap := s4.heap.push { cls := .type "slice", data := .fields #[vl, vu, vs] } } := I4.kept (t' := s4.toks) fun b ob q => Heap.get?_push_of_some _ q
  show wpAny (model X.prog X.w) X.A (subscriptTail e (.Slice none none (some (.UnaryOp .USub (.Constant (.int 1) k p1) p2)) p3) (.ref a) (.ref s4.heap.objs.size)) (EP X pins σ Q) X.xe { s4 with heap := s4.heap.push { cls := .type "slice", data := .fields #[vl, vu, vs] } }
  rcases q with ⟨hx, q⟩ | ⟨hx, q⟩
  · obtain ⟨its, r, ht, hz⟩ := I5.list hx
    have hlen := r.length
    refine tail_any (ops := [.ref a, .ref s4.heap.objs.size]) ht.isList.typeIs (PySem.slot_list_getitem.lookup) ?_ (by with_unfolding_all rfl)
    refine wpAny_getItem_list_slice ht.isList (Heap.IsSliceOf.new _ vl vu vs) pl pu ps (by decide) ?_ (by rw [List.size_toArray]; omega)
    rw [PySem.W.krv_pick]
    refine ⟨.ref _, _, I5.laid (t' := s4.toks) (o := .lst xs.reverse) (fun b ob q => Heap.get?_push_of_some _ q) (Nat.le_refl _) ?_, rfl, q _ (I5.hok.fresh (Nat.le_refl _))⟩
    exact ⟨by rw [List.length_reverse]; exact hz, _, 0, r.reverse, Heap.get?_push_size _ rfl⟩
  · obtain ⟨its, r, ht, hz⟩ := I5.tuple hx
    have hlen := r.length
    refine tail_any (ops := [.ref a, .ref s4.heap.objs.size]) ht.typeIs (PyProof.Rows.slot_tuple_getitem.lookup) ?_ (by with_unfolding_all rfl)
    refine HT.iv_getItem_rev ht (Heap.IsSliceOf.new _ vl vu vs) pl pu ps ?_ (by rw [List.size_toArray]; omega)
    refine ⟨.ref _, _, I5.laid (t' := s4.toks) (o := .tup xs.reverse) (fun b ob q => Heap.get?_push_of_some _ q) (Nat.le_refl _) ?_, rfl, q _ (I5.hok.fresh (Nat.le_refl _))⟩
    exact ⟨by rw [List.length_reverse]; exact hz, _, r.reverse, IsTup.new _ _⟩
theorem e_rev (hK : X.K = p.K) {a : Expr} {ma : E} {k : Nat} {p1 p2 p3 pos : Pos} (ha : OkE p X a ma) : OkE p X (.Subscript a (.Slice none none (some (.UnaryOp .USub (.Constant (.int 1) k p1) p2)) p3) pos) (.rev ma) := by
  refine .nv .mk' ⟨fun pins sh σ H Q I h => ?_⟩ (fun i => by intro z; cases z)
  obtain ⟨F, s, d, s', g, hev, q⟩ := h
  simp only [evE] at hev
  obtain ⟨⟨x, s1⟩, h1, h2⟩ := Option.bind_eq_some_iff.mp hev
  simp only [Option.map_eq_some_iff, Prod.mk.injEq] at h2
  obtain ⟨d', h2, rfl, rfl⟩ := h2
  refine (pe_rev ha.pk).run pins sh σ H Q I ⟨F, s, x, _, g, h1, fun v F1 H1 n1 g1 r1 => ?_⟩
  cases x <;> simp only [revD, Option.some.injEq] at h2 <;> try cases h2
  · obtain ⟨b, vs, rfl, e1, e2⟩ := r1.lst g1.ex
    exact ⟨b, vs, rfl, .inl ⟨.inl e1, fun c hc => q _ _ _ (n1.trans (g1.nxtNew hc) (g1.new hc)) (g1.new hc) (.lst (.inl upd_same) (e2.rev.mono (Ex.new (g1.noneF hc))))⟩⟩
  · obtain ⟨b, vs, rfl, e1, e2⟩ := r1.tup g1.ex
    exact ⟨b, vs, rfl, .inr ⟨by rw [hK]; exact e1, fun c hc => q _ _ _ (n1.trans (g1.nxtNew hc) (g1.new hc)) (g1.new hc) (.tup (.of upd_same) (e2.rev.mono (Ex.new (g1.noneF hc))))⟩⟩
/-- list(range(n)) -/
theorem l_lrg (hc : X.calm = true) {a : Expr} {ma : E} {q1 q2 q3 pos : Pos} (hg1 : Gl X "list") (hm1 : X.mg "list" = none) (hg2 : Gl X "range") (hm2 : X.mg "range" = none) (ha : OkE p X a ma) : PE X (.Call (.Name "list" q1) [.Call (.Name "range" q2) [a] [] q3] [] pos) (tL p (.lrg ma)) := by
  refine ⟨fun pins sh σ H Q I h => ?_⟩
  obtain ⟨F, s, d, s', g, hev, q⟩ := h
  simp only [evE] at hev
  obtain ⟨⟨x, s1⟩, h1, hev⟩ := Option.bind_eq_some_iff.mp hev
  cases x <;> simp only at hev <;> try cases hev
  split at hev <;> cases hev
  rename_i j hj
  simp only [Bool.and_eq_true, rngOk, decide_eq_true_eq] at hj
  refine (pe_listRg hc hg1 hm1 (prg_1 hg2 hm2 ha.pe (na := ha.fm.ns [] _))).run pins sh σ H Q I ⟨F, s, _, _, g, h1, fun v F1 H1 n1 g1 r1 => ?_⟩
  cases r1
  refine ⟨j, rfl, ⟨by omega, by omega, hj.1.1, hj.1.2, ?_⟩, fun b hb => ?_⟩
  · have : line = 2 ^ 24 := rfl
    omega
  refine q b F1 _ ⟨n1.ex, fun b u z x y => ?_, n1.new, n1.own, n1.len, fun b z => n1.dom b (upd_none z)⟩ (g1.loose hb) (n1.dom b hb) (g1.noneF hb) ⟨_, upd_same, ?_⟩
  · have := n1.keep b u z x y
    rw [upd_ne (ne_of_none this hb)]; exact this
  · unfold rgV rangeD
    generalize List.range (j - 0).toNat = l
    induction l with
    | nil => exact .nil
    | cons x l ih => exact .cons (.int _) ih
end
end Iv

namespace Iv
open PySem L2 PyProof.Rows
open Evl (Ex)
section
variable {p : Pm} {X : Cx} {k : Nat} {σ σ1 σ2 σb : L2.St} {s s1 s2 sb : S1} {F F1 F2 Fb H H1 H2 Hb : Hp} {vs : List Nat}
/-! ### what a slot owns is changed -/
theorem Good.setOwn (g : Good p F H σ s) {i : Nat} {d d' : D} {a : Addr} {o : HO} (h : s.r[i]? = some (.own d)) (ha : σ[i]? = some (some (.ref a))) (hr : RO p F (upd H a o) a d') :
    Good p F (upd H a o) σ (s.put i (.own d')) ∧ Nxt p σ s F H (s.put i (.own d')) F (upd H a o) := by
  obtain ⟨b, h1, hF, h0, _⟩ := g.own i d h
  rw [ha] at h1; cases h1
  have hil : i < s.r.length := (List.getElem?_eq_some_iff.mp h).1
  have gp : ∀ (j : Nat), (s.put i (.own d')).r[j]? = if i = j then some (.own d') else s.r[j]? := fun j => by
    rw [put_get]
    by_cases hj : i = j
    · subst hj; simp [hil]
    · simp [hj]
  constructor
  · refine ⟨fun b u z => ?_, g.f0, g.fn, fun b u z w => ?_, by rw [g.len]; simp [S1.put], fun j e q => ?_, fun j e q => ?_, fun j l e e' b q1 q2 q3 q4 => ?_, ?_, g.wF, g.w0⟩
    · have : b ≠ a := fun y => by rw [y, hF] at z; cases z
      rw [upd_ne this]; exact g.ex b u z
    · have : b ≠ a := fun y => by rw [y, h0] at z; cases z
      rw [upd_ne this]; exact g.keep b u z w
    · rw [gp] at q
      by_cases hj : i = j
      · rw [if_pos hj] at q; cases q
      · rw [if_neg hj] at q; exact g.val j e q
    · rw [gp] at q
      by_cases hj : i = j
      · rw [if_pos hj] at q; cases q; subst hj; exact ⟨a, ha, hF, h0, hr⟩
      · rw [if_neg hj] at q
        obtain ⟨b, z1, z2, z3, z4⟩ := g.own j e q
        have hb : b ≠ a := fun z => hj (g.dis i j _ e a h q ha (by rw [← z]; exact z1))
        exact ⟨b, z1, z2, z3, z4.mono (fun _ _ z => z) (upd_ne hb)⟩
    · rw [gp] at q1 q2
      by_cases hj : i = j
      · by_cases hl : i = l
        · rw [← hj, ← hl]
        · rw [if_neg hl] at q2
          rw [← hj] at q3; rw [ha] at q3; cases q3
          exact absurd (g.dis i l _ _ a h q2 ha q4) hl
      · rw [if_neg hj] at q1
        by_cases hl : i = l
        · rw [← hl] at q4; rw [ha] at q4; cases q4
          exact absurd (g.dis i j _ _ a h q1 ha q3) hj
        · rw [if_neg hl] at q2
          exact g.dis j l e e' b q1 q2 q3 q4
    · exact g.wrd.ext fun b w => upd_ne fun z => by rw [z] at w; exact g.w0 a w h0
  · refine ⟨fun _ _ z => z, fun b u z x y => ?_, fun _ _ z => .inl z, fun j e q => ?_, by simp [S1.put], fun b z => upd_none z⟩
    · have : b ≠ a := fun y => x ⟨i, d, h, by rw [y]; exact ha⟩
      rw [upd_ne this]; exact z
    · rw [gp] at q
      by_cases hj : i = j
      · subst hj; exact ⟨d, h⟩
      · rw [if_neg hj] at q; exact ⟨e, q⟩
theorem ownL_get {i : Nat} (h : s.ownL i = true) : ∃ zs, s.r[i]? = some (.own (.list zs)) := by
  unfold S1.ownL at h
  split at h
  · rename_i zs hz; exact ⟨zs, hz⟩
  · cases h
theorem ownA_get {i : Nat} (h : s.ownA i = true) : ∃ zs, s.r[i]? = some (.own zs) := by
  unfold S1.ownA at h
  split at h
  · rename_i zs hz; exact ⟨zs, hz⟩
  · cases h
theorem e_pop (hK : X.K = p.K) {a : Expr} {ma : E} {i : Nat} {x : Str} {px apos cpos : Pos} (hx : PE X (.Name x px) (tVar i)) (ha : OkE p X a ma) (hl : (apos.endLine == cpos.line) = true) (hb : attributeBase (.Name x px) "pop" X.env (eval (.Name x px) X.env) = eval (.Name x px) X.env)
    (hs : ((((backTo cpos (starEach [a] X.env)).all fun x => !x.1) && (backToKw cpos (keywordEach [] X.env)).all fun x => x.1.isSome) && decide (([a] : List Expr).length + ([] : List Keyword).length + (if ([] : List Keyword).isEmpty = true then 0 else 1) < 30)) = true) :
    OkE p X (.Call (.Attribute (.Name x px) "pop" apos) [a] [] cpos) (.pop i ma) := by
  refine .nv .mk' ⟨fun pins sh σ H Q I h => ?_⟩ (fun i => by intro z; cases z)
  obtain ⟨F, s, d, s', g, hev, q⟩ := h
  simp only [evE] at hev
  split at hev
  case isFalse => cases hev
  rename_i ho
  obtain ⟨⟨y, s1⟩, h1, hev⟩ := Option.bind_eq_some_iff.mp hev
  simp only at hev
  split at hev
  case h_2 => cases hev
  rename_i kk xs hown
  split at hev
  case isFalse => cases hev
  rename_i hk
  split at hev
  case h_2 => cases hev
  rename_i j hj
  split at hev <;> cases hev
  rename_i hdj
  refine (pe_bm PySem.F.plainAttrs_list PySem.F.slot_list_pop PySem.F.type_list_pop (mt_popAt : MtM X "list.pop" rPopAt) hx (pa1 ha.fm ha.pe) hb hs hl (ha.fm.ns [] _) rfl).run pins sh σ H Q I ?_
  obtain ⟨zs, hz⟩ := ownL_get ho
  obtain ⟨a, ha1, _, _, ws, hw, hwr⟩ := g.own i _ hz
  refine ⟨_, ha1, .inl ⟨rfl, ws, SqL.of hw⟩, F, s, _, _, g, h1, fun v F1 H1 n1 g1 r1 => ?_⟩
  cases r1
  obtain ⟨a', ha2, hF1, h01, us, hu, hur⟩ := g1.own i _ hown
  rw [ha1] at ha2; cases ha2
  obtain ⟨v, hv, rv⟩ := hur.get hdj
  obtain ⟨g2, n2⟩ := g1.setOwn (d' := .list (xs.eraseIdx j)) (o := .lst (us.eraseIdx j)) hown ha1 ⟨_, upd_same, hur.erase j⟩
  exact ⟨a, us, kk, j, v, rfl, rfl, hu, hk.1, hk.2, (ixN_seq (by rw [hur.length]; exact hj)).1, hv, q v F1 _ (n1.trans n2 g2) g2 rv⟩
end
end Iv

namespace Iv
open PySem L2 PyProof.Rows
open Evl (Ex)
section
variable {p : Pm} {X : Cx} {k : Nat} {σ σ1 σ2 σb : L2.St} {s s1 s2 sb : S1} {F F1 F2 Fb H H1 H2 Hb : Hp} {vs : List Nat}
/-! ### {k: v for ..} -/
structure Ld (p : Pm) (σb : L2.St) (sb : S1) (Fb Hb : Hp) (F1 : Hp) (D : Addr) (σ : L2.St) (s : S1) (F H : Hp) (acc : List (Key × V)) (ad : List (PySem.PyData × PySem.PyData)) : Prop where
  g : Good p F H σ s
  n : Nxt p σb sb Fb Hb s F H
  o : ∀ x, Owned σ s x → Owned σb sb x
  e : Ex F1 F
  hD : H D = some (.dK acc)
  hF : F D = none
  h0 : p.H0 D = none
  no : ¬ Owned σ s D
  r : RK p.K p.wa.s F acc ad
theorem putD_len (k v : D) (l : List (D × D)) : (putD k v l).length ≤ l.length + 1 := by
  unfold putD
  split <;> simp
theorem dc_turns {g : TG} {t : Tg} {c ek ev : E} {J : L2.It} {xs : List PySem.PyData} {ds ad0 : List (PySem.PyData × PySem.PyData)} {D : Addr} {acc0 : List (Key × V)} {F0 : Hp} (y : YlB p (fun H => ∀ a o, Hb a = some o → ¬ Owned σb sb a → ¬ InW p.wa a → H a = some o) F0 J xs) (hgo : dcGo vs t (evE p.Φ c) (evE p.Φ ek) (evE p.Φ ev) xs s1 ad0 = some (ds, s2)) (hb : Hb D = none)
    (L : Ld p σb sb Fb Hb F0 D (wipe σ vs) (s1.wp vs) F1 H1 acc0 ad0) (h00 : ad0 = []) (hlen : xs.length ≤ line) (hg : TgOk p t g) (ht : tgIn vs t = true)
    (Fin : Hp → Prop) (hfin : ∀ F H acc, Ld p σb sb Fb Hb F0 D (wipe σ vs) (s2.wp vs) F H acc ds → Fin H) :
    ∃ W : Nat → Nat → Hp → Prop, (∃ m, W 0 m H1) ∧ ∀ i m H, W i m H → (J.stop i H ∧ Fin H) ∨ (J.go i H ∧ ∃ Nx : Hp → Prop, (∀ H', Nx H' → ∃ m', m' < m ∧ W (i + 1) m' H') ∧
      ∀ x H', J.yld i H x H' → g x (wipe σ vs) H' fun σ2 H2 => wipe σ2 vs = wipe σ vs ∧ tB1 p c σ2 H2 fun b H3 => if b = true then tE p ek σ2 H3 fun y H4 => tE p ev σ2 H4 fun z H5 => ∃ kvs k, y = kV k ∧ H5 D = some (.dK kvs) ∧ kvs.length < sizeLine ∧ Nx (upd H5 D (.dK (putK kvs k z))) else Nx H3) := by
  refine ⟨fun i m H => m = xs.length - i ∧ i ≤ xs.length ∧ ∃ F s acc ad, Ld p σb sb Fb Hb F0 D (wipe σ vs) (s.wp vs) F H acc ad ∧ dcGo vs t (evE p.Φ c) (evE p.Φ ek) (evE p.Φ ev) (xs.drop i) s ad = some (ds, s2) ∧ ad.length ≤ i, ⟨_, rfl, Nat.zero_le _, F1, s1, acc0, ad0, L, by simpa using hgo, by rw [h00]; exact Nat.le_refl _⟩, ?_⟩
  rintro i m H ⟨hm, hi, F, s, acc, ad, L, hgo, hds⟩
  by_cases hie : i = xs.length
  · refine .inl ⟨y.stop i H (L.e.trans L.g.ex) L.n.keep hie, ?_⟩
    subst hie
    simp only [List.drop_length, dcGo, Option.some.injEq, Prod.mk.injEq] at hgo
    obtain ⟨rfl, rfl⟩ := hgo
    exact hfin F H acc L
  have hlt : i < xs.length := by omega
  refine .inr ⟨y.go i H (L.e.trans L.g.ex) L.n.keep hlt, fun H' => ∃ F s acc ad, Ld p σb sb Fb Hb F0 D (wipe σ vs) (s.wp vs) F H' acc ad ∧ dcGo vs t (evE p.Φ c) (evE p.Φ ek) (evE p.Φ ev) (xs.drop (i + 1)) s ad = some (ds, s2) ∧ ad.length ≤ i + 1, fun H' h => ⟨xs.length - (i + 1), by omega, rfl, by omega, h⟩, fun x H' hy => ?_⟩
  have hx : xs[i]? = some xs[i] := List.getElem?_eq_getElem hlt
  rw [List.drop_eq_getElem_cons hlt] at hgo
  simp only [dcGo] at hgo
  split at hgo
  · cases hgo
  rename_i r1 hr1
  obtain ⟨F', g', n', r'⟩ := ext_yld y L.g L.e L.n.keep hy hx
  refine hg.run _ F' H' (s.wp vs) x _ r1 _ g' r' hr1 fun σ2 g2 c2 => ?_
  have hv : ∀ i, (∀ vs, tgIn vs t = true → i ∈ vs) → i ∈ vs := fun i h => h vs ht
  have hw : L2.wipe σ2 vs = L2.wipe σ vs := by
    have := c2.wipe (vs := vs) g'.len g2.len hv
    rw [this]
    exact wipe_wipe fun _ z => z
  refine ⟨hw, ?_⟩
  have hDn : ∀ {u}, H D = some u → H' D = some u := fun h => n'.keep D _ h L.no (fun w => L.g.w0 D w L.h0)
  simp only [asB] at hgo
  split at hgo
  case h_3 => cases hgo
  · rename_i s3 hc
    split at hc <;> cases hc
    rename_i hc
    refine ⟨F', _, true, s3, g2, hc, fun F3 H3 n3 g3 => ?_⟩
    simp only [↓reduceIte]
    split at hgo
    case h_2 => cases hgo
    rename_i kd s4 hek
    split at hgo
    case h_2 => cases hgo
    rename_i vd s5 kd' hev hkd
    refine ⟨F3, s3, kd, s4, g3, hek, fun v F4 H4 n4 g4 r4 => ?_⟩
    refine ⟨F4, s4, vd, s5, g4, hev, fun z F5 H5 n5 g5 r5 => ?_⟩
    obtain ⟨rfl, kk, rfl⟩ := keyOf_some hkd
    have ez := R_key r4
    have n35 := n3.trans (n4.trans n5 g5) g5
    have nt := Nxt.turn c2 hv n35
    have nn := n'.trans nt (s2 := s5.wp vs) (F2 := F5) (H2 := H5) (by rw [← hw]; exact g5.wipeG vs)
    have hD4 : H5 D = some (.dK acc) := n35.keep D _ (hDn L.hD) (fun z => L.no (wipe_ow c2 z)) (fun w => L.g.w0 D w L.h0)
    have hF4 : F5 D = none := by
      cases hf : F5 D with
      | none => rfl
      | some u =>
        rcases nn.new D u hf with z | z | z
        · rw [L.hF] at z; cases z
        · rw [L.hD] at z; cases z
        · exact absurd z L.no
    refine ⟨acc, kk, ez, hD4, ?_, F5, s5, putK acc kk z, putD (keyD kk) vd ad, ?_, hgo, Nat.le_trans (putD_len _ _ _) (by omega)⟩
    · rw [L.r.length]
      show _ < sizeLine
      rw [sizeLine_eq]
      have hl : line = 16777216 := rfl
      omega
    · have gw : Good p F5 H5 (L2.wipe σ vs) (s5.wp vs) := by rw [← hw]; exact g5.wipeG vs
      have now : ¬ Owned (L2.wipe σ vs) (s5.wp vs) D := fun z => L.no (nn.ownd z)
      refine ⟨gw.touch hD4 hF4 L.h0 now, ?_, fun x h => L.o x (nn.ownd h), L.e.trans nn.ex, upd_same, hF4, L.h0, now, (L.r.mono nn.ex).put r5 kk⟩
      refine Nxt.touch ?_ hb
      exact L.n.trans' L.o nn gw.wF
  · rename_i s3 hc
    split at hc <;> cases hc
    rename_i hc
    refine ⟨F', _, false, s3, g2, hc, fun F3 H3 n3 g3 => ?_⟩
    simp only [Bool.false_eq_true, ↓reduceIte]
    have nt := Nxt.turn c2 hv n3
    have gw : Good p F3 H3 (L2.wipe σ vs) (s3.wp vs) := by rw [← hw]; exact g3.wipeG vs
    have nn := n'.trans nt gw
    have hD3 : H3 D = some (.dK acc) := n3.keep D _ (hDn L.hD) (fun z => L.no (wipe_ow c2 z)) (fun w => L.g.w0 D w L.h0)
    have hF3 : F3 D = none := by
      cases hf : F3 D with
      | none => rfl
      | some u =>
        rcases nn.new D u hf with z | z | z
        · rw [L.hF] at z; cases z
        · rw [L.hD] at z; cases z
        · exact absurd z L.no
    exact ⟨F3, s3, acc, ad, ⟨gw, L.n.trans' L.o nn gw.wF, fun x h => L.o x (nn.ownd h), L.e.trans nn.ex, hD3, hF3, L.h0, fun z => L.no (nn.ownd z), L.r.mono nn.ex⟩, hgo, by omega⟩
theorem dc_start (g : Good p F1 H1 σ s1) {D : Addr} (hD : H1 D = none) : Ld p (L2.wipe σ vs) (s1.wp vs) F1 H1 F1 D (L2.wipe σ vs) (s1.wp vs) F1 (upd H1 D (.dK [])) [] [] where
  g := (g.wipeG vs).loose hD
  n := ⟨fun _ _ z => z, fun b u e _ _ => by rw [upd_ne (ne_of_none e hD)]; exact e, fun _ _ z => .inl z, fun _ d z => ⟨d, z⟩, rfl, fun b e => upd_none e⟩
  o := fun _ z => z
  e := fun _ _ z => z
  hD := upd_same
  hF := g.noneF hD
  h0 := g.none0 hD
  no := (g.wipeG vs).noneO hD
  r := .nil
theorem l_dc {kx vx tg iter : Expr} {ifs : List Expr} {scope : Scope} {own : List (Str × Nat)} {pos : Pos} {t : Tg} {it : Iv.It} {c ek ev : E} (hc : X.calm = true) (hn : X.N.Nodup) (hi : OkI p X tg iter it) (bo : BlkOk X.N X.env.scope scope own)
    (hg : ∀ (s : Shared) (H : Hp) (C : Addr) (cl : List (Str × Addr)) (fp : List Addr), PG (X.blk s H scope (compEnvC scope cl C X.env) fp) tg (gT p.K t))
    (ht : ∀ (s : Shared) (H : Hp) (C : Addr) (cl : List (Str × Addr)) (fp : List Addr), PTs (X.blk s H scope (compEnvC scope cl C X.env) fp) ifs (tB1 p c))
    (hk : ∀ (s : Shared) (H : Hp) (C : Addr) (cl : List (Str × Addr)) (fp : List Addr), PE (X.blk s H scope (compEnvC scope cl C X.env) fp) kx (tE p ek))
    (he : ∀ (s : Shared) (H : Hp) (C : Addr) (cl : List (Str × Addr)) (fp : List Addr), PE (X.blk s H scope (compEnvC scope cl C X.env) fp) vx (tE p ev))
    (hf : ∀ (x : Value), foldedSetIterable iter X.env x = pure x) (hv : own.map (·.2) = vs) (tv : tgIn vs t = true) :
    PE X (.DictComp kx vx [{ target := tg, iter := iter, ifs := ifs, is_async := 0 }] scope pos) (tL p (.dc vs t it c ek ev)) := by
  refine ⟨fun pins sh σ H Q I hh => ?_⟩
  obtain ⟨F, s, d, s', g, hev, q⟩ := hh
  simp only [evE] at hev
  split at hev
  · cases hev
  rename_i xs s1 hit
  split at hev
  case isFalse => cases hev
  rename_i hno
  simp only [Bool.and_eq_true, decide_eq_true_eq] at hno
  split at hev <;> cases hev
  rename_i ds s2 hgo
  have hpe := pe_dc hc hn hi bo hg ht hk he (pos := pos) hf
  rw [hv] at hpe
  refine hpe.run pins sh σ H Q I ⟨F, s, xs, s1, g, hit, fun J F1 H1 n1 g1 y => ?_⟩
  intro D hD
  refine dc_turns (σb := L2.wipe σ vs) (sb := s1.wp vs) (Fb := F1) (Hb := H1) y.b hgo hD (dc_start g1 hD) rfl hno.2 (gT_ok t) tv (fun H => Q (.ref D) H) fun F' H' acc L => ?_
  have g2 := g1.back hno.1 L.g L.e
  have n2 := L.n.back hno.1
  exact q D F' H' (n1.trans n2 g2) g2 (n1.dom D hD) L.hF ⟨acc, L.hD, L.r⟩

/-! ### {k: v, ..} -/
def trsOf (p : Pm) : Ps → List (TE × TE)
  | .nil => []
  | .cons k v ps => (tE p k, tE p v) :: trsOf p ps
def Ps.len : Ps → Nat
  | .nil => 0
  | .cons _ _ ps => ps.len + 1
theorem pairs_ok : ∀ (ps : Ps) {s s' : S1} {F H : Hp} {acc : List (D × D)} {d : D}, evDisp p.Φ ps s acc = some (d, s') → Good p F H σ s → ∀ Q : List (V × V) → Hp → Prop,
    (∀ (kvs : List (Key × V)) F' H', Nxt p σ s F H s' F' H' → Good p F' H' σ s' → kvs.length = ps.len → (∀ accK, RK p.K p.wa.s F accK acc → ∃ dd, d = .dict dd ∧ RK p.K p.wa.s F' (mergeK accK kvs) dd) → Q (kvs.map fun kv => (kV kv.1, kv.2)) H') → tPairs (trsOf p ps) σ H Q
  | .nil, s, s', F, H, acc, d, hev, g, Q, q => by
    simp only [evDisp, Option.some.injEq, Prod.mk.injEq] at hev
    obtain ⟨rfl, rfl⟩ := hev
    exact q [] F H .refl g rfl fun accK h => ⟨_, rfl, h⟩
  | .cons ek ev ps, s, s', F, H, acc, d, hev, g, Q, q => by
    simp only [evDisp] at hev
    obtain ⟨⟨kd, s1⟩, h1, hevA⟩ := Option.bind_eq_some_iff.mp hev
    obtain ⟨⟨vd, s2⟩, h2, hevB⟩ := Option.bind_eq_some_iff.mp hevA
    obtain ⟨kd', h3, hevC⟩ := Option.bind_eq_some_iff.mp hevB
    clear hev hevA hevB
    obtain ⟨rfl, kk, rfl⟩ := keyOf_some h3
    refine ⟨F, s, _, s1, g, h1, fun v F1 H1 n1 g1 r1 => ⟨F1, s1, _, s2, g1, h2, fun z F2 H2 n2 g2 r2 => ?_⟩⟩
    obtain rfl := R_key r1
    refine pairs_ok ps hevC g2 _ fun kvs F3 H3 n3 g3 hl h3 => ?_
    refine q ((kk, z) :: kvs) F3 H3 (n1.trans (n2.trans n3 g3) g3) g3 (by simp [Ps.len, hl]) fun accK hk => ?_
    exact h3 (putK accK kk z) ((hk.mono (n1.ex.trans n2.ex)).put r2 kk)
theorem evDisp_dict : ∀ (ps : Ps) {s s' : S1} {acc : List (D × D)} {d : D}, evDisp p.Φ ps s acc = some (d, s') → ∃ dd, d = .dict dd
  | .nil, s, s', acc, d, hev => by
    simp only [evDisp, Option.some.injEq, Prod.mk.injEq] at hev
    exact ⟨_, hev.1.symm⟩
  | .cons ek ev ps, s, s', acc, d, hev => by
    simp only [evDisp] at hev
    obtain ⟨⟨kd, s1⟩, h1, hev⟩ := Option.bind_eq_some_iff.mp hev
    obtain ⟨⟨vd, s2⟩, h2, hev⟩ := Option.bind_eq_some_iff.mp hev
    obtain ⟨kd', h3, hev⟩ := Option.bind_eq_some_iff.mp hev
    exact evDisp_dict ps hev
theorem l_disp {keys : List (Option Expr)} {values : List Expr} {ps : Ps} {pos : Pos} (h : PPs X pos keys values (trsOf p ps)) (hk : (keys.all fun x => x.isSome) = true) (hl : keys.length = values.length) (hn : keys ≠ []) (h15 : ps.len ≤ 15) (h15' : keys.length ≤ 15) : PE X (.Dict keys values pos) (tL p (.disp ps)) := by
  refine ⟨fun pins sh σ H Q I hh => ?_⟩
  obtain ⟨F, s, d, s', g, hev, q⟩ := hh
  simp only [evE] at hev
  refine (pe_disp h hk hl hn h15').run pins sh σ H Q I fun a ha => ?_
  refine pairs_ok ps hev (g.loose (o := .dK []) ha) _ fun kvs F' H' n' g' hl2 hr => ?_
  obtain ⟨dd, rfl, hr2⟩ := hr [] .nil
  have hno : ¬ Owned σ s a := g.noneO ha
  have hHa : H' a = some (.dK []) := n'.keep a _ upd_same hno (g.noneW ha)
  have hFa : F' a = none := by
    cases hf : F' a with
    | none => rfl
    | some u =>
      rcases n'.new a u hf with z | z | z
      · rw [g.noneF ha] at z; cases z
      · rw [upd_same] at z; cases z
      · exact absurd z hno
  have no' : ¬ Owned σ s' a := fun z => hno (n'.ownd z)
  refine ⟨hHa, kvs, rfl, by omega, ?_⟩
  have nH : Nxt p σ s F H s' F' H' := ⟨n'.ex, fun b u z x y => n'.keep b u (by rw [upd_ne (ne_of_none z ha)]; exact z) x y, fun b u z => by
    rcases n'.new b u z with w | w | w
    · exact .inl w
    · exact .inr (.inl (upd_none w))
    · exact .inr (.inr w), n'.own, n'.len, fun b z => upd_none (n'.dom b z)⟩
  exact q a F' _ (nH.touch ha) (g'.touch hHa hFa (g.none0 ha) no') ha hFa ⟨_, upd_same, hr2⟩
theorem l_dnew {pos : Pos} : PE X (.Dict [] [] pos) (tL p (.disp .nil)) := by
  refine ⟨fun pins sh σ H Q I hh => ?_⟩
  obtain ⟨F, s, d, s', g, hev, q⟩ := hh
  simp only [evE, evDisp, Option.some.injEq, Prod.mk.injEq] at hev
  obtain ⟨rfl, rfl⟩ := hev
  refine (pe_dnewK).run pins sh σ H Q I fun a ha => ?_
  exact q a F _ (Nxt.touch .refl ha) (g.loose ha) ha (g.noneF ha) ⟨_, upd_same, .nil⟩

end
end Iv

namespace Iv
open PySem L2 PyProof.Rows
open Evl (Ex)
section
variable {p : Pm} {X : Cx} {k : Nat}
theorem OkE.ofL {a : Expr} {m : E} (fm : Frm a) (h : PE X a (tL p m)) (hm : ∀ i, m ≠ .var i) : OkE p X a m := .nv fm (tL_tE h) hm
/-! ### what one goes through -/
theorem i_sq (hK : X.K = p.K) {tg a : Expr} {m : E} (ha : OkE p X a m) : OkI p X tg a (.sq m) := by
  refine ⟨fun pins sh σ H Rr I h => ?_⟩
  obtain ⟨F, s, xs, s', g, hev, q⟩ := h
  simp only [evIt] at hev
  obtain ⟨⟨x, s1⟩, h1, h2⟩ := Option.bind_eq_some_iff.mp hev
  simp only [Option.map_eq_some_iff, Prod.mk.injEq] at h2
  obtain ⟨xs', h2, rfl, rfl⟩ := h2
  cases x <;> simp only [itemsOf, Option.some.injEq] at h2 <;> try cases h2
  · refine (pi_list ha.pe).run pins sh σ H Rr I ⟨F, s, _, _, g, h1, fun v F1 H1 n1 g1 r1 => ?_⟩
    obtain ⟨b, vs, rfl, e1, e2⟩ := (show RP p F1 H1 v _ from .inl r1).lst g1.ex
    cases r1 with
    | lst e1 e2 => exact ⟨_, rfl, ⟨_, .inl (Evl.ex_rd g1.ex e1)⟩, q _ F1 H1 n1 g1 (by rw [hK]; exact yl_list e1 e2)⟩
  · refine (pi_tup ha.pe).run pins sh σ H Rr I ⟨F, s, _, _, g, h1, fun v F1 H1 n1 g1 r1 => ?_⟩
    cases r1 with
    | tup e1 e2 => exact ⟨_, rfl, ⟨_, by rw [hK]; exact Evl.ex_t g1.ex e1⟩, q _ F1 H1 n1 g1 (by rw [hK]; exact yl_tup e1 e2)⟩
theorem i_rg1 {tg a : Expr} {m : E} {q1 q2 : Pos} (hg : Gl X "range") (hm : X.mg "range" = none) (ha : OkE p X a m) : OkI p X tg (.Call (.Name "range" q1) [a] [] q2) (.rg1 m) := by
  refine ⟨fun pins sh σ H Rr I h => ?_⟩
  obtain ⟨F, s, xs, s', g, hev, q⟩ := h
  simp only [evIt] at hev
  obtain ⟨⟨x, s1⟩, h1, hev⟩ := Option.bind_eq_some_iff.mp hev
  cases x <;> simp only at hev <;> try cases hev
  split at hev <;> cases hev
  rename_i j hj
  simp only [Bool.and_eq_true, rngOk, decide_eq_true_eq] at hj
  refine (pi_range1 hg hm (pa1 ha.fm ha.pe) (ha.fm.ns [] _)).run pins sh σ H Rr I ⟨F, s, _, _, g, h1, fun v F1 H1 n1 g1 r1 => ?_⟩
  cases r1
  exact ⟨j, rfl, hj.1, hj.2, q _ F1 H1 n1 g1 (yl_range (by rw [Int.sub_zero]))⟩
theorem i_rg2 {tg a b : Expr} {m mb : E} {q1 q2 : Pos} (hg : Gl X "range") (hm : X.mg "range" = none) (ha : OkE p X a m) (hb : OkE p X b mb) : OkI p X tg (.Call (.Name "range" q1) [a, b] [] q2) (.rg2 m mb) := by
  refine ⟨fun pins sh σ H Rr I h => ?_⟩
  obtain ⟨F, s, xs, s', g, hev, q⟩ := h
  simp only [evIt] at hev
  obtain ⟨⟨x, s1⟩, h1, hevA⟩ := Option.bind_eq_some_iff.mp hev
  obtain ⟨⟨y, s2⟩, h2, hevB⟩ := Option.bind_eq_some_iff.mp hevA
  clear hev hevA
  cases x <;> cases y <;> simp only at hevB <;> try cases hevB
  split at hevB <;> cases hevB
  rename_i i j hj
  simp only [Bool.and_eq_true, rngOk, decide_eq_true_eq] at hj
  refine (pi_range2 hg hm (pa_cons ha.pe (pa1 hb.fm hb.pe) (hs := ha.fm.ns _ _)) (by rw [ha.fm.ns, hb.fm.ns]; rfl) (hb.fm.ns [] _)).run pins sh σ H Rr I ⟨F, s, _, _, g, h1, fun v F1 H1 n1 g1 r1 => ⟨F1, s1, _, _, g1, h2, fun u F2 H2 n2 g2 r2 => ?_⟩⟩
  cases r1
  cases r2
  exact ⟨i, j, rfl, ⟨hj.1.1, hj.1.2, hj.2.1, hj.2.2⟩, q _ F2 H2 (n1.trans n2 g2) g2 (yl_range rfl)⟩
theorem i_en (hK : X.K = p.K) {a : Expr} {m : E} {q1 q2 tpos : Pos} {elts : List Expr} {kk : Nat} (hg : Gl X "enumerate") (hm : X.mg "enumerate" = none) (ha : OkE p X a m) : OkI p X (.Tuple elts kk tpos) (.Call (.Name "enumerate" q1) [a] [] q2) (.en m) := by
  refine ⟨fun pins sh σ H Rr I h => ?_⟩
  obtain ⟨F, s, xs, s', g, hev, q⟩ := h
  simp only [evIt] at hev
  obtain ⟨⟨x, s1⟩, h1, h2⟩ := Option.bind_eq_some_iff.mp hev
  simp only [Option.map_eq_some_iff, Prod.mk.injEq] at h2
  obtain ⟨xs', h2, rfl, rfl⟩ := h2
  refine (pi_en hg hm (pa1 ha.fm ha.pe) (ha.fm.ns [] _)).run pins sh σ H Rr I ⟨F, s, _, _, g, h1, fun v F1 H1 n1 g1 r1 => ?_⟩
  obtain ⟨kd, b, vs, rfl, e1, e2⟩ := r1.src h2
  exact ⟨kd, b, vs, rfl, by rw [hK]; exact e1 _ g1.ex, q _ F1 H1 n1 g1 (by rw [hK]; exact yl_en e1 e2)⟩
theorem i_zp (hK : X.K = p.K) {a b : Expr} {m mb : E} {q1 q2 tpos : Pos} {elts : List Expr} {kk : Nat} (hg : Gl X "zip") (hm : X.mg "zip" = none) (ha : OkE p X a m) (hb : OkE p X b mb) : OkI p X (.Tuple elts kk tpos) (.Call (.Name "zip" q1) [a, b] [] q2) (.zp m mb) := by
  refine ⟨fun pins sh σ H Rr I h => ?_⟩
  obtain ⟨F, s, xs, s', g, hev, q⟩ := h
  simp only [evIt] at hev
  obtain ⟨⟨x, s1⟩, h1, hevA⟩ := Option.bind_eq_some_iff.mp hev
  obtain ⟨⟨y, s2⟩, h2, hevB⟩ := Option.bind_eq_some_iff.mp hevA
  clear hev hevA
  simp only at hevB
  split at hevB <;> cases hevB
  rename_i xs ys hx hy
  refine (pi_zp hg hm (pa_cons ha.pe (pa1 hb.fm hb.pe) (hs := ha.fm.ns _ _)) (ha.fm.ns [b] _) (by rw [hb.fm.ns]; rfl)).run pins sh σ H Rr I ⟨F, s, _, _, g, h1, fun v F1 H1 n1 g1 r1 => ⟨F1, s1, _, _, g1, h2, fun u F2 H2 n2 g2 r2 => ?_⟩⟩
  obtain ⟨kd, b, vs, rfl, e1, e2⟩ := r1.src hx
  obtain ⟨ke, c, us, rfl, e3, e4⟩ := r2.src hy
  refine ⟨kd, ke, b, c, vs, us, rfl, by rw [hK]; exact e1 _ (n2.ex.trans g2.ex), by rw [hK]; exact e3 _ g2.ex, q _ F2 H2 (n1.trans n2 g2) g2 (by rw [hK]; exact yl_zp (fun H e => e1 H (n2.ex.trans e)) (e2.mono n2.ex) e3 e4)⟩
/-! ### built-in functions by their names -/
def bfNm : Bf → String
  | .len => "len" | .abs => "abs" | .sum => "sum" | .all => "all" | .any => "any" | .maxL => "max" | .minL => "min" | .sorted => "sorted"
  | .tuple => "tuple" | .list => "list" | .int => "int" | .dict => "dict"
def bfLoose : Bf → Bool
  | .sorted => true | .list => true | .dict => true | _ => false
theorem bf_pe (hK : X.K = p.K) (hc : X.calm = true) (hr : Room k X.A) (b : Bf) {a : Expr} {x : Str} {q pos : Pos} (hx : x = Str.ofString (bfNm b)) (hg : Gl X x) (hm : X.mg x = none) (fm : Frm a) (t : TA) (h : PA X [a] t) : PE X (.Call (.Name x q) [a] [] pos) (tCB (rF p (bf1 b)) t) := by
  have n1 := fm.ns [] X.env
  subst hx
  cases b
  · exact pe_callB (ok_len hK) hg hm (by decide +kernel) h (by decide +kernel) (by decide +kernel) n1 rfl
  · exact pe_callB ok_abs hg hm (by decide +kernel) h (by decide +kernel) (by decide +kernel) n1 rfl
  · exact pe_callB (ok_sum hc) hg hm (by decide +kernel) h (by decide +kernel) (by decide +kernel) n1 rfl
  · exact pe_callB (ok_all hc) hg hm (by decide +kernel) h (by decide +kernel) (by decide +kernel) n1 rfl
  · exact pe_callB (ok_any hc) hg hm (by decide +kernel) h (by decide +kernel) (by decide +kernel) n1 rfl
  · exact pe_callB (ok_maxL hc) hg hm (by decide +kernel) h (by decide +kernel) (by decide +kernel) n1 rfl
  · exact pe_callB (ok_minL hc) hg hm (by decide +kernel) h (by decide +kernel) (by decide +kernel) n1 rfl
  · exact pe_callB (ok_loose (ok_sortedL hK hr)) hg hm (by decide +kernel) h (by decide +kernel) (by decide +kernel) n1 rfl
  · exact pe_callTy (ok_tuple hK) hg hm (by decide +kernel) h (by decide +kernel) (by decide +kernel) n1 rfl
  · exact pe_callTy (ok_loose (ok_listL hK hc)) hg hm (by decide +kernel) h (by decide +kernel) (by decide +kernel) n1 rfl
  · exact pe_callTy ok_int hg hm (by decide +kernel) h (by decide +kernel) (by decide +kernel) n1 rfl
  · exact pe_callTy (ok_loose (ok_dictL hK hc)) hg hm (by decide +kernel) h (by decide +kernel) (by decide +kernel) n1 rfl
theorem bf_peL (hK : X.K = p.K) (hc : X.calm = true) (hr : Room k X.A) (b : Bf) (hb : bfLoose b = true) {a : Expr} {x : Str} {q pos : Pos} (hx : x = Str.ofString (bfNm b)) (hg : Gl X x) (hm : X.mg x = none) (fm : Frm a) (t : TA) (h : PA X [a] t) : PE X (.Call (.Name x q) [a] [] pos) (tCB (rFL p (bf1 b)) t) := by
  have n1 := fm.ns [] X.env
  subst hx
  cases b <;> try cases hb
  · exact pe_callB (ok_sortedL hK hr) hg hm (by decide +kernel) h (by decide +kernel) (by decide +kernel) n1 rfl
  · exact pe_callTy (ok_listL hK hc) hg hm (by decide +kernel) h (by decide +kernel) (by decide +kernel) n1 rfl
  · exact pe_callTy (ok_dictL hK hc) hg hm (by decide +kernel) h (by decide +kernel) (by decide +kernel) n1 rfl
theorem e_bf (hK : X.K = p.K) (hc : X.calm = true) (hr : Room k X.A) {b : Bf} {a : Expr} {m : E} {x : Str} {q pos : Pos} (hx : x = Str.ofString (bfNm b)) (hg : Gl X x) (hm : X.mg x = none) (ha : OkE p X a m) : OkE p X (.Call (.Name x q) [a] [] pos) (.bf b m) :=
  bf_run ha .mk' fun t h => bf_pe hK hc hr b hx hg hm ha.fm t h
theorem l_bf (hK : X.K = p.K) (hc : X.calm = true) (hr : Room k X.A) {b : Bf} (hb : bfLoose b = true) {a : Expr} {m : E} {x : Str} {q pos : Pos} (hx : x = Str.ofString (bfNm b)) (hg : Gl X x) (hm : X.mg x = none) (ha : OkE p X a m) : PE X (.Call (.Name x q) [a] [] pos) (tL p (.bf b m)) :=
  bf_runL ha fun t h => bf_peL hK hc hr b hb hx hg hm ha.fm t h
end
end Iv

namespace Iv
open PySem L2 PyProof.Rows
open Evl (Ex)
/-! ### statements -/
def EndIs (p : Pm) (F : Hp) (De : Ends) (s' : S1) : Out → Prop
  | .nx => ∀ σ' F' H', Ex F F' → Good p F' H' σ' s' → De.nx σ' H'
  | .brk => ∀ σ' F' H', Ex F F' → Good p F' H' σ' s' → De.bk σ' H'
  | .cont => ∀ σ' F' H', Ex F F' → Good p F' H' σ' s' → De.ct σ' H'
  | .ret d => ∀ σ' F' H' v, Ex F F' → Good p F' H' σ' s' → R p.K p.wa.s F' v d → De.rt v H'
def tS (p : Pm) (m : S1 → RS) : TS := fun De σ H => ∃ F s o s', Good p F H σ s ∧ m s = some (o, s') ∧ EndIs p F De s' o
abbrev OkS (p : Pm) (X : Cx) (st : Stmt) (m : St) : Prop := PS X st (tS p (evS p.Φ p.fu m))
abbrev OkSs (p : Pm) (X : Cx) (st : List Stmt) (m : List St) : Prop := PSs X st (tS p (evSs p.Φ p.fu m))
section
variable {p : Pm} {X : Cx} {k : Nat} {σ σ' : L2.St} {s s1 s2 s' : S1} {F F1 F2 F' H H1 H2 H' : Hp}
theorem EndIs.mono {De : Ends} {o : Out} (e : Ex F F1) (h : EndIs p F De s' o) : EndIs p F1 De s' o := by
  cases o with
  | nx => exact fun σ' F' H' x => h σ' F' H' (e.trans x)
  | brk => exact fun σ' F' H' x => h σ' F' H' (e.trans x)
  | cont => exact fun σ' F' H' x => h σ' F' H' (e.trans x)
  | ret d => exact fun σ' F' H' v x => h σ' F' H' v (e.trans x)
theorem PS.imp {st : Stmt} {t u : TS} (h : PS X st t) (hi : ∀ De σ H, u De σ H → t De σ H) : PS X st u := ⟨fun pins s σ H De I hw => h.run pins s σ H De I (hi De σ H hw)⟩
theorem PSs.imp {st : List Stmt} {t u : TS} (h : PSs X st t) (hi : ∀ De σ H, u De σ H → t De σ H) : PSs X st u := ⟨fun pins s σ H De I hw => h.run pins s σ H De I (hi De σ H hw)⟩
theorem PE.imp {e : Expr} {t u : TE} (h : PE X e t) (hi : ∀ σ H Q, u σ H Q → t σ H Q) : PE X e u := ⟨fun pins s σ H Q I hw => h.run pins s σ H Q I (hi σ H Q hw)⟩
theorem ss_nil : OkSs p X [] [] := PSs.imp pss_nil fun De σ H ⟨F, s, o, s', g, hev, q⟩ => by
  simp only [evSs, Option.some.injEq, Prod.mk.injEq] at hev
  obtain ⟨rfl, rfl⟩ := hev
  exact q σ F H (fun _ _ z => z) g
theorem ss_cons {st : Stmt} {rest : List Stmt} {m : St} {ms : List St} (h1 : OkS p X st m) (h2 : OkSs p X rest ms) : OkSs p X (st :: rest) (m :: ms) := PSs.imp (pss_cons h1 h2) fun De σ H ⟨F, s, o, s', g, hev, q⟩ => by
  simp only [evSs] at hev
  cases hm : evS p.Φ p.fu m s with
  | none => rw [hm] at hev; simp only at hev; cases hev
  | some r =>
    obtain ⟨o1, s1⟩ := r
    rw [hm] at hev
    refine ⟨F, s, o1, s1, g, hm, ?_⟩
    cases o1 with
    | nx =>
      simp only at hev
      exact fun σ' F' H' x g' => ⟨F', s1, o, s', g', hev, q.mono x⟩
    | brk => simp only [Option.some.injEq, Prod.mk.injEq] at hev; obtain ⟨rfl, rfl⟩ := hev; exact q
    | cont => simp only [Option.some.injEq, Prod.mk.injEq] at hev; obtain ⟨rfl, rfl⟩ := hev; exact q
    | ret d => simp only [Option.some.injEq, Prod.mk.injEq] at hev; obtain ⟨rfl, rfl⟩ := hev; exact q
theorem s_fail {st : Stmt} : OkS p X st .fail := ⟨fun pins s σ H De I hw => by
  obtain ⟨F, s, o, s', g, hev, q⟩ := hw
  simp only [evS] at hev
  cases hev⟩
theorem s_brk {pos : Pos} : OkS p X (.Break pos) .brk := PS.imp ps_break fun De σ H ⟨F, s, o, s', g, hev, q⟩ => by
  simp only [evS, Option.some.injEq, Prod.mk.injEq] at hev
  obtain ⟨rfl, rfl⟩ := hev
  exact q σ F H (fun _ _ z => z) g
theorem s_cont {pos : Pos} : OkS p X (.Continue pos) .cont := PS.imp ps_continue fun De σ H ⟨F, s, o, s', g, hev, q⟩ => by
  simp only [evS, Option.some.injEq, Prod.mk.injEq] at hev
  obtain ⟨rfl, rfl⟩ := hev
  exact q σ F H (fun _ _ z => z) g
theorem s_retN {pos : Pos} : OkS p X (.Return none pos) .retN := PS.imp ps_retN fun De σ H ⟨F, s, o, s', g, hev, q⟩ => by
  simp only [evS, Option.some.injEq, Prod.mk.injEq] at hev
  obtain ⟨rfl, rfl⟩ := hev
  exact q σ F H .non (fun _ _ z => z) g .non
theorem s_ret {e : Expr} {m : E} {pos : Pos} (he : OkE p X e m) : OkS p X (.Return (some e) pos) (.ret m) := PS.imp (ps_ret he.pe) fun De σ H ⟨F, s, o, s', g, hev, q⟩ => by
  simp only [evS, Option.map_eq_some_iff, Prod.mk.injEq] at hev
  obtain ⟨⟨d, s1⟩, hev, rfl, rfl⟩ := hev
  exact ⟨F, s, d, _, g, hev, fun v F' H' n g' r => q σ F' H' v n.ex g' r⟩
theorem s_ex {e : Expr} {m : E} {pos : Pos} (he : OkE p X e m) (hs : swapsWith e none pos.line X.env = pure false) : OkS p X (.Expr e pos) (.ex m) := PS.imp (ps_expr he.pe hs) fun De σ H ⟨F, s, o, s', g, hev, q⟩ => by
  simp only [evS, Option.map_eq_some_iff, Prod.mk.injEq] at hev
  obtain ⟨⟨d, s1⟩, hev, rfl, rfl⟩ := hev
  exact ⟨F, s, d, _, g, hev, fun v F' H' n g' r => q σ F' H' n.ex g'⟩
theorem s_ifs {c : Expr} {mc : E} {a b : List Stmt} {ma mb : List St} {pos : Pos} (hc : OkT p X c mc) (ha : OkSs p X a ma) (hb : OkSs p X b mb) : OkS p X (.If c a b pos) (.ifs mc ma mb) := PS.imp (ps_if hc ha hb) fun De σ H ⟨F, s, o, s', g, hev, q⟩ => by
  simp only [evS, asB] at hev
  split at hev
  case h_3 => cases hev
  · rename_i s1 hb
    split at hb <;> cases hb
    rename_i hb
    refine ⟨F, s, true, s1, g, hb, fun F1 H1 n1 g1 => ?_⟩
    simp only [↓reduceIte]
    exact ⟨F1, s1, o, s', g1, hev, q.mono n1.ex⟩
  · rename_i s1 hb
    split at hb <;> cases hb
    rename_i hb
    refine ⟨F, s, false, s1, g, hb, fun F1 H1 n1 g1 => ?_⟩
    simp only [Bool.false_eq_true, ↓reduceIte]
    exact ⟨F1, s1, o, s', g1, hev, q.mono n1.ex⟩
theorem s_fors (hx : PassesOwn (model X.prog X.w) X.A X.env X.xe) (hc : X.calm = true) {tg iter : Expr} {t : Tg} {it : Iv.It} {body : List Stmt} {ms : List St} {pos : Pos} (hi : OkI p X tg iter it) (hg : PG X tg (gT p.K t)) (hb : OkSs p X body ms) (hf : ∀ (x : Value), foldedSetIterable iter X.env x = pure x) :
    OkS p X (.For tg iter body [] pos) (.fors t it ms) := PS.imp (ps_for hx hc hi hg hb hf) fun De σ H ⟨F, s, o, s', g, hev, q⟩ => by
  simp only [evS] at hev
  split at hev
  case h_2 => cases hev
  rename_i xs s1 hit
  refine ⟨F, s, xs, s1, g, hit, fun J F1 H1 n1 g1 y => ?_⟩
  refine ⟨fun i m σ H => m = xs.length - i ∧ i ≤ xs.length ∧ ∃ F s, Good p F H σ s ∧ Ex F1 F ∧ forGo t (evSs p.Φ p.fu ms) (xs.drop i) s = some (o, s'), ⟨_, rfl, Nat.zero_le _, F1, s1, g1, fun _ _ z => z, by simpa using hev⟩, ?_⟩
  rintro i m σ H ⟨hm, hi, F2, s2, g2, e2, hev⟩
  by_cases hie : i = xs.length
  · refine .inl ⟨y.stop i H (e2.trans g2.ex) hie, ?_⟩
    subst hie
    simp only [List.drop_length, forGo, Option.some.injEq, Prod.mk.injEq] at hev
    obtain ⟨rfl, rfl⟩ := hev
    exact q σ F2 H (n1.ex.trans e2) g2
  have hlt : i < xs.length := by omega
  refine .inr ⟨y.go i H (e2.trans g2.ex) hlt, fun σ H => ∃ F s, Good p F H σ s ∧ Ex F1 F ∧ forGo t (evSs p.Φ p.fu ms) (xs.drop (i + 1)) s = some (o, s'), fun σ' H' h => ⟨xs.length - (i + 1), by omega, rfl, by omega, h⟩, fun x H' hy => ?_⟩
  have hx : xs[i]? = some xs[i] := List.getElem?_eq_getElem hlt
  rw [List.drop_eq_getElem_cons hlt] at hev
  simp only [forGo] at hev
  split at hev
  · cases hev
  rename_i r1 hr1
  obtain ⟨F3, g3, n3, r3⟩ := ext_yld (C := fun _ => True) y.b g2 e2 trivial hy hx
  refine (gT_ok t).run σ F3 H' s2 x _ r1 _ g3 r3 hr1 fun σ4 g4 c4 => ?_
  cases hbd : evSs p.Φ p.fu ms { s2 with r := r1 } with
  | none => rw [hbd] at hev; cases hev
  | some r =>
    obtain ⟨o1, s5⟩ := r
    rw [hbd] at hev
    refine ⟨F3, _, o1, s5, g4, hbd, ?_⟩
    have e3 := e2.trans n3.ex
    cases o1 with
    | nx => exact fun σ' F' H' x g' => ⟨F', s5, g', e3.trans x, hev⟩
    | cont => exact fun σ' F' H' x g' => ⟨F', s5, g', e3.trans x, hev⟩
    | brk =>
      simp only [Option.some.injEq, Prod.mk.injEq] at hev
      obtain ⟨rfl, rfl⟩ := hev
      exact fun σ' F' H' x g' => q σ' F' H' (n1.ex.trans (e3.trans x)) g'
    | ret d =>
      simp only [Option.some.injEq, Prod.mk.injEq] at hev
      obtain ⟨rfl, rfl⟩ := hev
      exact fun σ' F' H' v x g' r => q σ' F' H' v (n1.ex.trans (e3.trans x)) g' r
theorem s_whl (hx : PassesOwn (model X.prog X.w) X.A X.env X.xe) {c : Expr} {mc : E} {body : List Stmt} {ms : List St} {pos : Pos} (hc : OkT p X c mc) (hb : OkSs p X body ms) :
    OkS p X (.While c body [] pos) (.whl mc ms) := PS.imp (ps_while hx hc hb) fun De σ H ⟨F, s, o, s', g, hev, q⟩ => by
  simp only [evS] at hev
  refine ⟨fun m σ H => ∃ F1 s, Good p F1 H σ s ∧ Ex F F1 ∧ whlGo (evE p.Φ mc) (evSs p.Φ p.fu ms) m s = some (o, s'), ⟨p.fu, F, s, g, fun _ _ z => z, hev⟩, ?_⟩
  rintro m σ H ⟨F1, s1, g1, e1, hev⟩
  cases m with
  | zero => cases hev
  | succ m =>
    simp only [whlGo, asB] at hev
    split at hev
    case h_3 => cases hev
    · rename_i s2 hb
      split at hb <;> cases hb
      rename_i hb
      refine ⟨F1, s1, true, s2, g1, hb, fun F2 H2 n2 g2 => ?_⟩
      simp only [↓reduceIte]
      refine ⟨fun σ H => ∃ F1 s, Good p F1 H σ s ∧ Ex F F1 ∧ whlGo (evE p.Φ mc) (evSs p.Φ p.fu ms) m s = some (o, s'), fun σ' H' h => ⟨m, Nat.lt_succ_self m, h⟩, ?_⟩
      cases hbd : evSs p.Φ p.fu ms s2 with
      | none => rw [hbd] at hev; cases hev
      | some r =>
        obtain ⟨o1, s5⟩ := r
        rw [hbd] at hev
        refine ⟨F2, s2, o1, s5, g2, hbd, ?_⟩
        have e3 := e1.trans n2.ex
        cases o1 with
        | nx => exact fun σ' F' H' x g' => ⟨F', s5, g', e3.trans x, hev⟩
        | cont => exact fun σ' F' H' x g' => ⟨F', s5, g', e3.trans x, hev⟩
        | brk =>
          simp only [Option.some.injEq, Prod.mk.injEq] at hev
          obtain ⟨rfl, rfl⟩ := hev
          exact fun σ' F' H' x g' => q σ' F' H' (e3.trans x) g'
        | ret d =>
          simp only [Option.some.injEq, Prod.mk.injEq] at hev
          obtain ⟨rfl, rfl⟩ := hev
          exact fun σ' F' H' v x g' r => q σ' F' H' v (e3.trans x) g' r
    · rename_i s2 hb
      split at hb <;> cases hb
      rename_i hb
      simp only [Option.some.injEq, Prod.mk.injEq] at hev
      obtain ⟨rfl, rfl⟩ := hev
      refine ⟨F1, s1, false, _, g1, hb, fun F2 H2 n2 g2 => ?_⟩
      simp only [Bool.false_eq_true, ↓reduceIte]
      exact q σ F2 H2 (e1.trans n2.ex) g2

/-! ### assignments -/
theorem Good.setV' (g : Good p F H σ s) (i : Nat) {v : V} {d : D} (r : R p.K p.wa.s F v d) : Good p F H (σ.set i (some v)) (s.put i (.val d)) := by
  by_cases hi : i < s.r.length
  · exact g.setV hi r
  · have e1 : σ.set i (some v) = σ := List.set_eq_of_length_le (by rw [g.len]; omega)
    have e2 : s.put i (.val d) = s := by
      show ({ s with r := s.r.set i (.val d) } : S1) = s
      rw [List.set_eq_of_length_le (by omega)]
    rw [e1, e2]; exact g
/-- a slot takes an object that stands apart -/
theorem Good.setO (g : Good p F H σ s) (i : Nat) {a : Addr} {d : D} (hF : F a = none) (h0 : p.H0 a = none) (hO : ¬ Owned σ s a) (hr : RO p F H a d) : Good p F H (σ.set i (some (.ref a))) (s.put i (.own d)) := by
  by_cases hi : i < s.r.length
  · have gr : ∀ j, (s.put i (.own d)).r[j]? = if i = j then some (.own d) else s.r[j]? := fun j => by
      rw [put_get]
      by_cases h : i = j
      · subst h; simp [hi]
      · simp [h]
    have gs : ∀ j, (σ.set i (some (.ref a)))[j]? = if i = j then some (some (.ref a)) else σ[j]? := fun j => by
      rw [List.getElem?_set]
      by_cases h : i = j
      · subst h; simp [g.len, hi]
      · simp [h]
    refine ⟨g.ex, g.f0, g.fn, g.keep, by simp [g.len, S1.put], fun j e q => ?_, fun j e q => ?_, fun j l e e' b q1 q2 q3 q4 => ?_, g.wrd, g.wF, g.w0⟩
    · rw [gr] at q
      rw [gs]
      by_cases h : i = j
      · rw [if_pos h] at q; cases q
      · rw [if_neg h] at q ⊢; exact g.val j e q
    · rw [gr] at q
      rw [gs]
      by_cases h : i = j
      · rw [if_pos h] at q ⊢; cases q; exact ⟨a, rfl, hF, h0, hr⟩
      · rw [if_neg h] at q ⊢; exact g.own j e q
    · rw [gr] at q1 q2
      rw [gs] at q3 q4
      by_cases h : i = j
      · by_cases h' : i = l
        · rw [← h, ← h']
        · rw [if_neg h'] at q2 q4
          rw [if_pos h] at q3; cases q3
          exact absurd ⟨l, e', q2, q4⟩ hO
      · rw [if_neg h] at q1 q3
        by_cases h' : i = l
        · rw [if_pos h'] at q4; cases q4
          exact absurd ⟨j, e, q1, q3⟩ hO
        · rw [if_neg h'] at q2 q4
          exact g.dis j l e e' b q1 q2 q3 q4
  · have e1 : σ.set i (some (.ref a)) = σ := List.set_eq_of_length_le (by rw [g.len]; omega)
    have e2 : s.put i (.own d) = s := by
      show ({ s with r := s.r.set i (.own d) } : S1) = s
      rw [List.set_eq_of_length_le (by omega)]
    rw [e1, e2]; exact g
theorem s_asg_of {st : Stmt} {te : TE} {i : Nat} {m : E} (h : PS X st (tAsg te (gName i))) (hi : ∀ σ H Q, tE p m σ H Q → te σ H Q) : OkS p X st (.asg i m) := PS.imp h fun De σ H ⟨F, s, o, s', g, hev, q⟩ => by
  simp only [evS, Option.map_eq_some_iff, Prod.mk.injEq] at hev
  obtain ⟨⟨d, s1⟩, hev, rfl, rfl⟩ := hev
  exact hi σ H _ ⟨F, s, d, s1, g, hev, fun v F' H' n g' r => q _ F' H' n.ex (g'.setV' i r)⟩
theorem s_asgO_of {st : Stmt} {te : TE} {i : Nat} {m : E} (h : PS X st (tAsg te (gName i))) (hi : ∀ σ H Q, tL p m σ H Q → te σ H Q) : OkS p X st (.asgO i m) := PS.imp h fun De σ H ⟨F, s, o, s', g, hev, q⟩ => by
  simp only [evS, Option.map_eq_some_iff, Prod.mk.injEq] at hev
  obtain ⟨⟨d, s1⟩, hev, rfl, rfl⟩ := hev
  refine hi σ H _ ⟨F, s, d, s1, g, hev, fun a F' H' n g' h0 hF hr => q _ F' H' n.ex (g'.setO i hF (g.none0 h0) (fun z => g.noneO h0 (n.ownd z)) hr)⟩
theorem s_unp {tg e : Expr} {t : Tg} {m : E} {pos : Pos} (he : OkE p X e m) (hg : PG X tg (gT p.K t)) (hs : swapsWithSole [tg] e pos.line X.env = pure false) (hw : swappedStores [tg] e X.env = pure none) (h1 : List.map (fun x => x.snd) (assignEach [tg] X.env) = [assign tg X.env]) :
    OkS p X (.Assign [tg] e pos) (.unp t m) := PS.imp (ps_asg he.pe hg hs hw h1) fun De σ H ⟨F, s, o, s', g, hev, q⟩ => by
  simp only [evS] at hev
  obtain ⟨⟨d, s1⟩, h1, h2⟩ := Option.bind_eq_some_iff.mp hev
  simp only [Option.map_eq_some_iff, Prod.mk.injEq] at h2
  obtain ⟨r, h2, rfl, rfl⟩ := h2
  exact ⟨F, s, d, s1, g, h1, fun v F' H' n g' r' => (gT_ok t).run σ F' H' s1 v d r _ g' r' h2 fun σ2 g2 c2 => q σ2 F' H' n.ex g2⟩
theorem set_both (hu : X.A.units + 1 < cLine) : PSet X (fun o i v H Q => rSetL o i v H Q ∨ rSetD o i v H Q) := by
  intro pins s σ H o i v ov iv u Q I ro ri rv h
  rcases h with h | h
  · exact set_list pins s σ H o i v ov iv u Q I ro ri rv h
  · exact set_dict hu pins s σ H o i v ov iv u Q I ro ri rv h
theorem s_setI (hr : Room k X.A) {x : Str} {px ps pos : Pos} {i : Nat} {ke e : Expr} {mk me : E} (hx : PE X (.Name x px) (tVar i)) (hk : OkE p X ke mk) (he : OkE p X e me) (hs : swapsWithSole [.Subscript (.Name x px) ke ps] e pos.line X.env = pure false) (hw : swappedStores [.Subscript (.Name x px) ke ps] e X.env = pure none)
    (h1 : List.map (fun x => x.snd) (assignEach [.Subscript (.Name x px) ke ps] X.env) = [assign (.Subscript (.Name x px) ke ps) X.env])
    (ha : ∀ v, assign (.Subscript (.Name x px) ke ps) X.env v = (do
      let ov ← holding [v] (eval (.Name x px) X.env)
      let iv ← holding [v, ov] (eval ke X.env)
      standAt ps
      holding [v, ov, iv] (setItem ov iv v)
      release [v, ov, iv] [])) : OkS p X (.Assign [.Subscript (.Name x px) ke ps] e pos) (.setI i mk me) := by
  refine PS.imp (ps_asg he.pe (pg_sub hx hk.pe (set_both (Nat.lt_of_le_of_lt (Nat.add_le_add_left (by decide) _) (units_lt hr))) ha) hs hw h1) fun De σ H ⟨F, s, o, s', g, hev, q⟩ => ?_
  simp only [evS] at hev
  obtain ⟨⟨v, s1⟩, e1, hevA⟩ := Option.bind_eq_some_iff.mp hev
  clear hev
  simp only at hevA
  split at hevA
  case isFalse => cases hevA
  rename_i hown
  obtain ⟨⟨kd, s2⟩, e2, hevB⟩ := Option.bind_eq_some_iff.mp hevA
  clear hevA
  simp only at hevB
  split at hevB
  case h_2 => cases hevB
  rename_i d hd
  simp only [Option.map_eq_some_iff, Prod.mk.injEq] at hevB
  obtain ⟨d', h3, rfl, rfl⟩ := hevB
  refine ⟨F, s, v, s1, g, e1, fun vv F1 H1 n1 g1 r1 => ?_⟩
  obtain ⟨z, hz⟩ := ownA_get hown
  obtain ⟨a, ha1, _, _, _⟩ := g1.own i z hz
  refine ⟨_, ha1, F1, s1, kd, s2, g1, e2, fun vk F2 H2 n2 g2 r2 => ?_⟩
  obtain ⟨a', ha2, hF2, h02, hro⟩ := g2.own i d hd
  rw [ha1] at ha2; cases ha2
  have ex := n1.ex.trans n2.ex
  cases d with
  | list xs =>
    obtain ⟨ws, hw1, hw2⟩ := hro
    cases kd <;> simp only [setD] at h3 <;> try cases h3
    simp only [Option.map_eq_some_iff] at h3
    obtain ⟨j, hj, rfl⟩ := h3
    cases r2
    obtain ⟨g3, n3⟩ := g2.setOwn (d' := .list (xs.set j v)) (o := .lst (ws.set j vv)) hd ha1 ⟨_, upd_same, RA.set (r1.mono n2.ex) j hw2⟩
    exact .inl ⟨a, ws, _, j, rfl, rfl, hw1, by rw [hw2.length]; exact hj, q σ F2 _ ex g3⟩
  | dict kvs =>
    obtain ⟨ws, hw1, hw2⟩ := hro
    simp only [setD] at h3
    split at h3
    case isFalse => cases h3
    rename_i hc
    simp only [Option.map_eq_some_iff] at h3
    obtain ⟨kd', hj, rfl⟩ := h3
    obtain ⟨rfl, kk, rfl⟩ := keyOf_some hj
    obtain rfl := R_key r2
    simp only [Bool.and_eq_true, decide_eq_true_eq] at hc
    obtain ⟨g3, n3⟩ := g2.setOwn (d' := .dict (putD (keyD kk) v kvs)) (o := .dK (putK ws kk vv)) hd ha1 ⟨_, upd_same, hw2.put (r1.mono n2.ex) kk⟩
    exact .inr ⟨a, _, rfl, DPut.k hw1 (by rw [hw2.length, sizeLine_eq]; have : line = 16777216 := rfl; omega), q σ F2 _ ex g3⟩
  | _ => exact hro.elim
theorem s_app (hK : X.K = p.K) {x : Str} {px apos cpos pos : Pos} {i : Nat} {e : Expr} {me : E} (hx : PE X (.Name x px) (tVar i)) (he : OkE p X e me) (hl : (apos.endLine == cpos.line) = true) (hb : attributeBase (.Name x px) "append" X.env (eval (.Name x px) X.env) = eval (.Name x px) X.env)
    (hs : ((((backTo cpos (starEach [e] X.env)).all fun x => !x.1) && (backToKw cpos (keywordEach [] X.env)).all fun x => x.1.isSome) && decide (([e] : List Expr).length + ([] : List Keyword).length + (if ([] : List Keyword).isEmpty = true then 0 else 1) < 30)) = true) :
    OkS p X (.Expr (.Call (.Attribute (.Name x px) "append" apos) [e] [] cpos) pos) (.app i me) := by
  refine PS.imp (ps_expr (pe_bm PySem.F.plainAttrs_list PySem.F.slot_list_append PySem.F.type_list_append (mt_append : MtM X "list.append" rAppend) hx (pa1 he.fm he.pe) hb hs hl (he.fm.ns [] _) rfl) rfl) fun De σ H ⟨F, s, o, s', g, hev, q⟩ => ?_
  simp only [evS] at hev
  split at hev
  case isFalse => cases hev
  rename_i hown
  obtain ⟨⟨v, s1⟩, e1, hevA⟩ := Option.bind_eq_some_iff.mp hev
  clear hev
  simp only at hevA
  split at hevA
  case h_2 => cases hevA
  rename_i xs hxs
  split at hevA <;> cases hevA
  rename_i hlen
  obtain ⟨z, hz⟩ := ownL_get hown
  obtain ⟨a, ha1, _, _, ws, hw, hwr⟩ := g.own i _ hz
  refine ⟨_, ha1, .inl ⟨rfl, ws, SqL.of hw⟩, F, s, v, s1, g, e1, fun vv F1 H1 n1 g1 r1 => ?_⟩
  obtain ⟨a', ha2, _, _, us, hu, hur⟩ := g1.own i _ hxs
  rw [ha1] at ha2; cases ha2
  obtain ⟨g3, n3⟩ := g1.setOwn (d' := .list (xs ++ [v])) (o := .lst (us ++ [vv])) hxs ha1 ⟨_, upd_same, hur.app (.cons r1 .nil)⟩
  exact ⟨a, us, vv, rfl, rfl, hu, by rw [hur.length, sizeLine_eq]; have : line = 16777216 := rfl; omega, q σ F1 _ n1.ex g3⟩
theorem s_ext (hK : X.K = p.K) {x : Str} {px apos cpos pos : Pos} {i : Nat} {e : Expr} {me : E} (hx : PE X (.Name x px) (tVar i)) (he : PE X e (tL p me)) (fm : Frm e) (hl : (apos.endLine == cpos.line) = true) (hb : attributeBase (.Name x px) "extend" X.env (eval (.Name x px) X.env) = eval (.Name x px) X.env)
    (hs : ((((backTo cpos (starEach [e] X.env)).all fun x => !x.1) && (backToKw cpos (keywordEach [] X.env)).all fun x => x.1.isSome) && decide (([e] : List Expr).length + ([] : List Keyword).length + (if ([] : List Keyword).isEmpty = true then 0 else 1) < 30)) = true) :
    OkS p X (.Expr (.Call (.Attribute (.Name x px) "extend" apos) [e] [] cpos) pos) (.ext i me) := by
  refine PS.imp (ps_expr (pe_bm PySem.F.plainAttrs_list PySem.F.slot_list_extend PySem.F.type_list_extend (mt_extend : MtM X "list.extend" rExtend) hx (pa1 fm he) hb hs hl (fm.ns [] _) rfl) rfl) fun De σ H ⟨F, s, o, s', g, hev, q⟩ => ?_
  simp only [evS] at hev
  split at hev
  case isFalse => cases hev
  rename_i hown
  obtain ⟨⟨v, s1⟩, e1, hevA⟩ := Option.bind_eq_some_iff.mp hev
  clear hev
  simp only at hevA
  split at hevA
  case h_2 => cases hevA
  rename_i ys xs hxs
  split at hevA <;> cases hevA
  rename_i hlen
  obtain ⟨z, hz⟩ := ownL_get hown
  obtain ⟨a, ha1, _, _, ws, hw, hwr⟩ := g.own i _ hz
  refine ⟨_, ha1, .inl ⟨rfl, ws, SqL.of hw⟩, F, s, _, s1, g, e1, fun b F1 H1 n1 g1 hb0 hFb hrb => ?_⟩
  obtain ⟨a', ha2, _, _, us, hu, hur⟩ := g1.own i _ hxs
  rw [ha1] at ha2; cases ha2
  obtain ⟨vs, hvs, hvr⟩ := hrb
  obtain ⟨g3, n3⟩ := g1.setOwn (d' := .list (xs ++ ys)) (o := .lst (us ++ vs)) hxs ha1 ⟨_, upd_same, hur.app hvr⟩
  exact ⟨a, b, us, vs, rfl, rfl, hu, hvs, by rw [hur.length, hvr.length, sizeLine_eq]; have : line = 16777216 := rfl; omega, q σ F1 _ n1.ex g3⟩
end
end Iv

namespace Iv
open PySem L2 PyProof.Rows
open Evl (Ex)
/-! ### a, b = x, y -/
inductive RM (p : Pm) (F H : Hp) : Hp → List Bool → List V → List D → Prop
  | nil {B : Hp} : RM p F H B [] [] []
  | val {B : Hp} {v : V} {d : D} {fl : List Bool} {vs : List V} {ds : List D} : R p.K p.wa.s F v d → RM p F H B fl vs ds → RM p F H B (false :: fl) (v :: vs) (d :: ds)
  | own {B B' : Hp} {a : Addr} {d : D} {fl : List Bool} {vs : List V} {ds : List D} : B a = none → F a = none → RO p F H a d → B' a ≠ none → (∀ b, B' b = none → B b = none) → RM p F H B' fl vs ds → RM p F H B (true :: fl) (.ref a :: vs) (d :: ds)
def tAm (p : Pm) (fl : List Bool) (ms : Es) : TA := fun σ H Q => ∃ F s ds s', Good p F H σ s ∧ evEs p.Φ ms s = some (ds, s') ∧ ∀ vs F' H', Nxt p σ s F H s' F' H' → Good p F' H' σ s' → RM p F' H' H fl vs ds → Q vs H'
abbrev OkAm (p : Pm) (X : Cx) (a : List Expr) (fl : List Bool) (m : Es) : Prop := PA X a (tAm p fl m)
def setAll (σ : L2.St) : List (Nat × Bool) → List V → L2.St
  | (i, _) :: is, v :: vs => setAll (σ.set i (some v)) is vs
  | _, _ => σ
section
variable {p : Pm} {X : Cx} {k : Nat} {σ σ' : L2.St} {s s1 s2 s' : S1} {F F1 F2 F' H H1 H2 H' : Hp}
theorem RM.base {B B' : Hp} {fl : List Bool} {vs : List V} {ds : List D} (h : RM p F H B' fl vs ds) (hb : ∀ b, B' b = none → B b = none) : RM p F H B fl vs ds := by
  induction h generalizing B with
  | nil => exact .nil
  | val h1 h2 ih => exact .val h1 (ih hb)
  | own h1 h2 h3 h4 h5 h6 ih => exact .own (hb _ h1) h2 h3 h4 (fun b z => hb b (h5 b z)) h6
theorem am_nil : OkAm p X [] [] .nil := by
  refine ⟨fun pos pins sh σ H Q I h => ?_⟩
  obtain ⟨F, s, ds, s', g, hev, q⟩ := h
  simp only [evEs, Option.some.injEq, Prod.mk.injEq] at hev
  obtain ⟨rfl, rfl⟩ := hev
  exact pa_nil.run pos pins sh σ H Q I (q [] F H .refl g .nil)
theorem am_val {e : Expr} {es : List Expr} {m : E} {ms : Es} {fl : List Bool} (he : OkE p X e m) (hs : OkAm p X es fl ms) : OkAm p X (e :: es) (false :: fl) (.cons m ms) := by
  refine ⟨fun pos pins sh σ H Q I h => ?_⟩
  obtain ⟨F, s, ds, s', g, hev, q⟩ := h
  simp only [evEs] at hev
  obtain ⟨⟨d, s1⟩, h1, hev⟩ := Option.bind_eq_some_iff.mp hev
  simp only [Option.map_eq_some_iff, Prod.mk.injEq] at hev
  obtain ⟨⟨ds', s2⟩, h2, rfl, rfl⟩ := hev
  refine (pa_cons he.pe hs (hs := he.fm.ns es X.env)).run pos pins sh σ H Q I ⟨F, s, d, s1, g, h1, fun v F1 H1 n1 g1 r1 => ⟨F1, s1, _, _, g1, h2, fun vs F2 H2 n2 g2 r2 => ?_⟩⟩
  exact q _ F2 H2 (n1.trans n2 g2) g2 (.val (r1.mono n2.ex) (r2.base n1.dom))
theorem am_own {e : Expr} {es : List Expr} {m : E} {ms : Es} {fl : List Bool} (fm : Frm e) (he : PE X e (tL p m)) (hs : OkAm p X es fl ms) : OkAm p X (e :: es) (true :: fl) (.cons m ms) := by
  refine ⟨fun pos pins sh σ H Q I h => ?_⟩
  obtain ⟨F, s, ds, s', g, hev, q⟩ := h
  simp only [evEs] at hev
  obtain ⟨⟨d, s1⟩, h1, hev⟩ := Option.bind_eq_some_iff.mp hev
  simp only [Option.map_eq_some_iff, Prod.mk.injEq] at hev
  obtain ⟨⟨ds', s2⟩, h2, rfl, rfl⟩ := hev
  refine (pa_cons he hs (hs := fm.ns es X.env)).run pos pins sh σ H Q I ⟨F, s, d, s1, g, h1, fun a F1 H1 n1 g1 h0 hF hr => ⟨F1, s1, _, _, g1, h2, fun vs F2 H2 n2 g2 r2 => ?_⟩⟩
  have hno : ¬ Owned σ s1 a := fun z => g.noneO h0 (n1.ownd z)
  have hH1 : ∃ o, H1 a = some o := by
    cases d <;> first | (obtain ⟨_, e, _⟩ := hr; exact ⟨_, e⟩) | exact hr.elim
  obtain ⟨o, ho⟩ := hH1
  have hF2 : F2 a = none := by
    cases hf : F2 a with
    | none => rfl
    | some u =>
      rcases n2.new a u hf with z | z | z
      · rw [hF] at z; cases z
      · rw [ho] at z; cases z
      · exact absurd z hno
  have hH2 : H2 a = some o := n2.keep a o ho hno (g.noneW h0)
  exact q _ F2 H2 (n1.trans n2 g2) g2 (.own h0 hF2 (hr.mono n2.ex (by rw [hH2, ho])) (by rw [ho]; intro z; cases z) n1.dom r2)
theorem owned_set {i : Nat} {v : V} {en : Ent} {b : Addr} (hl : σ.length = s.r.length) (h : Owned (σ.set i (some v)) (s.put i en) b) : Owned σ s b ∨ ((∃ d, en = .own d) ∧ v = .ref b) := by
  obtain ⟨j, d, h1, h2⟩ := h
  rw [put_get] at h1
  rw [List.getElem?_set] at h2
  by_cases hij : i = j
  · rw [if_pos hij] at h1 h2
    split at h1
    · rename_i hlt
      rw [hl, if_pos (by omega)] at h2
      cases h1
      cases h2
      exact .inr ⟨⟨d, rfl⟩, rfl⟩
    · cases h1
  · rw [if_neg hij] at h1 h2
    exact .inl ⟨j, d, h1, h2⟩
theorem par_good {fl : List Bool} {vs : List V} {ds : List D} {B : Hp} (h : RM p F H B fl vs ds) : ∀ {σ : L2.St} {s : S1} {is : List (Nat × Bool)} {r : List Ent}, is.map (·.2) = fl → (∀ a, B a = none → p.H0 a = none) → Good p F H σ s → (∀ a, B a = none → ¬ Owned σ s a) → putAll s.r is ds = some r → Good p F H (setAll σ is vs) { s with r := r } := by
  induction h with
  | nil =>
    intro σ s is r hm h0 g hO hp
    cases is with
    | nil => simp only [putAll, Option.some.injEq] at hp; subst hp; exact g
    | cons x is => simp at hm
  | val h1 h2 ih =>
    intro σ s is r hm h0 g hO hp
    cases is with
    | nil => simp at hm
    | cons x is =>
      obtain ⟨i, o⟩ := x
      simp only [List.map_cons, List.cons.injEq] at hm
      obtain ⟨rfl, hm⟩ := hm
      simp only [putAll, Bool.false_eq_true, if_false] at hp
      exact ih (s := s.put i (.val _)) hm h0 (g.setV' i h1) (fun a ha z => by
        rcases owned_set g.len z with z | ⟨⟨_, z⟩, _⟩
        · exact hO a ha z
        · cases z) hp
  | own h1 h2 h3 h4 h5 h6 ih =>
    rename_i B0 B' a d fl vs ds
    intro σ s is r hm h0 g hO hp
    cases is with
    | nil => simp at hm
    | cons x is =>
      obtain ⟨i, o⟩ := x
      simp only [List.map_cons, List.cons.injEq] at hm
      obtain ⟨rfl, hm⟩ := hm
      simp only [putAll, if_true] at hp
      exact ih (s := s.put i (.own _)) hm (fun b hb => h0 b (h5 b hb)) (g.setO i h2 (h0 a h1) (hO a h1) h3) (fun b hb z => by
        rcases owned_set g.len z with z | ⟨_, z⟩
        · exact hO b (h5 b hb) z
        · cases z; exact h4 hb) hp
theorem RM.length {fl : List Bool} {vs : List V} {ds : List D} {B : Hp} (h : RM p F H B fl vs ds) : vs.length = fl.length := by
  induction h with
  | nil => rfl
  | val _ _ ih => simp [ih]
  | own _ _ _ _ _ _ ih => simp [ih]
theorem s_par_of {st : Stmt} {is : List (Nat × Bool)} {ms : Es} {t : TA → TS} (h : ∀ ta, (∀ fl, fl = is.map (·.2) → ta = tAm p fl ms) → PS X st (t ta)) (hi : ∀ De σ H, tAm p (is.map (·.2)) ms σ H (fun vs H1 => vs.length = is.length ∧ De.nx (setAll σ is vs) H1) → t (tAm p (is.map (·.2)) ms) De σ H) : OkS p X st (.par is ms) :=
  PS.imp (h _ (fun fl e => by rw [e])) fun De σ H ⟨F, s, o, s', g, hev, q⟩ => by
    simp only [evS] at hev
    obtain ⟨⟨ds, s1⟩, h1, h2⟩ := Option.bind_eq_some_iff.mp hev
    simp only [Option.map_eq_some_iff, Prod.mk.injEq] at h2
    obtain ⟨r, h2, rfl, rfl⟩ := h2
    refine hi De σ H ⟨F, s, ds, s1, g, h1, fun vs F' H' n g' r' => ⟨by rw [r'.length, List.length_map], ?_⟩⟩
    exact q _ F' H' n.ex (par_good r' rfl (fun a ha => g.none0 ha) g' (fun a ha z => g.noneO ha (n.ownd z)) h2)
theorem s_par2 {i j : Nat} {o1 o2 : Bool} {x y : Str} {a b : Expr} {ms : Es} {px py pt : Pos} {kt k2 : Nat} {pt2 pos : Pos} (hc : X.calm = true) (hn : X.N.Nodup) (hi : X.N[i]? = some x) (hj : X.N[j]? = some y) (hij : i ≠ j) (hx : List.lookup x X.env.scope.names = some NameKind.local) (hy : List.lookup y X.env.scope.names = some NameKind.local)
    (ha : OkAm p X [a, b] [o1, o2] ms) (hw : swappedStores [Expr.Tuple [Expr.Name x px, Expr.Name y py] kt pt] (Expr.Tuple [a, b] k2 pt2) X.env = pure (some [x, y])) : OkS p X (.Assign [.Tuple [.Name x px, .Name y py] kt pt] (.Tuple [a, b] k2 pt2) pos) (.par [(i, o1), (j, o2)] ms) :=
  s_par_of (t := tPar i j) (fun ta e => by rw [e [o1, o2] rfl]; exact ps_par hc hn hi hj hij hx hy ha hw rfl) fun De σ H ⟨F, s, ds, s', g, hev, q⟩ => ⟨F, s, ds, s', g, hev, fun vs F' H' n g' r => by
    obtain ⟨hl, q⟩ := q vs F' H' n g' r
    match vs, hl with
    | [v, w], _ => exact ⟨v, w, rfl, q⟩⟩
theorem s_par3 {i j l : Nat} {o1 o2 o3 : Bool} {x y z : Str} {a b c : Expr} {ms : Es} {px py pz pt : Pos} {kt k2 : Nat} {pt2 pos : Pos} (hc : X.calm = true) (hn : X.N.Nodup) (hi : X.N[i]? = some x) (hj : X.N[j]? = some y) (hk : X.N[l]? = some z) (hij : i ≠ j) (hil : i ≠ l) (hjl : j ≠ l) (hx : List.lookup x X.env.scope.names = some NameKind.local) (hy : List.lookup y X.env.scope.names = some NameKind.local) (hz : List.lookup z X.env.scope.names = some NameKind.local)
    (ha : OkAm p X [a, b, c] [o1, o2, o3] ms) (hw : swappedStores [Expr.Tuple [Expr.Name x px, Expr.Name y py, Expr.Name z pz] kt pt] (Expr.Tuple [a, b, c] k2 pt2) X.env = pure (some [x, y, z])) : OkS p X (.Assign [.Tuple [.Name x px, .Name y py, .Name z pz] kt pt] (.Tuple [a, b, c] k2 pt2) pos) (.par [(i, o1), (j, o2), (l, o3)] ms) :=
  s_par_of (t := tPar3 i j l) (fun ta e => by rw [e [o1, o2, o3] rfl]; exact ps_par3 hc hn hi hj hk hij hil hjl hx hy hz ha hw rfl) fun De σ H ⟨F, s, ds, s', g, hev, q⟩ => ⟨F, s, ds, s', g, hev, fun vs F' H' n g' r => by
    obtain ⟨hl, q⟩ := q vs F' H' n g' r
    match vs, hl with
    | [v, w, u], _ => exact ⟨v, w, u, rfl, q⟩⟩
end
end Iv

namespace Iv
open PySem L2 PyProof.Rows
open Evl (Ex)
/-! ### is this form the text's? -/
structure CC where
  N : List Str
  names : List (Str × NameKind)
  raw : Option (List (Str × NameKind))
  fns : List Str
  cs : List (Str × Int)
def isLoc (k : Option NameKind) : Bool := match k with | some .local => true | _ => false
def isCell (k : Option NameKind) : Bool := match k with | some .cell => true | _ => false
def isFree (k : Option NameKind) : Bool := match k with | some .free => true | _ => false
def isGlob (k : Option NameKind) : Bool := match k with | some .globalImplicit => true | _ => false
def CC.isFn (c : CC) (x : Str) : Bool := match c.raw with
  | none => true
  | some ns => isCell (ns.lookup x)
def CC.glob (c : CC) (x : Str) : Bool := isGlob (c.names.lookup x)
def CC.loc (c : CC) (x : Str) : Bool := isLoc (c.names.lookup x)
def CC.vis (c : CC) (x : Str) : Bool := isLoc (c.names.lookup x) || isCell (c.names.lookup x) || isFree (c.names.lookup x)
def CC.at (c : CC) (i : Nat) (x : Str) : Bool := decide (c.N[i]? = some x)
def CC.slot (c : CC) (i : Nat) (x : Str) : Bool := c.at i x && c.vis x && !(x == ("__debug__" : Str)) && !(x == ("__classdict__" : Str))
def CC.tgt (c : CC) (i : Nat) (x : Str) : Bool := c.at i x && (isLoc (c.names.lookup x) || (isCell (c.names.lookup x) && c.isFn x))
def blNames : List Str := ["len", "abs", "sum", "all", "any", "max", "min", "sorted", "tuple", "list", "int", "dict", "range", "enumerate", "zip", "isinstance", "bool", "str"]
def CC.bl (c : CC) (x : Str) (nm : String) : Bool := decide (x = Str.ofString nm) && decide (x ∈ blNames) && c.glob x
def CC.inner (c : CC) (sc : Scope) : CC := { c with names := sc.names.map fun (n, k) => if (isFree (some k) && isCell (c.names.lookup n)) then (n, .cell) else (n, k), raw := some sc.names }
def isFunK : ScopeKind → Bool | .function => true | _ => false
def CC.ownOf (c : CC) (vs : List Nat) : List (Str × Nat) := vs.map fun v => (c.N.getD v Str.empty, v)
def CC.blk (c : CC) (sc : Scope) (vs : List Nat) : Bool := isFunK sc.kind && (sc.names.all fun y => decide (sc.names.lookup y.1 = some y.2)) && (vs.all fun v => decide (v < c.N.length)) &&
  (sc.names.all fun y => !isFree (some y.2) || isCell (c.names.lookup y.1) || isFree (c.names.lookup y.1)) &&
  (sc.names.all fun y => !(isLoc (some y.2) || isCell (some y.2)) || decide (y.1 ∈ (c.ownOf vs).map (·.1)) || !decide (y.1 ∈ c.N))
def opB : Op2 → Operator → Bool
  | .add, .Add => true | .sub, .Sub => true | .mul, .Mult => true | .fdiv, .FloorDiv => true | .mod, .Mod => true | .pow, .Pow => true | _, _ => false
def cmpB : Op2 → CmpOp → Bool
  | .eq, .Eq => true | .ne, .NotEq => true | .lt, .Lt => true | .le, .LtE => true | .gt, .Gt => true | .ge, .GtE => true
  | .isin, .In => true | .notin, .NotIn => true | .is, .Is => true | .isnot, .IsNot => true | _, _ => false
def constB : PyData → Const → Bool
  | .none, .none => true
  | .bool a, .bool b => decide (a = b)
  | .int a, .int b => decide (a = b)
  | .str a, .str b => decide (a = b)
  | _, _ => false
def isVar : E → Bool | .var _ => true | _ => false
def isTrueC : E → Bool | .cst (.bool true) => true | _ => false
def isComp : Expr → Bool
  | .ListComp .. => true | .SetComp .. => true | .DictComp .. => true | _ => false
def looseE : E → Bool
  | .lst _ => true | .rep _ _ => true | .lc .. => true | .lc2 .. => true | .lcD .. => true | .dc .. => true | .disp _ => true | .lrg _ => true | .bf b _ => bfLoose b | _ => false
def isAnd : BoolOp → Bool | .And => true | _ => false
def isOr : BoolOp → Bool | .Or => true | _ => false
def Es.len : Es → Nat
  | .nil => 0
  | .cons _ es => es.len + 1
mutual
def chkTg (c : CC) : Tg → Expr → Bool
  | .nm i, .Name x _ => c.tgt i x
  | .tp ts, .Tuple es _ _ => chkTgs c ts es
  | _, _ => false
def chkTgs (c : CC) : List Tg → List Expr → Bool
  | [], [] => true
  | t :: ts, e :: es => chkTg c t e && chkTgs c ts es
  | _, _ => false
end
mutual
def chk : E → CC → Bool → Expr → Bool
  | .var i, c, t, ex => match ex with
    | .Name x _ => c.slot i x
    | _ => false
  | .cst d, c, t, ex => match ex with
    | .Constant k _ _ => constB d k
    | .Name x _ => c.glob x && !(x == ("__debug__" : Str)) && (match d with | .int n => decide (c.cs.lookup x = some n) | _ => false)
    | _ => false
  | .neg a, c, t, ex => match ex with
    | .UnaryOp .USub x _ => chk a c false x
    | _ => false
  | .op o a b, c, t, ex => match ex with
    | .BinOp x f y _ => opB o f && chk a c false x && chk b c false y
    | .Compare x [f] [y] _ => cmpB o f && chk a c false x && chk b c false y
    | _ => false
  | .chain o o' a b d, c, t, ex => match ex with
    | .Compare x [f, f'] [y, z] _ => cmpB o f && cmpB o' f' && chk a c false x && chk b c false y && chk d c false z
    | _ => false
  | .and a b, c, t, ex => match ex with
    | .BoolOp op [x, y] _ => isAnd op && !isVar b && chk a c t x && chk b c t y
    | .BoolOp op (x :: y :: z :: rest) pos => isAnd op && chk a c t x && chk b c t (.BoolOp .And (y :: z :: rest) pos)
    | _ => false
  | .or a b, c, t, ex => match ex with
    | .BoolOp op [x, y] _ => isOr op && !isVar b && chk a c t x && chk b c t y
    | .BoolOp op (x :: y :: z :: rest) pos => isOr op && chk a c t x && chk b c t (.BoolOp .Or (y :: z :: rest) pos)
    | _ => false
  | .not a, c, t, ex => match ex with
    | .UnaryOp .Not x _ => chk a c t x
    | _ => false
  | .ife d a b, c, t, ex => match ex with
    | .IfExp x y z _ => !t && chk d c true x && chk a c false y && chk b c false z
    | _ => false
  | .tup es, c, t, ex => match ex with
    | .Tuple xs _ _ => chkEs es c xs
    | _ => false
  | .lst es, c, t, ex => match ex with
    | .List xs _ => chkEs es c xs
    | _ => false
  | .rep es n, c, t, ex => match ex with
    | .BinOp (.List xs _) .Mult y _ => chkEs es c xs && chk n c false y
    | _ => false
  | .slF a lo, c, t, ex => match ex with
    | .Subscript x (.Slice (some y) none none _) _ => chk a c false x && chk lo c false y
    | _ => false
  | .slT a hi, c, t, ex => match ex with
    | .Subscript x (.Slice none (some y) none _) _ => chk a c false x && chk hi c false y
    | _ => false
  | .slB a lo hi, c, t, ex => match ex with
    | .Subscript x (.Slice (some y) (some z) none _) _ => chk a c false x && chk lo c false y && chk hi c false z
    | _ => false
  | .rev a, c, t, ex => match ex with
    | .Subscript x (.Slice none none (some (.UnaryOp .USub (.Constant (.int n) _ _) _)) _) _ => decide (n = 1) && chk a c false x
    | _ => false
  | .idx a b, c, t, ex => match ex with
    | .Subscript x y _ => chk a c false x && chk b c false y
    | _ => false
  | .call f es, c, t, ex => match ex with
    | .Call (.Name x _) xs [] _ => decide (x = f) && decide (f ∈ c.fns) && c.glob x && !(x == ("__debug__" : Str)) && chkEs es c xs
    | _ => false
  | .bf b a, c, t, ex => match ex with
    | .Call (.Name x _) [y] [] _ => c.bl x (bfNm b) && chk a c false y
    | _ => false
  | .mx2 a b, c, t, ex => match ex with
    | .Call (.Name x _) [y, z] [] _ => c.bl x "max" && chk a c false y && chk b c false z
    | _ => false
  | .mn2 a b, c, t, ex => match ex with
    | .Call (.Name x _) [y, z] [] _ => c.bl x "min" && chk a c false y && chk b c false z
    | _ => false
  | .isi ty a, c, t, ex => match ex with
    | .Call (.Name x _) [y, .Name z _] [] _ => c.bl x "isinstance" && c.bl z (tyName ty) && chk a c false y
    | _ => false
  | .lc vs tg it d e, c, t, ex => match ex with
    | .ListComp elt [⟨tx, ix, ifs, as⟩] sc _ => decide (as = 0) && c.blk sc vs && tgIn vs tg && chkTg (c.inner sc) tg tx && chkIt it c tx ix && chk e (c.inner sc) false elt &&
        (match ifs with | [] => isTrueC d | [f] => chk d (c.inner sc) true f | _ => false)
    | _ => false
  | .lc2 vs vs1 tg it d tg1 it1 d1 e, c, t, ex => match ex with
    | .ListComp elt [⟨tx, ix, ifs, as⟩, ⟨tx1, ix1, ifs1, as1⟩] sc _ => decide (as = 0) && decide (as1 = 0) && c.blk sc vs && tgIn vs tg && tgIn vs1 tg1 && (vs1.all fun i => decide (i ∈ vs)) && chkTg (c.inner sc) tg tx && chkIt it c tx ix &&
        chkTg (c.inner sc) tg1 tx1 && chkIt it1 (c.inner sc) tx1 ix1 && chk e (c.inner sc) false elt && (match ifs with | [] => isTrueC d | [f] => chk d (c.inner sc) true f | _ => false) && (match ifs1 with | [] => isTrueC d1 | [f] => chk d1 (c.inner sc) true f | _ => false)
    | _ => false
  | .lcD vs tg i d e, c, t, ex => match ex with
    | .ListComp elt [⟨tx, .Name x _, ifs, as⟩] sc _ => decide (as = 0) && c.blk sc vs && tgIn vs tg && chkTg (c.inner sc) tg tx && c.slot i x && chk e (c.inner sc) false elt &&
        (match ifs with | [] => isTrueC d | [f] => chk d (c.inner sc) true f | _ => false)
    | _ => false
  | .dc vs tg it d k v, c, t, ex => match ex with
    | .DictComp kx vx [⟨tx, ix, ifs, as⟩] sc _ => decide (as = 0) && c.blk sc vs && tgIn vs tg && chkTg (c.inner sc) tg tx && chkIt it c tx ix && chk k (c.inner sc) false kx && chk v (c.inner sc) false vx &&
        (match ifs with | [] => isTrueC d | [f] => chk d (c.inner sc) true f | _ => false)
    | _ => false
  | .disp ps, c, t, ex => match ex with
    | .Dict ks vs _ => chkPs ps c ks vs && decide (ks.length ≤ 15) && decide (ps.len ≤ 15)
    | _ => false
  | .pop i a, c, t, ex => match ex with
    | .Call (.Attribute (.Name x _) m apos) [y] [] cpos => decide (m = Str.ofString "pop") && c.slot i x && (apos.endLine == cpos.line) && chk a c false y
    | _ => false
  | .lrg a, c, t, ex => match ex with
    | .Call (.Name x _) [.Call (.Name y _) [z] [] _] [] _ => c.bl x "list" && c.bl y "range" && chk a c false z
    | _ => false
  | .get1 _ _, _, _, _ => false
  | .get2 _ _ _, _, _, _ => false
def chkEs : Es → CC → List Expr → Bool
  | .nil, c, es => match es with
    | [] => true
    | _ => false
  | .cons m ms, c, es => match es with
    | e :: es => chk m c false e && chkEs ms c es
    | _ => false
def chkPs : Ps → CC → List (Option Expr) → List Expr → Bool
  | .nil, c, ks, vs => match ks, vs with
    | [], [] => true
    | _, _ => false
  | .cons k v ps, c, ks, vs => match ks, vs with
    | some ke :: ks, ve :: vs => chk k c false ke && chk v c false ve && chkPs ps c ks vs
    | _, _ => false
def chkIt : It → CC → Expr → Expr → Bool
  | .sq e, c, tg, x => chk e c false x
  | .rg1 a, c, tg, x => match x with
    | .Call (.Name x _) [y] [] _ => c.bl x "range" && chk a c false y
    | _ => false
  | .rg2 a b, c, tg, x => match x with
    | .Call (.Name x _) [y, z] [] _ => c.bl x "range" && chk a c false y && chk b c false z
    | _ => false
  | .en a, c, tg, x => match tg, x with
    | .Tuple _ _ _, .Call (.Name x _) [y] [] _ => c.bl x "enumerate" && chk a c false y
    | _, _ => false
  | .zp a b, c, tg, x => match tg, x with
    | .Tuple _ _ _, .Call (.Name x _) [y, z] [] _ => c.bl x "zip" && chk a c false y && chk b c false z
    | _, _ => false
end
def chkAm : List Bool → Es → CC → List Expr → Bool
  | [], .nil, c, [] => true
  | o :: fl, .cons m ms, c, e :: es => chk m c false e && (!o || looseE m) && chkAm fl ms c es
  | _, _, _, _ => false
/-- is a comprehension stored where its own frame is left? -/
def swB (c : CC) (x : Str) (px : Pos) (e : Expr) : Bool := match e with
  | .ListComp _ _ sc pos => isLoc (c.names.lookup x) && px.line == pos.line && !sc.names.any fun (n, k) => n == x && (k == .local || k == .cell)
  | .DictComp _ _ _ sc pos => isLoc (c.names.lookup x) && px.line == pos.line && !sc.names.any fun (n, k) => n == x && (k == .local || k == .cell)
  | .SetComp _ _ sc pos => isLoc (c.names.lookup x) && px.line == pos.line && !sc.names.any fun (n, k) => n == x && (k == .local || k == .cell)
  | _ => false
def isLc : E → Bool | .lc .. => true | .lc2 .. => true | _ => false
def isSlice : Expr → Bool | .Slice .. => true | _ => false
def isStar : Expr → Bool | .Starred .. => true | _ => false
def noLoc (c : CC) : Expr → Bool
  | .Name x _ => !isLoc (c.names.lookup x)
  | _ => true
/-- a tuple's stores go their plain way -/
def swNone (c : CC) (tg e : Expr) : Bool := match tg, e with
  | .Tuple ts _ _, .Tuple vs _ _ => !(ts.length == 2 || ts.length == 3) || vs.length != ts.length || vs.all (foldedForSure 8) || ts.any (noLoc c)
  | .Tuple _ _ _, _ => true
  | .Subscript _ _ _, _ => true
  | _, _ => false
mutual
def chkS : St → CC → Stmt → Bool
  | .asg i m, c, st => match st with
    | .Assign [.Name x px] e _ => c.tgt i x && chk m c false e && (!swB c x px e || isLc m)
    | _ => false
  | .asgO i m, c, st => match st with
    | .Assign [.Name x px] e _ => c.tgt i x && looseE m && chk m c false e && (!swB c x px e || isLc m)
    | _ => false
  | .unp t m, c, st => match st with
    | .Assign [.Tuple es k pos] e _ => chkTg c t (.Tuple es k pos) && chk m c false e && swNone c (.Tuple es k pos) e
    | _ => false
  | .setI i k m, c, st => match st with
    | .Assign [.Subscript (.Name x _) y _] e _ => c.slot i x && chk k c false y && chk m c false e && !isSlice y
    | _ => false
  | .app i m, c, st => match st with
    | .Expr (.Call (.Attribute (.Name x _) nm apos) [y] [] cpos) _ => decide (nm = Str.ofString "append") && c.slot i x && (apos.endLine == cpos.line) && chk m c false y
    | _ => false
  | .ext i m, c, st => match st with
    | .Expr (.Call (.Attribute (.Name x _) nm apos) [y] [] cpos) _ => decide (nm = Str.ofString "extend") && c.slot i x && (apos.endLine == cpos.line) && looseE m && chk m c false y
    | _ => false
  | .ifs d a b, c, st => match st with
    | .If x y z _ => chk d c true x && chkSs a c y && chkSs b c z
    | _ => false
  | .fors t it body, c, st => match st with
    | .For tx ix b [] _ => chkTg c t tx && chkIt it c tx ix && chkSs body c b
    | _ => false
  | .whl d body, c, st => match st with
    | .While x b [] _ => chk d c true x && chkSs body c b
    | _ => false
  | .ret m, c, st => match st with
    | .Return (some e) _ => chk m c false e
    | _ => false
  | .retN, c, st => match st with
    | .Return none _ => true
    | _ => false
  | .brk, c, st => match st with
    | .Break _ => true
    | _ => false
  | .cont, c, st => match st with
    | .Continue _ => true
    | _ => false
  | .ex m, c, st => match st with
    | .Expr e _ => chk m c false e && !isComp e
    | _ => false
  | .fail, c, _ => true
  | .par is ms, c, st => match is, st with
    | [(i, o1), (j, o2)], .Assign [.Tuple [.Name x px, .Name y py] _ _] (.Tuple [a, b] _ _) _ =>
        c.at i x && c.at j y && decide (i ≠ j) && c.loc x && c.loc y && px.line == py.line && chkAm [o1, o2] ms c [a, b] && !isStar a && !isStar b && !([a, b].all (foldedForSure 8)) && !([a, b].all (constantsAlone 8))
    | [(i, o1), (j, o2), (l, o3)], .Assign [.Tuple [.Name x px, .Name y py, .Name z pz] _ _] (.Tuple [a, b, d] _ _) _ =>
        c.at i x && c.at j y && c.at l z && decide (i ≠ j) && decide (i ≠ l) && decide (j ≠ l) && c.loc x && c.loc y && c.loc z && px.line == py.line && px.line == pz.line && chkAm [o1, o2, o3] ms c [a, b, d] && !isStar a && !isStar b && !isStar d && !([a, b, d].all (foldedForSure 8)) && !([a, b, d].all (constantsAlone 8))
    | _, _ => false
def chkSs : List St → CC → List Stmt → Bool
  | [], c, [] => true
  | m :: ms, c, s :: ss => chkS m c s && chkSs ms c ss
  | _, _, _ => false
end
end Iv

namespace Iv
open PySem L2 PyProof.Rows
open Evl (Ex)
structure Fits (p : Pm) (X : Cx) (k : Nat) (c : CC) : Prop where
  N : X.N = c.N
  nd : X.N.Nodup
  names : X.env.scope.names = c.names
  kind : X.env.scope.kind = .function
  K : X.K = p.K
  calm : X.calm = true
  room : Room k X.A
  fn : ∀ x, c.isFn x = true → X.fn x = true
  bl : ∀ x, x ∈ blNames → X.mg x = none
  fns : ∀ x, x ∈ c.fns → Callable p X k x
  cs : ∀ x n, c.cs.lookup x = some n → ∃ u, X.mg x = some u ∧ RelV (.int n) u
theorem isLoc_eq {k : Option NameKind} (h : isLoc k = true) : k = some .local := by
  unfold isLoc at h; split at h <;> first | rfl | cases h
theorem isCell_eq {k : Option NameKind} (h : isCell k = true) : k = some .cell := by
  unfold isCell at h; split at h <;> first | rfl | cases h
theorem isFree_eq {k : Option NameKind} (h : isFree k = true) : k = some .free := by
  unfold isFree at h; split at h <;> first | rfl | cases h
theorem isGlob_eq {k : Option NameKind} (h : isGlob k = true) : k = some .globalImplicit := by
  unfold isGlob at h; split at h <;> first | rfl | cases h
section
variable {p : Pm} {X : Cx} {k : Nat} {c : CC}
theorem Fits.gl (f : Fits p X k c) {x : Str} (h : c.glob x = true) : Gl X x := by
  unfold Gl Env.kindOf
  rw [f.names]; exact isGlob_eq h
theorem Fits.lo (f : Fits p X k c) {x : Str} (h : c.loc x = true) : X.env.scope.names.lookup x = some .local := by
  rw [f.names]; exact isLoc_eq h
theorem Fits.at (f : Fits p X k c) {i : Nat} {x : Str} (h : c.at i x = true) : X.N[i]? = some x := by
  rw [f.N]; exact of_decide_eq_true h
theorem Fits.visO (f : Fits p X k c) {x : Str} (h : c.vis x = true) : Vis X.env.scope x := by
  unfold Vis
  rw [f.names]
  unfold CC.vis at h
  simp only [Bool.or_eq_true] at h
  rcases h with (h | h) | h
  · exact .inl (isLoc_eq h)
  · exact .inr (.inl (isCell_eq h))
  · exact .inr (.inr (isFree_eq h))
theorem Fits.slot (f : Fits p X k c) {i : Nat} {x : Str} {pos : Pos} (h : c.slot i x = true) : OkE p X (.Name x pos) (.var i) := by
  unfold CC.slot at h
  simp only [Bool.and_eq_true, Bool.not_eq_true'] at h
  obtain ⟨⟨⟨h1, h2⟩, h3⟩, h4⟩ := h
  exact e_var (f.at h1) (f.visO h2) h3 h4
theorem Fits.blx (f : Fits p X k c) {x : Str} {nm : String} (h : c.bl x nm = true) : x = Str.ofString nm ∧ Gl X x ∧ X.mg x = none := by
  unfold CC.bl at h
  simp only [Bool.and_eq_true, decide_eq_true_eq] at h
  exact ⟨h.1.1, f.gl h.2, f.bl x h.1.2⟩
theorem Fits.tgt (f : Fits p X k c) {i : Nat} {x : Str} {pos : Pos} (h : c.tgt i x = true) : X.N[i]? = some x ∧ L2.Loc X.env.scope x ∧ (X.fn x = true ∨ X.env.scope.names.lookup x = some .local) := by
  unfold CC.tgt at h
  simp only [Bool.and_eq_true, Bool.or_eq_true] at h
  refine ⟨f.at h.1, ?_⟩
  unfold L2.Loc
  rw [f.names]
  rcases h.2 with h | ⟨h, h'⟩
  · exact ⟨.inl (isLoc_eq h), .inr (isLoc_eq h)⟩
  · exact ⟨.inr (isCell_eq h), .inl (f.fn x h')⟩
mutual
theorem tg_ok (f : Fits p X k c) : ∀ {t : Tg} {e : Expr}, chkTg c t e = true → PG X e (gT p.K t) ∧ ∀ env es, assignEach (e :: es) env = (false, assign e env) :: assignEach es env
  | .nm i, e, h => by
    cases e <;> simp only [chkTg, Bool.false_eq_true] at h
    obtain ⟨h1, h2, h3⟩ := f.tgt (pos := ⟨0, 0, 0, 0⟩) h
    exact ⟨pg_name f.nd h1 h2 h3, fun _ _ => rfl⟩
  | .tp ts, e, h => by
    cases e <;> simp only [chkTg, Bool.false_eq_true] at h
    obtain ⟨h1, h2, h3⟩ := tgs_ok f h
    refine ⟨?_, fun _ _ => rfl⟩
    show PG X _ (gTup p.K ts.length (gTs p.K ts))
    rw [← f.K]
    rw [← f.K] at h1
    refine pg_tup f.calm h1 (by rw [h2, h3]; simp) ?_
    rw [h2, List.findIdx?_eq_none_iff]
    intro x hx
    simp only [List.mem_map] at hx
    obtain ⟨y, _, rfl⟩ := hx
    rfl
theorem tgs_ok (f : Fits p X k c) : ∀ {t : List Tg} {es : List Expr}, chkTgs c t es = true → PGs X es (gTs p.K t) ∧ (∀ env, assignEach es env = es.map fun e => (false, assign e env)) ∧ t.length = es.length
  | [], es, h => by
    cases es <;> simp only [chkTgs, Bool.false_eq_true] at h
    exact ⟨pgs_nil, fun _ => rfl, rfl⟩
  | t :: ts, es, h => by
    cases es <;> simp only [chkTgs, Bool.false_eq_true, Bool.and_eq_true] at h
    obtain ⟨h1, h2⟩ := tg_ok f h.1
    obtain ⟨h3, h4, h5⟩ := tgs_ok f h.2
    exact ⟨pgs_cons h1 h3 (by rw [h2]; rfl), fun env => by rw [h2, h4]; rfl, by simp [h5]⟩
end
/-! ### within a comprehension -/
theorem blk_ok (f : Fits p X k c) {sc : Scope} {vs : List Nat} (h : c.blk sc vs = true) : BlkOk X.N X.env.scope sc (c.ownOf vs) := by
  unfold CC.blk at h
  simp only [Bool.and_eq_true] at h
  obtain ⟨⟨⟨⟨h1, h2⟩, h3⟩, h4⟩, h5⟩ := h
  refine ⟨?_, fun y hy => ?_, fun q hq => ?_, fun y hy e => ?_, fun y hy e => ?_⟩
  · unfold isFunK at h1; split at h1
    · assumption
    · cases h1
  · exact of_decide_eq_true (List.all_eq_true.mp h2 y hy)
  · unfold CC.ownOf at hq
    obtain ⟨v, hv, rfl⟩ := List.mem_map.mp hq
    have := of_decide_eq_true (List.all_eq_true.mp h3 v hv)
    rw [f.N]
    simp [List.getD_eq_getElem?_getD, List.getElem?_eq_getElem this]
  · have := List.all_eq_true.mp h4 y hy
    rw [e] at this
    simp only [Bool.or_eq_true, isFree, Bool.not_true, Bool.false_eq_true, false_or] at this
    rw [f.names]
    rcases this with h | h
    · exact .inl (isCell_eq h)
    · exact .inr (isFree_eq h)
  · have := List.all_eq_true.mp h5 y hy
    simp only [Bool.or_eq_true, Bool.not_eq_true', decide_eq_true_eq, decide_eq_false_iff_not] at this
    rw [f.N]
    rcases this with (h | h) | h
    · simp only [Bool.or_eq_false_iff] at h
      rcases e with e | e <;> rw [e] at h <;> simp [isLoc, isCell] at h
    · exact .inl h
    · exact .inr h
theorem own_map (vs : List Nat) : (c.ownOf vs).map (fun x => x.2) = vs := by
  unfold CC.ownOf
  rw [List.map_map]
  exact List.map_id' _
theorem Fits.inner (f : Fits p X k c) {sc : Scope} (hk : isFunK sc.kind = true) (s : Shared) (H : Hp) (C : Addr) (cl : List (Str × Addr)) (fp : List Addr) : Fits p (X.blk s H sc (compEnvC sc cl C X.env) fp) k (c.inner sc) where
  N := f.N
  nd := f.nd
  names := by
    show (relabel sc X.env).names = _
    unfold relabel CC.inner
    simp only
    apply List.map_congr_left
    rintro ⟨n, kd⟩ _
    simp only
    have e1 : (X.env.scope.kind == ScopeKind.function) = true := by rw [f.kind]; rfl
    have e2 : (kd == NameKind.free) = isFree (some kd) := by cases kd <;> rfl
    have e3 : (X.env.kindOf n == some NameKind.cell) = isCell (c.names.lookup n) := by
      unfold Env.kindOf
      rw [f.names]
      cases hl : List.lookup n c.names with
      | none => rfl
      | some kk => cases kk <;> rfl
    rw [e1, e2, e3, Bool.and_true]
  kind := by
    unfold isFunK at hk; split at hk
    · rename_i e
      show (relabel sc X.env).kind = _
      unfold relabel; exact e
    · cases hk
  K := f.K
  calm := f.calm
  room := f.room
  fn := fun x h => by
    have h : isCell (sc.names.lookup x) = true := h
    show (List.lookup x sc.names == some NameKind.cell) = true
    rw [isCell_eq h]; rfl
  bl := f.bl
  fns := fun x hx => ⟨(f.fns x hx).ex, (f.fns x hx).room⟩
  cs := f.cs
theorem blk_kind {sc : Scope} {vs : List Nat} (h : c.blk sc vs = true) : isFunK sc.kind = true := by
  unfold CC.blk at h
  simp only [Bool.and_eq_true] at h
  exact h.1.1.1.1
/-! ### operators -/
theorem opB_ok (f : Fits p X k c) {o : Op2} {g : Operator} (h : opB o g = true) : OpR X (binaryOp g) (rG p (op2 o)) := by
  cases o <;> cases g <;> simp only [opB, Bool.false_eq_true] at h
  · exact ok_add f.K
  · exact ok_sub
  · exact ok_mul
  · exact ok_fdiv
  · exact ok_mod
  · exact ok_pow
theorem cmpB_ok (f : Fits p X k c) {o : Op2} {g : CmpOp} (h : cmpB o g = true) : OpR X (compareOp g) (rG p (op2 o)) := by
  cases o <;> cases g <;> simp only [cmpB, Bool.false_eq_true] at h
  · exact ok_eq f.K f.room
  · exact ok_ne f.K f.room
  · exact ok_lt
  · exact ok_le
  · exact ok_gt
  · exact ok_ge
  · exact ok_in f.K f.room
  · exact ok_notin f.K f.room
  · exact ok_is
  · exact ok_isnot
def isBO : Expr → Bool | .BoolOp .. => true | _ => false
def LooseOk (p : Pm) (X : Cx) (m : E) (e : Expr) : Prop := PE X e (tL p m) ∧ (isLc m = true → ∀ (i : Nat) (y : Str) (py spos : Pos), X.N[i]? = some y → List.lookup y X.env.scope.names = some NameKind.local → swapsWith e (some (.Name y py)) spos.line X.env = pure true →
  ∃ te, PS X (.Assign [.Name y py] e spos) (tAsg te (gName i)) ∧ ∀ σ H Q, tL p m σ H Q → te σ H Q)
structure Res (p : Pm) (X : Cx) (m : E) (t : Bool) (e : Expr) : Prop where
  v : t = false → OkE p X e m
  l : t = false → looseE m = true → LooseOk p X m e
  ts : t = true → OkT p X e m
  w : t = true → isBO e = true → OkW p X e m
theorem Res.of {m : E} {t : Bool} {e : Expr} (h : OkE p X e m) (hl : looseE m = false) (hf : ∀ env whole, PySem.isTrue e env whole = (do let v ← whole; standAt e.pos; holding [v] (truthy v))) (hb : isBO e = false) : Res p X m t e :=
  ⟨fun _ => h, fun _ x => (by rw [hl] at x; cases x), fun _ => t_val h hf, fun _ x => (by rw [hb] at x; cases x)⟩
theorem Res.ofT {m : E} {t : Bool} {e : Expr} (h : OkE p X e m) (hl : looseE m = false) (ht : OkT p X e m) (hb : isBO e = false) : Res p X m t e :=
  ⟨fun _ => h, fun _ x => (by rw [hl] at x; cases x), fun _ => ht, fun _ x => (by rw [hb] at x; cases x)⟩
theorem Res.ofL {m : E} {t : Bool} {e : Expr} (h : PE X e (tL p m)) (fm : Frm e) (hv : ∀ i, m ≠ .var i) (hs : isLc m = true → ∀ (i : Nat) (y : Str) (py spos : Pos), X.N[i]? = some y → List.lookup y X.env.scope.names = some NameKind.local → swapsWith e (some (.Name y py)) spos.line X.env = pure true →
  ∃ te, PS X (.Assign [.Name y py] e spos) (tAsg te (gName i)) ∧ ∀ σ H Q, tL p m σ H Q → te σ H Q) (hf : ∀ env whole, PySem.isTrue e env whole = (do let v ← whole; standAt e.pos; holding [v] (truthy v))) (hb : isBO e = false) : Res p X m t e :=
  ⟨fun _ => .ofL fm h hv, fun _ _ => ⟨h, hs⟩, fun _ => t_val (.ofL fm h hv) hf, fun _ x => (by rw [hb] at x; cases x)⟩
theorem notVar {m : E} (h : (!isVar m) = true) : ∀ i, m ≠ .var i := fun i e => by rw [e] at h; cases h
theorem e_const {d : PyData} {kc : Const} {n : Nat} {pos : Pos} (h : constB d kc = true) : OkE p X (.Constant kc n pos) (.cst d) := by
  cases d <;> cases kc <;> simp only [constB, Bool.false_eq_true, decide_eq_true_eq] at h
  · exact e_cst .mk' pe_non fun _ _ _ => .non
  · subst h; exact e_cst .mk' pe_bl fun _ _ _ => .bl _
  · subst h; exact e_cst .mk' pe_int fun _ _ _ => .int _
  · subst h; exact e_cst .mk' pe_str fun _ _ _ => .str _
theorem stars_any {es : List Expr} {env : Env} (h : starEach es env = es.map fun e => (false, eval e env)) (pos : Pos) : ((backTo pos (starEach es env)).any fun x => x.fst) = false := by
  rw [h]
  unfold backTo
  rw [List.map_map, List.any_eq_false]
  intro x hx
  obtain ⟨y, _, rfl⟩ := List.mem_map.mp hx
  simp
mutual
theorem chk_ok : ∀ (m : E) {X : Cx} {c : CC} {t : Bool} {e : Expr}, Fits p X k c → chk m c t e = true → Res p X m t e
  | .var i, X, c, t, e, f, h => by
    simp only [chk] at h
    split at h
    case h_2 => cases h
    exact .of (f.slot h) rfl (fun _ _ => rfl) rfl
  | .cst d, X, c, t, e, f, h => by
    simp only [chk] at h
    split at h
    case h_3 => cases h
    · exact .of (e_const h) rfl (fun _ _ => rfl) rfl
    · simp only [Bool.and_eq_true, Bool.not_eq_true'] at h
      obtain ⟨⟨h1, h2⟩, h3⟩ := h
      split at h3
      case h_2 => cases h3
      obtain ⟨u, hu, hr⟩ := f.cs _ _ (of_decide_eq_true h3)
      exact .of (e_cst .mk' (pe_glob (f.gl h1) hu hr h2) fun _ _ _ => .int _) rfl (fun _ _ => rfl) rfl
  | .neg a, X, c, t, e, f, h => by
    simp only [chk] at h
    split at h
    case h_2 => cases h
    exact .of (e_neg ((chk_ok a f h).v rfl)) rfl (fun _ _ => rfl) rfl
  | .op o a b, X, c, t, e, f, h => by
    simp only [chk] at h
    split at h
    case h_3 => cases h
    · simp only [Bool.and_eq_true] at h
      exact .of (e_bin (opB_ok f h.1.1) ((chk_ok a f h.1.2).v rfl) ((chk_ok b f h.2).v rfl)) rfl (fun _ _ => rfl) rfl
    · simp only [Bool.and_eq_true] at h
      exact .ofT (e_cmp (cmpB_ok f h.1.1) ((chk_ok a f h.1.2).v rfl) ((chk_ok b f h.2).v rfl)) rfl (t_op (cmpB_ok f h.1.1) ((chk_ok a f h.1.2).v rfl) ((chk_ok b f h.2).v rfl)) rfl
  | .chain o o' a b d, X, c, t, e, f, h => by
    simp only [chk] at h
    split at h
    case h_2 => cases h
    simp only [Bool.and_eq_true] at h
    obtain ⟨⟨⟨⟨h1, h2⟩, h3⟩, h4⟩, h5⟩ := h
    exact .ofT (e_chain (cmpB_ok f h1) (cmpB_ok f h2) ((chk_ok a f h3).v rfl) ((chk_ok b f h4).v rfl) ((chk_ok d f h5).v rfl)) rfl (t_chain (cmpB_ok f h1) (cmpB_ok f h2) ((chk_ok a f h3).v rfl) ((chk_ok b f h4).v rfl) ((chk_ok d f h5).v rfl)) rfl
  | .and a b, X, c, t, e, f, h => by
    simp only [chk] at h
    split at h
    case h_3 => cases h
    · simp only [Bool.and_eq_true] at h
      obtain ⟨⟨⟨h1, h2⟩, h3⟩, h4⟩ := h
      rename_i op x y pos
      cases op <;> try cases h1
      have A := chk_ok a f h3
      have B := chk_ok b f h4
      exact ⟨fun z => e_and (A.v z) (e_one (B.v z) (notVar h2)), fun _ z => (by cases z), fun z => (w_and (A.ts z) (w_and1 (B.ts z))).pt, fun z _ => w_and (A.ts z) (w_and1 (B.ts z))⟩
    · simp only [Bool.and_eq_true] at h
      obtain ⟨⟨h1, h3⟩, h4⟩ := h
      rename_i op x y z rest pos
      cases op <;> try cases h1
      have A := chk_ok a f h3
      have B := chk_ok b f h4
      exact ⟨fun z => e_and (A.v z) (B.v z), fun _ z => (by cases z), fun z => (w_and (A.ts z) (B.w z rfl)).pt, fun z _ => w_and (A.ts z) (B.w z rfl)⟩
  | .or a b, X, c, t, e, f, h => by
    simp only [chk] at h
    split at h
    case h_3 => cases h
    · simp only [Bool.and_eq_true] at h
      obtain ⟨⟨⟨h1, h2⟩, h3⟩, h4⟩ := h
      rename_i op x y pos
      cases op <;> try cases h1
      have A := chk_ok a f h3
      have B := chk_ok b f h4
      exact ⟨fun z => e_or (A.v z) (e_one (B.v z) (notVar h2)), fun _ z => (by cases z), fun z => (w_or (A.ts z) (w_or1 (B.ts z))).pt, fun z _ => w_or (A.ts z) (w_or1 (B.ts z))⟩
    · simp only [Bool.and_eq_true] at h
      obtain ⟨⟨h1, h3⟩, h4⟩ := h
      rename_i op x y z rest pos
      cases op <;> try cases h1
      have A := chk_ok a f h3
      have B := chk_ok b f h4
      exact ⟨fun z => e_or (A.v z) (B.v z), fun _ z => (by cases z), fun z => (w_or (A.ts z) (B.w z rfl)).pt, fun z _ => w_or (A.ts z) (B.w z rfl)⟩
  | .not a, X, c, t, e, f, h => by
    simp only [chk] at h
    split at h
    case h_2 => cases h
    have A := chk_ok a f h
    exact ⟨fun z => e_not (A.v z), fun _ z => (by cases z), fun z => t_not (A.ts z), fun _ z => (by cases z)⟩
  | .ife d a b, X, c, t, e, f, h => by
    simp only [chk] at h
    split at h
    case h_2 => cases h
    simp only [Bool.and_eq_true, Bool.not_eq_true'] at h
    obtain ⟨⟨⟨h1, h2⟩, h3⟩, h4⟩ := h
    exact ⟨fun z => e_ife ((chk_ok d f h2).ts rfl) ((chk_ok a f h3).v rfl) ((chk_ok b f h4).v rfl), fun _ z => (by cases z), fun z => (by rw [h1] at z; cases z), fun z => (by rw [h1] at z; cases z)⟩
  | .tup es, X, c, t, e, f, h => by
    simp only [chk] at h
    split at h
    case h_2 => cases h
    exact .of (e_tup (chkEs_ok es f h).1) rfl (fun _ _ => rfl) rfl
  | .lst es, X, c, t, e, f, h => by
    simp only [chk] at h
    split at h
    case h_2 => cases h
    exact .ofL (l_lst (chkEs_ok es f h).1) .mk' (fun i z => by cases z) (fun z => by cases z) (fun _ _ => rfl) rfl
  | .rep es n, X, c, t, e, f, h => by
    simp only [chk] at h
    split at h
    case h_2 => cases h
    simp only [Bool.and_eq_true] at h
    exact .ofL (l_rep (chkEs_ok es f h.1).1 ((chk_ok n f h.2).v rfl)) .mk' (fun i z => by cases z) (fun z => by cases z) (fun _ _ => rfl) rfl
  | .slF a lo, X, c, t, e, f, h => by
    simp only [chk] at h
    split at h
    case h_2 => cases h
    simp only [Bool.and_eq_true] at h
    exact .of (e_slF f.K ((chk_ok a f h.1).v rfl) ((chk_ok lo f h.2).v rfl)) rfl (fun _ _ => rfl) rfl
  | .slT a lo, X, c, t, e, f, h => by
    simp only [chk] at h
    split at h
    case h_2 => cases h
    simp only [Bool.and_eq_true] at h
    exact .of (e_slT f.K ((chk_ok a f h.1).v rfl) ((chk_ok lo f h.2).v rfl)) rfl (fun _ _ => rfl) rfl
  | .slB a lo hi, X, c, t, e, f, h => by
    simp only [chk] at h
    split at h
    case h_2 => cases h
    simp only [Bool.and_eq_true] at h
    exact .of (e_slB f.K ((chk_ok a f h.1.1).v rfl) ((chk_ok lo f h.1.2).v rfl) ((chk_ok hi f h.2).v rfl)) rfl (fun _ _ => rfl) rfl
  | .rev a, X, c, t, e, f, h => by
    simp only [chk] at h
    split at h
    case h_2 => cases h
    simp only [Bool.and_eq_true, decide_eq_true_eq] at h
    obtain ⟨rfl, h⟩ := h
    exact .of (e_rev f.K ((chk_ok a f h).v rfl)) rfl (fun _ _ => rfl) rfl
  | .idx a b, X, c, t, e, f, h => by
    simp only [chk] at h
    split at h
    case h_2 => cases h
    simp only [Bool.and_eq_true] at h
    exact .of (e_idx f.K f.room ((chk_ok a f h.1).v rfl) ((chk_ok b f h.2).v rfl)) rfl (fun _ _ => rfl) rfl
  | .call fn es, X, c, t, e, f, h => by
    simp only [chk] at h
    split at h
    case h_2 => cases h
    simp only [Bool.and_eq_true, decide_eq_true_eq, Bool.not_eq_true'] at h
    obtain ⟨⟨⟨⟨rfl, h2⟩, h3⟩, h4⟩, h5⟩ := h
    obtain ⟨A, S⟩ := chkEs_ok es f h5
    rename_i x q xs pos
    cases xs with
    | nil =>
      cases es with
      | nil => exact .of (e_call0 f.K (f.gl h3) (f.fns _ h2) h4) rfl (fun _ _ => rfl) rfl
      | cons _ _ => simp [chkEs] at h5
    | cons y ys =>
      have S1 : ∀ env, starEach ys env = ys.map fun e => (false, eval e env) := fun env => by
        cases es with
        | nil => simp [chkEs] at h5
        | cons m ms =>
          simp only [chkEs, Bool.and_eq_true] at h5
          exact (chkEs_ok ms f h5.2).2 env
      exact .of (e_call f.K (f.gl h3) (f.fns _ h2) A h4 (by rw [S, S1]; rfl) (stars_any (S1 _) pos)) rfl (fun _ _ => rfl) rfl
  | .bf b a, X, c, t, e, f, h => by
    simp only [chk] at h
    split at h
    case h_2 => cases h
    simp only [Bool.and_eq_true] at h
    obtain ⟨e1, e2, e3⟩ := f.blx h.1
    have A := (chk_ok a f h.2).v rfl
    by_cases hb : bfLoose b = true
    · exact .ofL (l_bf f.K f.calm f.room hb e1 e2 e3 A) .mk' (fun i z => by cases z) (fun z => by cases z) (fun _ _ => rfl) rfl
    · exact .of (e_bf f.K f.calm f.room e1 e2 e3 A) (by simpa [looseE] using hb) (fun _ _ => rfl) rfl
  | .mx2 a b, X, c, t, e, f, h => by
    simp only [chk] at h
    split at h
    case h_2 => cases h
    simp only [Bool.and_eq_true] at h
    obtain ⟨e1, e2, e3⟩ := f.blx h.1.1
    subst e1
    exact .of (e_mx2 f.calm e2 e3 ((chk_ok a f h.1.2).v rfl) ((chk_ok b f h.2).v rfl)) rfl (fun _ _ => rfl) rfl
  | .mn2 a b, X, c, t, e, f, h => by
    simp only [chk] at h
    split at h
    case h_2 => cases h
    simp only [Bool.and_eq_true] at h
    obtain ⟨e1, e2, e3⟩ := f.blx h.1.1
    subst e1
    exact .of (e_mn2 f.calm e2 e3 ((chk_ok a f h.1.2).v rfl) ((chk_ok b f h.2).v rfl)) rfl (fun _ _ => rfl) rfl
  | .isi ty a, X, c, t, e, f, h => by
    simp only [chk] at h
    split at h
    case h_2 => cases h
    simp only [Bool.and_eq_true] at h
    obtain ⟨e1, e2, e3⟩ := f.blx h.1.1
    obtain ⟨e4, e5, e6⟩ := f.blx h.1.2
    subst e1
    exact .of (e_isi f.K e2 e3 e4 e5 e6 ((chk_ok a f h.2).v rfl)) rfl (fun _ _ => rfl) rfl
  | .lc vs tg it d el, X, c, t, e, f, h => by
    simp only [chk] at h
    split at h
    case h_2 => cases h
    rename_i elt tx ix ifs as sc pos
    simp only [Bool.and_eq_true, decide_eq_true_eq] at h
    obtain ⟨⟨⟨⟨⟨⟨rfl, h1⟩, h2⟩, h3⟩, h4⟩, h5⟩, h6⟩ := h
    have hk := blk_kind h1
    obtain ⟨I1, I2⟩ := chkIt_ok it f h4
    have ht : ∀ (s : Shared) (H : Hp) (C : Addr) (cl : List (Str × Addr)) (fp : List Addr), PTs (X.blk s H sc (compEnvC sc cl C X.env) fp) ifs (tB1 p d) := by
      intro s H C cl fp
      split at h6
      · unfold isTrueC at h6; split at h6
        · exact w_nil
        · cases h6
      · exact w_one ((chk_ok d (f.inner hk s H C cl fp) h6).ts rfl)
      · cases h6
    have he : ∀ (s : Shared) (H : Hp) (C : Addr) (cl : List (Str × Addr)) (fp : List Addr), PE (X.blk s H sc (compEnvC sc cl C X.env) fp) elt (tE p el) := fun s H C cl fp => ((chk_ok el (f.inner hk s H C cl fp) h5).v rfl).pe
    have hg : ∀ (s : Shared) (H : Hp) (C : Addr) (cl : List (Str × Addr)) (fp : List Addr), PG (X.blk s H sc (compEnvC sc cl C X.env) fp) tx (gT p.K tg) := fun s H C cl fp => (tg_ok (f.inner hk s H C cl fp) h3).1
    refine .ofL (l_lc f.calm f.nd I1 (blk_ok f h1) hg ht he (I2 _) (own_map vs) h2) .mk' (fun i z => by cases z) (fun _ i y py spos hi hy hs => ?_) (fun _ _ => rfl) rfl
    have P := ps_setLc (py := py) (spos := spos) f.calm f.nd hi hy hs I1 (blk_ok f h1) hg ht he (I2 _)
    rw [own_map] at P
    exact ⟨_, P, fun σ H Q => lc_read h2⟩
  | .lc2 vs vs1 tg it d tg1 it1 d1 el, X, c, t, e, f, h => by
    simp only [chk] at h
    split at h
    case h_2 => cases h
    rename_i elt tx ix ifs as tx1 ix1 ifs1 as1 sc pos
    simp only [Bool.and_eq_true, decide_eq_true_eq] at h
    obtain ⟨⟨⟨⟨⟨⟨⟨⟨⟨⟨⟨⟨rfl, rfl⟩, h1⟩, h2⟩, h3⟩, h4⟩, h5⟩, h6⟩, h7⟩, h8⟩, h9⟩, h10⟩, h11⟩ := h
    have hk := blk_kind h1
    have hvv : ∀ i, i ∈ vs1 → i ∈ vs := fun i hi => of_decide_eq_true (List.all_eq_true.mp h4 i hi)
    obtain ⟨I1, I2⟩ := chkIt_ok it f h6
    have ht : ∀ (s : Shared) (H : Hp) (C : Addr) (cl : List (Str × Addr)) (fp : List Addr), PTs (X.blk s H sc (compEnvC sc cl C X.env) fp) ifs (tB1 p d) := by
      intro s H C cl fp
      split at h10
      · unfold isTrueC at h10; split at h10
        · exact w_nil
        · cases h10
      · exact w_one ((chk_ok d (f.inner hk s H C cl fp) h10).ts rfl)
      · cases h10
    have ht1 : ∀ (s : Shared) (H : Hp) (C : Addr) (cl : List (Str × Addr)) (fp : List Addr), PTs (X.blk s H sc (compEnvC sc cl C X.env) fp) ifs1 (tB1 p d1) := by
      intro s H C cl fp
      split at h11
      · unfold isTrueC at h11; split at h11
        · exact w_nil
        · cases h11
      · exact w_one ((chk_ok d1 (f.inner hk s H C cl fp) h11).ts rfl)
      · cases h11
    have he : ∀ (s : Shared) (H : Hp) (C : Addr) (cl : List (Str × Addr)) (fp : List Addr), PE (X.blk s H sc (compEnvC sc cl C X.env) fp) elt (tE p el) := fun s H C cl fp => ((chk_ok el (f.inner hk s H C cl fp) h9).v rfl).pe
    have hg : ∀ (s : Shared) (H : Hp) (C : Addr) (cl : List (Str × Addr)) (fp : List Addr), PG (X.blk s H sc (compEnvC sc cl C X.env) fp) tx (gT p.K tg) := fun s H C cl fp => (tg_ok (f.inner hk s H C cl fp) h5).1
    have hg1 : ∀ (s : Shared) (H : Hp) (C : Addr) (cl : List (Str × Addr)) (fp : List Addr), PG (X.blk s H sc (compEnvC sc cl C X.env) fp) tx1 (gT p.K tg1) := fun s H C cl fp => (tg_ok (f.inner hk s H C cl fp) h7).1
    have hi1 : ∀ (s : Shared) (H : Hp) (C : Addr) (cl : List (Str × Addr)) (fp : List Addr), OkI p (X.blk s H sc (compEnvC sc cl C X.env) fp) tx1 ix1 it1 := fun s H C cl fp => (chkIt_ok it1 (f.inner hk s H C cl fp) h8).1
    have hf1 : ∀ (env : Env) (x : Value), foldedSetIterable ix1 env x = pure x := (chkIt_ok it1 (f.inner hk X.s_0 X.H_0 0 [] []) h8).2
    refine .ofL (l_lc2 f.calm f.nd I1 (blk_ok f h1) hvv hg ht hi1 hg1 ht1 he (I2 _) hf1 (own_map vs) h2 h3) .mk' (fun i z => by cases z) (fun _ i y py spos hi hy hs => ?_) (fun _ _ => rfl) rfl
    have P := ps_setLc2 (py := py) (spos := spos) f.calm f.nd hi hy hs I1 (blk_ok f h1) (vs1 := vs1) (fun i h => by rw [own_map]; exact hvv i h) hg ht hi1 hg1 ht1 he (I2 _) hf1
    rw [own_map] at P
    exact ⟨_, P, fun σ H Q => lc2_read hvv h2 h3⟩
  | .lcD vs tg i d el, X, c, t, e, f, h => by
    simp only [chk] at h
    split at h
    case h_2 => cases h
    rename_i elt tx x q ifs as sc pos
    simp only [Bool.and_eq_true, decide_eq_true_eq] at h
    obtain ⟨⟨⟨⟨⟨⟨rfl, h1⟩, h2⟩, h3⟩, h4⟩, h5⟩, h6⟩ := h
    have hk := blk_kind h1
    have ht : ∀ (s : Shared) (H : Hp) (C : Addr) (cl : List (Str × Addr)) (fp : List Addr), PTs (X.blk s H sc (compEnvC sc cl C X.env) fp) ifs (tB1 p d) := by
      intro s H C cl fp
      split at h6
      · unfold isTrueC at h6; split at h6
        · exact w_nil
        · cases h6
      · exact w_one ((chk_ok d (f.inner hk s H C cl fp) h6).ts rfl)
      · cases h6
    have he : ∀ (s : Shared) (H : Hp) (C : Addr) (cl : List (Str × Addr)) (fp : List Addr), PE (X.blk s H sc (compEnvC sc cl C X.env) fp) elt (tE p el) := fun s H C cl fp => ((chk_ok el (f.inner hk s H C cl fp) h5).v rfl).pe
    have hg : ∀ (s : Shared) (H : Hp) (C : Addr) (cl : List (Str × Addr)) (fp : List Addr), PG (X.blk s H sc (compEnvC sc cl C X.env) fp) tx (gT p.K tg) := fun s H C cl fp => (tg_ok (f.inner hk s H C cl fp) h3).1
    exact .ofL (l_lcD f.calm f.nd ((f.slot h4).vr i rfl) (blk_ok f h1) hg ht he (own_map vs) h2) .mk' (fun i z => by cases z) (fun z => by cases z) (fun _ _ => rfl) rfl
  | .dc vs tg it d ek ev, X, c, t, e, f, h => by
    simp only [chk] at h
    split at h
    case h_2 => cases h
    rename_i kx vx tx ix ifs as sc pos
    simp only [Bool.and_eq_true, decide_eq_true_eq] at h
    obtain ⟨⟨⟨⟨⟨⟨⟨rfl, h1⟩, h2⟩, h3⟩, h4⟩, h5⟩, h5'⟩, h6⟩ := h
    have hk := blk_kind h1
    obtain ⟨I1, I2⟩ := chkIt_ok it f h4
    have ht : ∀ (s : Shared) (H : Hp) (C : Addr) (cl : List (Str × Addr)) (fp : List Addr), PTs (X.blk s H sc (compEnvC sc cl C X.env) fp) ifs (tB1 p d) := by
      intro s H C cl fp
      split at h6
      · unfold isTrueC at h6; split at h6
        · exact w_nil
        · cases h6
      · exact w_one ((chk_ok d (f.inner hk s H C cl fp) h6).ts rfl)
      · cases h6
    have hek : ∀ (s : Shared) (H : Hp) (C : Addr) (cl : List (Str × Addr)) (fp : List Addr), PE (X.blk s H sc (compEnvC sc cl C X.env) fp) kx (tE p ek) := fun s H C cl fp => ((chk_ok ek (f.inner hk s H C cl fp) h5).v rfl).pe
    have hev : ∀ (s : Shared) (H : Hp) (C : Addr) (cl : List (Str × Addr)) (fp : List Addr), PE (X.blk s H sc (compEnvC sc cl C X.env) fp) vx (tE p ev) := fun s H C cl fp => ((chk_ok ev (f.inner hk s H C cl fp) h5').v rfl).pe
    have hg : ∀ (s : Shared) (H : Hp) (C : Addr) (cl : List (Str × Addr)) (fp : List Addr), PG (X.blk s H sc (compEnvC sc cl C X.env) fp) tx (gT p.K tg) := fun s H C cl fp => (tg_ok (f.inner hk s H C cl fp) h3).1
    exact .ofL (l_dc f.calm f.nd I1 (blk_ok f h1) hg ht hek hev (I2 _) (own_map vs) h2) .mk' (fun i z => by cases z) (fun z => by cases z) (fun _ _ => rfl) rfl
  | .disp ps, X, c, t, e, f, h => by
    simp only [chk] at h
    split at h
    case h_2 => cases h
    rename_i ks vs pos
    simp only [Bool.and_eq_true, decide_eq_true_eq] at h
    obtain ⟨⟨h1, h2⟩, h3⟩ := h
    obtain ⟨A, B, C⟩ := chkPs_ok ps f h1
    by_cases hn : ks = []
    · subst hn
      cases vs with
      | nil =>
        cases ps with
        | nil => exact .ofL l_dnew .mk' (fun i z => by cases z) (fun z => by cases z) (fun _ _ => rfl) rfl
        | cons _ _ _ => simp [chkPs] at h1
      | cons _ _ => simp at C
    · exact .ofL (l_disp (A pos) B C hn h3 h2) .mk' (fun i z => by cases z) (fun z => by cases z) (fun _ _ => rfl) rfl
  | .pop i a, X, c, t, e, f, h => by
    simp only [chk] at h
    split at h
    case h_2 => cases h
    simp only [Bool.and_eq_true, decide_eq_true_eq] at h
    obtain ⟨⟨⟨rfl, h2⟩, h3⟩, h4⟩ := h
    have A := (chk_ok a f h4).v rfl
    exact .of (e_pop f.K ((f.slot h2).vr i rfl) A h3 rfl (by rw [A.fm.ns]; rfl)) rfl (fun _ _ => rfl) rfl
  | .lrg a, X, c, t, e, f, h => by
    simp only [chk] at h
    split at h
    case h_2 => cases h
    simp only [Bool.and_eq_true] at h
    obtain ⟨e1, e2, e3⟩ := f.blx h.1.1
    obtain ⟨e4, e5, e6⟩ := f.blx h.1.2
    subst e1 e4
    exact .ofL (l_lrg f.calm e2 e3 e5 e6 ((chk_ok a f h.2).v rfl)) .mk' (fun i z => by cases z) (fun z => by cases z) (fun _ _ => rfl) rfl
  | .get1 _ _, X, c, t, e, f, h => by simp only [chk, Bool.false_eq_true] at h
  | .get2 _ _ _, X, c, t, e, f, h => by simp only [chk, Bool.false_eq_true] at h
theorem chkEs_ok : ∀ (ms : Es) {X : Cx} {c : CC} {es : List Expr}, Fits p X k c → chkEs ms c es = true → OkA p X es ms ∧ ∀ env, starEach es env = es.map fun e => (false, eval e env)
  | .nil, X, c, es, f, h => by
    cases es <;> simp only [chkEs, Bool.false_eq_true] at h
    exact ⟨a_nil, fun _ => rfl⟩
  | .cons m ms, X, c, es, f, h => by
    cases es <;> simp only [chkEs, Bool.false_eq_true, Bool.and_eq_true] at h
    have A := (chk_ok m f h.1).v rfl
    obtain ⟨B, S⟩ := chkEs_ok ms f h.2
    exact ⟨a_cons A B, fun env => by rw [A.fm.ns, S]; rfl⟩
theorem chkPs_ok : ∀ (ps : Ps) {X : Cx} {c : CC} {ks : List (Option Expr)} {vs : List Expr}, Fits p X k c → chkPs ps c ks vs = true → (∀ pos, PPs X pos ks vs (trsOf p ps)) ∧ (ks.all fun x => x.isSome) = true ∧ ks.length = vs.length
  | .nil, X, c, ks, vs, f, h => by
    simp only [chkPs] at h
    split at h
    case h_2 => cases h
    exact ⟨fun _ => pps_nil, rfl, rfl⟩
  | .cons ek ev ps, X, c, ks, vs, f, h => by
    simp only [chkPs] at h
    split at h
    case h_2 => cases h
    simp only [Bool.and_eq_true] at h
    obtain ⟨A, B, C⟩ := chkPs_ok ps f h.2
    exact ⟨fun pos => pps_cons ((chk_ok ek f h.1.1).v rfl).pe ((chk_ok ev f h.1.2).v rfl).pe (A pos), by simpa using B, by simpa using C⟩
theorem chkIt_ok : ∀ (it : It) {X : Cx} {c : CC} {tg x : Expr}, Fits p X k c → chkIt it c tg x = true → OkI p X tg x it ∧ ∀ (env : Env) (v : Value), foldedSetIterable x env v = pure v
  | .sq e, X, c, tg, x, f, h => by
    simp only [chkIt] at h
    have A := (chk_ok e f h).v rfl
    exact ⟨i_sq f.K A, A.fm.fs⟩
  | .rg1 a, X, c, tg, x, f, h => by
    simp only [chkIt] at h
    split at h
    case h_2 => cases h
    simp only [Bool.and_eq_true] at h
    obtain ⟨e1, e2, e3⟩ := f.blx h.1
    subst e1
    exact ⟨i_rg1 e2 e3 ((chk_ok a f h.2).v rfl), fun _ _ => rfl⟩
  | .rg2 a b, X, c, tg, x, f, h => by
    simp only [chkIt] at h
    split at h
    case h_2 => cases h
    simp only [Bool.and_eq_true] at h
    obtain ⟨e1, e2, e3⟩ := f.blx h.1.1
    subst e1
    exact ⟨i_rg2 e2 e3 ((chk_ok a f h.1.2).v rfl) ((chk_ok b f h.2).v rfl), fun _ _ => rfl⟩
  | .en a, X, c, tg, x, f, h => by
    simp only [chkIt] at h
    split at h
    case h_2 => cases h
    simp only [Bool.and_eq_true] at h
    obtain ⟨e1, e2, e3⟩ := f.blx h.1
    subst e1
    exact ⟨i_en f.K e2 e3 ((chk_ok a f h.2).v rfl), fun _ _ => rfl⟩
  | .zp a b, X, c, tg, x, f, h => by
    simp only [chkIt] at h
    split at h
    case h_2 => cases h
    simp only [Bool.and_eq_true] at h
    obtain ⟨e1, e2, e3⟩ := f.blx h.1.1
    subst e1
    exact ⟨i_zp f.K e2 e3 ((chk_ok a f h.1.2).v rfl) ((chk_ok b f h.2).v rfl), fun _ _ => rfl⟩
end
end
end Iv

namespace Iv
open PySem L2 PyProof.Rows
open Evl (Ex)
section
variable {p : Pm} {X : Cx} {k : Nat} {c : CC}
theorem Fits.bk (f : Fits p X k c) : X.env.blockKind = .function := by unfold Env.blockKind; rw [f.kind]; rfl
theorem Fits.kindL (f : Fits p X k c) (x : Str) : (X.env.kindOf x == some NameKind.local) = isLoc (c.names.lookup x) := by
  unfold Env.kindOf
  rw [f.names]
  cases hl : List.lookup x c.names with
  | none => rfl
  | some kk => cases kk <;> rfl
theorem sw_eq (f : Fits p X k c) {x : Str} {px : Pos} {e : Expr} {l : Nat} : swapsWith e (some (.Name x px)) l X.env = pure (swB c x px e) := by
  cases e <;> first
    | rfl
    | (unfold swapsWith swB
       simp only [f.bk, f.kindL, Expr.pos]
       rfl)
theorem sw_none {e : Expr} {l : Nat} {env : Env} (h : isComp e = false) : swapsWith e none l env = pure false := by
  cases e <;> first | rfl | cases h
theorem sws_sub {e o i : Expr} {ps : Pos} {l : Nat} {env : Env} : swapsWithSole [.Subscript o i ps] e l env = pure false := by
  cases e <;> rfl
theorem sws_tup {e : Expr} {es : List Expr} {kk : Nat} {ps : Pos} {l : Nat} {env : Env} : swapsWithSole [.Tuple es kk ps] e l env = pure false := by
  cases e <;> rfl
theorem swst_sub {e o i : Expr} {ps : Pos} {env : Env} : swappedStores [.Subscript o i ps] e env = pure none := by
  cases e <;> rfl
theorem fm_lt {α β : Type} {g : α → Option β} : ∀ {l : List α}, (∃ x ∈ l, g x = none) → (l.filterMap g).length < l.length
  | [], h => by obtain ⟨x, h, _⟩ := h; cases h
  | a :: l, h => by
    have hle : (l.filterMap g).length ≤ l.length := List.length_filterMap_le _ _
    rw [List.filterMap_cons]
    obtain ⟨x, hx, hg⟩ := h
    rcases List.mem_cons.mp hx with rfl | hx
    · rw [hg]; simp only [List.length_cons]; omega
    · have := fm_lt ⟨x, hx, hg⟩
      cases g a <;> simp only [List.length_cons] <;> omega
theorem swst_tup (f : Fits p X k c) {e : Expr} {es : List Expr} {kk : Nat} {ps : Pos} (h : swNone c (.Tuple es kk ps) e = true) : swappedStores [.Tuple es kk ps] e X.env = pure none := by
  by_cases he : ∃ vs k2 p2, e = .Tuple vs k2 p2
  · obtain ⟨vs, k2, p2, rfl⟩ := he
    unfold swNone at h
    unfold swappedStores
    simp only [Bool.or_eq_true] at h
    simp only
    split
    · rfl
    · rename_i h1
      split
      · rfl
      · split
        · rfl
        · rename_i h3
          split
          · rfl
          · rename_i h4
            exfalso
            rcases h with ((h | h) | h) | h
            · apply h1; simp only [Bool.or_eq_true]; exact .inl (.inl h)
            · apply h1; simp only [Bool.or_eq_true]; exact .inl (.inr h)
            · exact h4 h
            · apply h3
              simp only [Bool.or_eq_true, bne_iff_ne, ne_eq]
              refine .inl (Nat.ne_of_lt (fm_lt ?_))
              obtain ⟨x, hx, hn⟩ := List.any_eq_true.mp h
              refine ⟨x, hx, ?_⟩
              cases x <;> simp only [noLoc, Bool.not_eq_true'] at hn ⊢
              rw [f.kindL, hn]
              rfl
  · cases e <;> first | rfl | exact absurd ⟨_, _, _, rfl⟩ he
theorem ne_of_at (f : Fits p X k c) {i j : Nat} {x y : Str} (hi : c.at i x = true) (hj : c.at j y = true) (h : i ≠ j) : x ≠ y := fun e => by
  subst e
  have h1 := f.at hi
  have h2 := f.at hj
  have hl := (List.getElem?_eq_some_iff.mp h1).1
  exact h ((List.getElem?_inj hl f.nd).mp (h1.trans h2.symm))
theorem swst2 (f : Fits p X k c) {x y : Str} {px py pt pt2 : Pos} {kt k2 : Nat} {a b : Expr} (hx : c.loc x = true) (hy : c.loc y = true) (hl : (px.line == py.line) = true) (hxy : x ≠ y) (ha : isStar a = false) (hb : isStar b = false) (h1 : [a, b].all (foldedForSure 8) = false) (h2 : [a, b].all (constantsAlone 8) = false) :
    swappedStores [.Tuple [.Name x px, .Name y py] kt pt] (.Tuple [a, b] k2 pt2) X.env = pure (some [x, y]) := by
  have st : ∀ z : Expr, isStar z = false → (match z with | .Starred _ _ => true | _ => false) = false := fun z h => by cases z <;> first | rfl | cases h
  have hl' : (py.line == px.line) = true := by rw [beq_iff_eq] at hl ⊢; exact hl.symm
  unfold swappedStores
  simp only [f.bk, f.kindL, show isLoc (c.names.lookup x) = true from hx, show isLoc (c.names.lookup y) = true from hy, List.any_cons, List.any_nil, List.filterMap_cons, List.filterMap_nil, st a ha, st b hb, Expr.pos, List.head?_cons, Option.map_some, Option.getD_some, hl', beq_self_eq_true, Bool.and_self, if_true, h1, h2, List.length_cons, List.length_nil]
  have hd : [x, y].eraseDups = [x, y] := by
    have : ¬ y = x := fun z => hxy z.symm
    simp [List.eraseDups_cons, this]
  rw [hd]
  refine (if_neg (by decide)).trans ((if_neg fun h => ?_).trans ((if_neg (by simp)).trans ((if_neg (by decide)).trans (if_neg (by decide)))))
  rw [Bool.or_false] at h
  rcases (Bool.or_eq_true _ _).mp h with h | h
  · cases a <;> first | (cases h; done) | (cases ha; done)
  · cases b <;> first | (cases h; done) | (cases hb; done)
theorem swst3 (f : Fits p X k c) {x y z : Str} {px py pz pt pt2 : Pos} {kt k2 : Nat} {a b d : Expr} (hx : c.loc x = true) (hy : c.loc y = true) (hz : c.loc z = true) (hl : (px.line == py.line) = true) (hl2 : (px.line == pz.line) = true) (hxy : x ≠ y) (hxz : x ≠ z) (hyz : y ≠ z) (ha : isStar a = false) (hb : isStar b = false) (hd : isStar d = false) (h1 : [a, b, d].all (foldedForSure 8) = false) (h2 : [a, b, d].all (constantsAlone 8) = false) :
    swappedStores [.Tuple [.Name x px, .Name y py, .Name z pz] kt pt] (.Tuple [a, b, d] k2 pt2) X.env = pure (some [x, y, z]) := by
  have hl' : (py.line == px.line) = true := by rw [beq_iff_eq] at hl ⊢; exact hl.symm
  have hl2' : (pz.line == px.line) = true := by rw [beq_iff_eq] at hl2 ⊢; exact hl2.symm
  unfold swappedStores
  simp only [f.bk, f.kindL, show isLoc (c.names.lookup x) = true from hx, show isLoc (c.names.lookup y) = true from hy, show isLoc (c.names.lookup z) = true from hz, List.any_cons, List.any_nil, List.filterMap_cons, List.filterMap_nil, Expr.pos, List.head?_cons, Option.map_some, Option.getD_some, hl', hl2', beq_self_eq_true, Bool.and_self, if_true, h1, h2, List.length_cons, List.length_nil]
  have hdd : [x, y, z].eraseDups = [x, y, z] := by
    have h1 : ¬ y = x := fun z => hxy z.symm
    have h2 : ¬ z = x := fun w => hxz w.symm
    have h3 : ¬ z = y := fun w => hyz w.symm
    simp [List.eraseDups_cons, h1, h2, h3]
  rw [hdd]
  refine (if_neg (by decide)).trans ((if_neg fun h => ?_).trans ((if_neg (by simp)).trans ((if_neg (by decide)).trans (if_neg (by decide)))))
  rw [Bool.or_false] at h
  rcases (Bool.or_eq_true _ _).mp h with h | h
  · cases a <;> first | (cases h; done) | (cases ha; done)
  · rcases (Bool.or_eq_true _ _).mp h with h | h
    · cases b <;> first | (cases h; done) | (cases hb; done)
    · cases d <;> first | (cases h; done) | (cases hd; done)
theorem chkAm_ok : ∀ {fl : List Bool} {ms : Es} {es : List Expr}, Fits p X k c → chkAm fl ms c es = true → OkAm p X es fl ms
  | [], ms, es, f, h => by
    cases ms <;> cases es <;> simp only [chkAm, Bool.false_eq_true] at h
    exact am_nil
  | o :: fl, ms, es, f, h => by
    cases ms <;> cases es <;> simp only [chkAm, Bool.false_eq_true, Bool.and_eq_true, Bool.or_eq_true, Bool.not_eq_true'] at h
    obtain ⟨⟨h1, h2⟩, h3⟩ := h
    have A := chk_ok _ f h1
    have B := chkAm_ok f h3
    cases o with
    | false => exact am_val (A.v rfl) B
    | true =>
      rcases h2 with h2 | h2
      · cases h2
      · exact am_own (A.v rfl).fm (A.l rfl h2).1 B
theorem assign_sub {x : Str} {px ps : Pos} {ke : Expr} {env : Env} (h : isSlice ke = false) (v : Value) : assign (.Subscript (.Name x px) ke ps) env v = (do
      let ov ← holding [v] (eval (.Name x px) env)
      let iv ← holding [v, ov] (eval ke env)
      standAt ps
      holding [v, ov, iv] (setItem ov iv v)
      release [v, ov, iv] []) := by cases ke <;> first | rfl | cases h
theorem tE_tL {m : E} {σ : L2.St} {H : Hp} {Q : VK} (hh : tE p m σ H Q) : tL p m σ H Q := by
  obtain ⟨F, s, d, s', g, hev, q⟩ := hh
  refine ⟨F, s, d, s', g, hev, fun a F' H' n g' h0 hF hR => ?_⟩
  have hno : ¬ Owned σ s' a := fun z => g.noneO h0 (n.ownd z)
  have hw : ¬ InW p.wa a := g.noneW h0
  obtain ⟨o, ho, hr⟩ : ∃ o, H' a = some o ∧ R p.K p.wa.s (upd F' a o) (.ref a) d := by
    cases d with
    | list ds =>
      obtain ⟨vs, e1, e2⟩ := hR
      exact ⟨_, e1, .lst (.inl upd_same) (e2.mono (upd_ex hF))⟩
    | dict ds =>
      obtain ⟨vs, e1, e2⟩ := hR
      exact ⟨_, e1, .dic upd_same (e2.mono (upd_ex hF))⟩
    | _ => exact hR.elim
  have g2 := g'.freeze ho hF (g.none0 h0) hw hno
  refine q _ _ _ ⟨n.ex.trans (upd_ex hF), n.keep, fun b u e => ?_, n.own, n.len, n.dom⟩ g2 hr
  by_cases hb : b = a
  · subst hb; exact .inr (.inl h0)
  · rw [upd_ne hb] at e; exact n.new b u e
mutual
theorem chkS_ok (hx : PassesOwn (model X.prog X.w) X.A X.env X.xe) (f : Fits p X k c) : ∀ (m : St) {st : Stmt}, chkS m c st = true → OkS p X st m
  | .asg i m, st, h => by
    simp only [chkS] at h
    split at h
    case h_2 => cases h
    simp only [Bool.and_eq_true, Bool.or_eq_true, Bool.not_eq_true'] at h
    obtain ⟨⟨h1, h2⟩, h3⟩ := h
    rename_i x px e pos
    have A := chk_ok m f h2
    obtain ⟨n1, n2, n3⟩ := f.tgt (pos := px) h1
    cases hs : swB c x px e with
    | false => exact s_asg_of (ps_set f.nd n1 n2 (A.v rfl).pe (by rw [sw_eq f, hs]) n3) fun _ _ _ z => z
    | true =>
      rw [hs] at h3
      rcases h3 with h3 | h3
      · cases h3
      have hl : looseE m = true := by cases m <;> first | rfl | cases h3
      have lo : List.lookup x X.env.scope.names = some NameKind.local := by
        rw [f.names]
        unfold swB at hs
        split at hs <;> first | (simp only [Bool.and_eq_true] at hs; exact isLoc_eq hs.1.1) | cases hs
      obtain ⟨te, P, q⟩ := (A.l rfl hl).2 h3 i x px pos n1 lo (by rw [sw_eq f, hs])
      exact s_asg_of P fun σ H Q z => q σ H Q (tE_tL z)
  | .asgO i m, st, h => by
    simp only [chkS] at h
    split at h
    case h_2 => cases h
    simp only [Bool.and_eq_true, Bool.or_eq_true, Bool.not_eq_true'] at h
    obtain ⟨⟨⟨h1, hl⟩, h2⟩, h3⟩ := h
    rename_i x px e pos
    have A := chk_ok m f h2
    obtain ⟨n1, n2, n3⟩ := f.tgt (pos := px) h1
    cases hs : swB c x px e with
    | false => exact s_asgO_of (ps_set f.nd n1 n2 (A.l rfl hl).1 (by rw [sw_eq f, hs]) n3) fun _ _ _ z => z
    | true =>
      rw [hs] at h3
      rcases h3 with h3 | h3
      · cases h3
      have lo : List.lookup x X.env.scope.names = some NameKind.local := by
        rw [f.names]
        unfold swB at hs
        split at hs <;> first | (simp only [Bool.and_eq_true] at hs; exact isLoc_eq hs.1.1) | cases hs
      obtain ⟨te, P, q⟩ := (A.l rfl hl).2 h3 i x px pos n1 lo (by rw [sw_eq f, hs])
      exact s_asgO_of P q
  | .unp t m, st, h => by
    simp only [chkS] at h
    split at h
    case h_2 => cases h
    simp only [Bool.and_eq_true] at h
    obtain ⟨⟨h1, h2⟩, h3⟩ := h
    exact s_unp ((chk_ok m f h2).v rfl) (tg_ok f h1).1 sws_tup (swst_tup f h3) (by rw [(tg_ok f h1).2]; rfl)
  | .par is ms, st, h => by
    simp only [chkS] at h
    split at h
    case h_3 => cases h
    · simp only [Bool.and_eq_true, Bool.not_eq_true', decide_eq_true_eq] at h
      obtain ⟨⟨⟨⟨⟨⟨⟨⟨⟨⟨h1, h2⟩, h3⟩, h4⟩, h5⟩, h6⟩, h7⟩, h8⟩, h9⟩, h10⟩, h11⟩ := h
      exact s_par2 f.calm f.nd (f.at h1) (f.at h2) h3 (f.lo h4) (f.lo h5) (chkAm_ok f h7) (swst2 f h4 h5 h6 (ne_of_at f h1 h2 h3) h8 h9 h10 h11)
    · simp only [Bool.and_eq_true, Bool.not_eq_true', decide_eq_true_eq] at h
      obtain ⟨⟨⟨⟨⟨⟨⟨⟨⟨⟨⟨⟨⟨⟨⟨⟨h1, h2⟩, h3⟩, h4⟩, h5⟩, h6⟩, h7⟩, h8⟩, h9⟩, h10⟩, h11⟩, h12⟩, h13⟩, h14⟩, h15⟩, h16⟩, h17⟩ := h
      exact s_par3 f.calm f.nd (f.at h1) (f.at h2) (f.at h3) h4 h5 h6 (f.lo h7) (f.lo h8) (f.lo h9) (chkAm_ok f h12) (swst3 f h7 h8 h9 h10 h11 (ne_of_at f h1 h2 h4) (ne_of_at f h1 h3 h5) (ne_of_at f h2 h3 h6) h13 h14 h15 h16 h17)
  | .setI i kk m, st, h => by
    simp only [chkS] at h
    split at h
    case h_2 => cases h
    simp only [Bool.and_eq_true] at h
    obtain ⟨⟨⟨h1, h2⟩, h3⟩, h4⟩ := h
    exact s_setI f.room ((f.slot h1).vr i rfl) ((chk_ok kk f h2).v rfl) ((chk_ok m f h3).v rfl) sws_sub swst_sub rfl (assign_sub (by simpa using h4))
  | .app i m, st, h => by
    simp only [chkS] at h
    split at h
    case h_2 => cases h
    simp only [Bool.and_eq_true, decide_eq_true_eq] at h
    obtain ⟨⟨⟨rfl, h2⟩, h3⟩, h4⟩ := h
    have A := (chk_ok m f h4).v rfl
    exact s_app f.K ((f.slot h2).vr i rfl) A h3 rfl (by rw [A.fm.ns]; rfl)
  | .ext i m, st, h => by
    simp only [chkS] at h
    split at h
    case h_2 => cases h
    simp only [Bool.and_eq_true, decide_eq_true_eq] at h
    obtain ⟨⟨⟨⟨rfl, h2⟩, h3⟩, hl⟩, h4⟩ := h
    have A := chk_ok m f h4
    exact s_ext f.K ((f.slot h2).vr i rfl) (A.l rfl hl).1 (A.v rfl).fm h3 rfl (by rw [(A.v rfl).fm.ns]; rfl)
  | .ifs d a b, st, h => by
    simp only [chkS] at h
    split at h
    case h_2 => cases h
    simp only [Bool.and_eq_true] at h
    exact s_ifs ((chk_ok d f h.1.1).ts rfl) (chkSs_ok hx f a h.1.2) (chkSs_ok hx f b h.2)
  | .fors t it body, st, h => by
    simp only [chkS] at h
    split at h
    case h_2 => cases h
    simp only [Bool.and_eq_true] at h
    obtain ⟨I1, I2⟩ := chkIt_ok it f h.1.2
    exact s_fors hx f.calm I1 (tg_ok f h.1.1).1 (chkSs_ok hx f body h.2) (I2 _)
  | .whl d body, st, h => by
    simp only [chkS] at h
    split at h
    case h_2 => cases h
    simp only [Bool.and_eq_true] at h
    exact s_whl hx ((chk_ok d f h.1).ts rfl) (chkSs_ok hx f body h.2)
  | .ret m, st, h => by
    simp only [chkS] at h
    split at h
    case h_2 => cases h
    exact s_ret ((chk_ok m f h).v rfl)
  | .retN, st, h => by
    simp only [chkS] at h
    split at h
    case h_2 => cases h
    exact s_retN
  | .brk, st, h => by
    simp only [chkS] at h
    split at h
    case h_2 => cases h
    exact s_brk
  | .cont, st, h => by
    simp only [chkS] at h
    split at h
    case h_2 => cases h
    exact s_cont
  | .ex m, st, h => by
    simp only [chkS] at h
    split at h
    case h_2 => cases h
    simp only [Bool.and_eq_true, Bool.not_eq_true'] at h
    exact s_ex ((chk_ok m f h.1).v rfl) (sw_none h.2)
  | .fail, st, h => s_fail
theorem chkSs_ok (hx : PassesOwn (model X.prog X.w) X.A X.env X.xe) (f : Fits p X k c) : ∀ (m : List St) {st : List Stmt}, chkSs m c st = true → OkSs p X st m
  | [], st, h => by
    cases st <;> simp only [chkSs, Bool.false_eq_true] at h
    exact ss_nil
  | m :: ms, st, h => by
    cases st <;> simp only [chkSs, Bool.false_eq_true, Bool.and_eq_true] at h
    exact ss_cons (chkS_ok hx f m h.1) (chkSs_ok hx f ms h.2)
end
end
end Iv

namespace Iv
open PySem L2 PyProof.Rows
open Evl (Ex)
/-! ### functions -/
/-- a def that stands in the module -/
structure Def1 (K : PySem.W.Frag) (mg : Str → Option Value) (x : Str) (st : Stmt) (ps : List Str) (f : Addr) (fd : FuncData) : Prop where
  fn : Fun K x x st f fd
  at_ : mg x = some (.ref f)
  bi : L2.Binds K fd ps []
/-- a def's text and its form -/
structure FD where
  name : Str
  st : Stmt
  N : List Str
  fn : Fn
def FD.ps (d : FD) : List Str := d.N.take d.fn.np
def FD.cc (d : FD) (fns : List Str) (cs : List (Str × Int)) : CC := ⟨d.N, (defScope d.st).names, none, fns, cs⟩
def scOk (N P : List Str) (sc : Scope) : Bool := isFunK sc.kind && !sc.isCoroutine && !sc.isGenerator && decide N.Nodup && decide (N.take P.length = P) && (P.all fun x => isLoc (sc.names.lookup x) || isCell (sc.names.lookup x)) && sc.names.all fun y => !isFree (some y.2)
theorem scOk_ok {N P : List Str} {sc : Scope} (h : scOk N P sc = true) : FnScope N P sc := by
  unfold scOk at h
  simp only [Bool.and_eq_true, Bool.not_eq_true', decide_eq_true_eq] at h
  obtain ⟨⟨⟨⟨⟨⟨h1, h2⟩, h3⟩, h4⟩, h5⟩, h6⟩, h7⟩ := h
  refine ⟨?_, h2, h3, h4, h5, fun x hx => ?_, fun y hy e => ?_⟩
  · unfold isFunK at h1; split at h1
    · assumption
    · cases h1
  · have := List.all_eq_true.mp h6 x hx
    simp only [Bool.or_eq_true] at this
    rcases this with h | h
    · exact .inl (isLoc_eq h)
    · exact .inr (isCell_eq h)
  · have := List.all_eq_true.mp h7 y hy
    rw [e] at this
    cases this
def FD.ok (d : FD) (fns : List Str) (cs : List (Str × Int)) : Bool := scOk d.N d.ps (defScope d.st) && decide (d.fn.nn = d.N.length) && decide (d.fn.np ≤ d.N.length) && chkSs d.fn.body (d.cc fns cs) (defBody d.st)
section
variable {P : Program} {w : World} {K : PySem.W.Frag} {mg : Str → Option Value} {base : Heap}
theorem start_get (N : List Str) (vs : List V) (i : Nat) (h : i < vs.length) : (L2.start N vs)[i]? = some (some vs[i]) := by
  unfold L2.start
  rw [List.getElem?_append_left (by simpa using h)]
  simp [h]
theorem good_start {p : Pm} {F H : Hp} {vs : List V} {ds : List D} {w0 : DW} {N : List Str} {n : Nat} (hF : p.F0 = F) (hH : p.H0 = H) (e : Ex F H) (rw' : RepW p.wa H w0) (wf : ∀ a, InW p.wa a → F a = none) (hr : RA p.K p.wa.s F vs ds) (hn : n = N.length) (hl : ds.length ≤ n) :
    Good p F H (L2.start N vs) ⟨ds.map .val ++ List.replicate (n - ds.length) .no, w0⟩ where
  ex := e
  f0 := by rw [hF]; exact fun _ _ z => z
  fn := fun a o h => .inl (by rw [hF]; exact h)
  keep := fun a o h _ => by rw [hH] at h; exact h
  len := by
    have := hr.length
    simp [L2.start, hn, this]
  val := fun i d h => by
    have hi : i < ds.length := by
      rcases Nat.lt_or_ge i ds.length with z | z
      · exact z
      · rw [List.getElem?_append_right (by simpa using z)] at h
        rw [List.getElem?_replicate] at h
        split at h <;> cases h
    rw [List.getElem?_append_left (by simpa using hi), List.getElem?_map] at h
    have hd : ds[i]? = some d := by
      cases e : ds[i]? with
      | none => rw [e] at h; cases h
      | some d' => rw [e] at h; cases h; rfl
    obtain ⟨v, h1, h2⟩ := hr.get hd
    have hv : i < vs.length := by rw [hr.length]; exact hi
    refine ⟨v, ?_, h2⟩
    rw [start_get N vs i hv]
    rw [List.getElem?_eq_getElem hv] at h1
    cases h1; rfl
  own := fun i d h => by
    exfalso
    rcases Nat.lt_or_ge i ds.length with z | z
    · rw [List.getElem?_append_left (by simpa using z), List.getElem?_map] at h
      cases e : ds[i]? with
      | none => rw [e] at h; cases h
      | some d' => rw [e] at h; cases h
    · rw [List.getElem?_append_right (by simpa using z), List.getElem?_replicate] at h
      split at h <;> cases h
  dis := fun i j d d' a h => by
    exfalso
    rcases Nat.lt_or_ge i ds.length with z | z
    · rw [List.getElem?_append_left (by simpa using z), List.getElem?_map] at h
      cases e : ds[i]? with
      | none => rw [e] at h; cases h
      | some d' => rw [e] at h; cases h
    · rw [List.getElem?_append_right (by simpa using z), List.getElem?_replicate] at h
      split at h <;> cases h
  wrd := rw'
  wF := wf
  w0 := fun a h => by
    obtain ⟨o, ho⟩ := rw'.at h
    rw [hH, ho]; intro z; cases z
/-- the def's own promise -/
theorem fn_ok {d : FD} {f : Addr} {fd : FuncData} {k fu : Nat} {pr : Prim} {T : Str → Option Fn} {fns : List Str} {cs : List (Str × Int)} (hd : Def1 K mg d.name d.st d.ps f fd) (ok : d.ok fns cs = true) (hpr : pr d.name = none) (hT : T d.name = some d.fn)
    (hbl : ∀ x, x ∈ blNames → mg x = none) (hcs : ∀ x n, cs.lookup x = some n → ∃ u, mg x = some u ∧ RelV (.int n) u)
    (hc : ∀ x, x ∈ fns → ∃ f fd ps, FnOk P w K mg base CX0 k f fd ps (spF K (callF pr T fu k) x) ∧ mg x = some (Value.ref f) ∧ PySem.W.keepIn K (Value.ref f) = true ∧ L2.Binds K fd ps []) :
    FnOk P w K mg base CX0 (k + 1) f fd d.ps (spF K (callF pr T fu (k + 1)) d.name) := by
  unfold FD.ok at ok
  simp only [Bool.and_eq_true, decide_eq_true_eq] at ok
  obtain ⟨⟨⟨o1, o2⟩, o2'⟩, o3⟩ := ok
  have hps : d.ps.length = d.fn.np := by unfold FD.ps; rw [List.length_take]; omega
  have key : ∀ ds wd r, callF pr T fu (k + 1) d.name ds wd = some r → ds.length = d.fn.np ∧ runFn (callF pr T fu k) fu d.fn ds wd = some r := fun ds wd r h => by
    simp only [callF, hpr, hT] at h
    refine ⟨?_, h⟩
    unfold runFn at h
    split at h
    · assumption
    · cases h
  refine hd.fn.ok (scOk_ok o1) (fun vs H Q E h => ?_) (fun cdv A outer s H vs Q E hr h => ?_)
  · obtain ⟨wa, F, wd, ds, dd, w', _, _, _, hra, hcall, _⟩ := h
    rw [hra.length, (key _ _ _ hcall).1, hps]
  · obtain ⟨wa, F, wd, ds, dd, w', ex, rw', wf, hra, hcall, q⟩ := h
    obtain ⟨hl, hrun⟩ := key _ _ _ hcall
    let p : Pm := ⟨K, wa, H, F, callF pr T fu k, fu⟩
    have fits : Fits p (cxOf CX0 P w K mg base d.N d.name (defScope d.st) f cdv A outer s H E).nox k (d.cc fns cs) := by
      have sc := scOk_ok o1
      exact ⟨rfl, sc.nd, rfl, sc.kind, rfl, rfl, hr, fun _ _ => rfl, hbl, fun x hx => ⟨hc x hx, hr⟩, hcs⟩
    refine ⟨_, chkSs_ok PassesOwn.never fits d.fn.body o3, ?_⟩
    unfold runFn at hrun
    rw [if_pos hl] at hrun
    have g0 := good_start (p := p) (N := d.N) (n := d.fn.nn) (w0 := wd) rfl rfl ex rw' wf hra o2 (by rw [hl, o2]; exact o2')
    rw [hl] at g0
    split at hrun
    · rename_i s' hs
      cases hrun
      refine ⟨F, _, .nx, s', g0, hs, fun σ' F' H' x g' => ?_⟩
      exact q .non F' H' g'.f0 g'.ex g'.keep g'.fn g'.wrd g'.wF .non
    · rename_i d' s' hs
      cases hrun
      refine ⟨F, _, .ret _, s', g0, hs, fun σ' F' H' v x g' r => ?_⟩
      exact q v F' H' g'.f0 g'.ex g'.keep g'.fn g'.wrd g'.wF r
    · cases hrun
theorem fn_zero {pr : Prim} {T : Str → Option Fn} {fu : Nat} {f : Addr} {fd : FuncData} {ps : List Str} {x : Str} : FnOk P w K mg base CX0 0 f fd ps (spF K (callF pr T fu 0) x) := by
  refine ⟨fun vs H Q E h => ?_, fun A outer s H args us vs Q E _ _ _ _ h => ?_⟩
  · obtain ⟨wa, F, wd, ds, dd, w', _, _, _, _, hcall, _⟩ := h
    simp [callF] at hcall
  · obtain ⟨wa, F, wd, ds, dd, w', _, _, _, _, hcall, _⟩ := h
    simp [callF] at hcall
/-- the table of the defs -/
def lookFD (tb : List FD) (x : Str) : Option Fn := (tb.find? fun d => decide (d.name = x)).map (·.fn)
structure Pr1 (P : Program) (w : World) (K : PySem.W.Frag) (mg : Str → Option Value) (base : Heap) (g : List D → DW → Option (D × DW)) (x : Str) : Prop where
  ex : ∃ f fd ps, (∀ k, FnOk P w K mg base CX0 (k + 4) f fd ps (spF K (fun _ => g) x)) ∧ mg x = some (Value.ref f) ∧ PySem.W.keepIn K (Value.ref f) = true ∧ L2.Binds K fd ps []
end
end Iv

namespace Iv
open PySem L2 PyProof.Rows
open Evl (Ex)
/-! ### all defs together -/
def lookT (tb : List FD) (x : Str) : Option Fn := (tb.find? fun d => decide (d.name = x)).map (·.fn)
section
variable {P : Program} {w : World} {K : PySem.W.Frag} {mg : Str → Option Value} {base : Heap}
/-- a def that is proved by hand -/
structure ByHand (P : Program) (w : World) (K : PySem.W.Frag) (mg : Str → Option Value) (base : Heap) (x : Str) (g : List D → DW → Option (D × DW)) : Prop where
  ex : ∃ f fd ps, FnOk P w K mg base CX0 2 f fd ps (spF K (fun _ => g) x) ∧ mg x = some (Value.ref f) ∧ PySem.W.keepIn K (Value.ref f) = true ∧ L2.Binds K fd ps []
theorem fn_low {pr : Prim} {T : Str → Option Fn} {fu : Nat} {f : Addr} {fd : FuncData} {ps : List Str} {x : Str} {k : Nat} (h : ∀ ds wd, callF pr T fu k x ds wd = none) : FnOk P w K mg base CX0 k f fd ps (spF K (callF pr T fu k) x) := by
  refine ⟨fun vs H Q E q => ?_, fun A outer s H args us vs Q E _ _ _ _ q => ?_⟩
  · obtain ⟨wa, F, wd, ds, dd, w', _, _, _, _, hcall, _⟩ := q
    rw [h] at hcall; cases hcall
  · obtain ⟨wa, F, wd, ds, dd, w', _, _, _, _, hcall, _⟩ := q
    rw [h] at hcall; cases hcall
theorem sys_ok {tb : List FD} {pr : Prim} {fu : Nat} {fns : List Str} {cs : List (Str × Int)} (hok : (tb.all fun d => d.ok fns cs) = true) (hnd : (tb.map (·.name)).Nodup) (hpr : ∀ d ∈ tb, pr d.name = none)
    (hD : ∀ d ∈ tb, ∃ f fd, Def1 K mg d.name d.st d.ps f fd) (hH : ∀ x g, pr x = some g → ByHand P w K mg base x g)
    (hf : ∀ x ∈ fns, (∃ g, pr x = some g) ∨ ∃ d ∈ tb, d.name = x)
    (hbl : ∀ x, x ∈ blNames → mg x = none) (hcs : ∀ x n, cs.lookup x = some n → ∃ u, mg x = some u ∧ RelV (.int n) u) :
    ∀ k x, x ∈ fns → ∃ f fd ps, FnOk P w K mg base CX0 k f fd ps (spF K (callF pr (lookT tb) fu k) x) ∧ mg x = some (Value.ref f) ∧ PySem.W.keepIn K (Value.ref f) = true ∧ L2.Binds K fd ps [] := by
  have hT : ∀ d ∈ tb, lookT tb d.name = some d.fn := by
    intro d hd
    unfold lookT
    have : tb.find? (fun e => decide (e.name = d.name)) = some d := by
      clear hok hpr hD hf
      induction tb with
      | nil => cases hd
      | cons e tb ih =>
        rw [List.map_cons, List.nodup_cons] at hnd
        rw [List.find?_cons]
        by_cases he : e.name = d.name
        · simp only [he, decide_true]
          rcases List.mem_cons.mp hd with rfl | hd
          · rfl
          · exact absurd (List.mem_map.mpr ⟨d, hd, he.symm⟩) hnd.1
        · simp only [he, decide_false]
          rcases List.mem_cons.mp hd with rfl | hd
          · exact absurd rfl he
          · exact ih hnd.2 hd
    rw [this]; rfl
  intro k
  induction k with
  | zero =>
    intro x hx
    rcases hf x hx with ⟨g, hg⟩ | ⟨d, hd, rfl⟩
    · obtain ⟨f, fd, ps, _, a, b, c⟩ := (hH x g hg).ex
      exact ⟨f, fd, ps, fn_low fun _ _ => rfl, a, b, c⟩
    · obtain ⟨f, fd, h⟩ := hD d hd
      exact ⟨f, fd, d.ps, fn_low fun _ _ => rfl, h.at_, h.fn.kp, h.bi⟩
  | succ k ih =>
    intro x hx
    rcases hf x hx with ⟨g, hg⟩ | ⟨d, hd, rfl⟩
    · obtain ⟨f, fd, ps, F, a, b, c⟩ := (hH x g hg).ex
      refine ⟨f, fd, ps, ?_, a, b, c⟩
      by_cases hk : 1 ≤ k
      · have e : ∀ ds wd, callF pr (lookT tb) fu (k + 1) x ds wd = g ds wd := fun ds wd => by simp only [callF, hg, hk, if_true]
        have F2 := F.mono (k := k + 1) (by omega)
        refine ⟨fun vs H Q E q => F2.len vs H Q E ?_, fun A outer s H args us vs Q E h1 h2 h3 h4 q => F2.run A outer s H args us vs Q E h1 h2 h3 h4 ?_⟩
        · obtain ⟨wa, F, wd, ds, dd, w', q1, q2, q3, q4, q5, q6⟩ := q
          rw [e] at q5
          exact ⟨wa, F, wd, ds, dd, w', q1, q2, q3, q4, q5, q6⟩
        · obtain ⟨wa, F, wd, ds, dd, w', q1, q2, q3, q4, q5, q6⟩ := q
          rw [e] at q5
          exact ⟨wa, F, wd, ds, dd, w', q1, q2, q3, q4, q5, q6⟩
      · exact fn_low fun _ _ => by simp only [callF, hg, hk, if_false]
    · obtain ⟨f, fd, h⟩ := hD d hd
      exact ⟨f, fd, d.ps, fn_ok h (List.all_eq_true.mp hok d hd) (hpr d hd) (hT d hd) hbl hcs ih, h.at_, h.fn.kp, h.bi⟩
end
end Iv

namespace Iv
open PySem
/-! ### tools for plain laws: the evaluator at pure bodies -/
theorem noOwn_lt {r : List Ent} {vs : List Nat} (h : noOwn r vs = true) {i : Nat} (hi : i ∈ vs) : i < r.length := by
  obtain ⟨e, h1, _⟩ := noOwn_get h hi
  exact (List.getElem?_eq_some_iff.mp h1).1
theorem back_of_wipe {r r' : List Ent} {vs : List Nat} (h : wipeR r' vs = wipeR r vs) (hn : noOwn r vs = true) : backR r r' vs = r := by
  have hl : r'.length = r.length := by
    have := congrArg List.length h
    rw [wipeR_len, wipeR_len] at this; exact this
  apply List.ext_getElem?
  intro i
  rw [backR_get]
  by_cases hi : i ∈ vs
  · rw [if_pos hi]
    have h1 := noOwn_lt hn hi
    rw [List.getElem?_eq_getElem (by omega), List.getElem?_eq_getElem h1]
    simp [List.getD_eq_getElem?_getD, List.getElem?_eq_getElem h1]
  · rw [if_neg hi]
    have := congrArg (fun l => l[i]?) h
    simp only [wipeR_get, if_neg hi] at this
    exact this
section
variable {Φ : Str → List D → DW → Option (D × DW)} {α : Type}
/-- one turn of a comprehension whose body is pure -/
def Turn (t : Tg) (vs : List Nat) (c e : S1 → R1) (s : S1) (x : D) (p : Bool) (g : D) : Prop :=
  ∃ r1, setT t x (wipeR s.r vs) = some r1 ∧ wipeR r1 vs = wipeR s.r vs ∧ c ⟨r1, s.w⟩ = some (.bool p, ⟨r1, s.w⟩) ∧ (p = true → e ⟨r1, s.w⟩ = some (g, ⟨r1, s.w⟩))
theorem lcGo_pure {vs : List Nat} {t : Tg} {c e : S1 → R1} {F g : α → D} {p : α → Bool} : ∀ {L : List α} {s s0 : S1}, s.w = s0.w → wipeR s.r vs = wipeR s0.r vs → (∀ a ∈ L, Turn t vs c e s0 (F a) (p a) (g a)) →
    ∃ s', lcGo vs t c e (L.map F) s = some ((L.filter p).map g, s') ∧ wipeR s'.r vs = wipeR s0.r vs ∧ s'.w = s0.w
  | [], s, s0, hw, hr, h => ⟨s, rfl, hr, hw⟩
  | a :: L, s, s0, hw, hr, h => by
    obtain ⟨r1, h1, h2, h3, h4⟩ := h a (List.mem_cons_self ..)
    have e0 : ({ s with r := r1 } : S1) = ⟨r1, s0.w⟩ := by rw [← hw]
    obtain ⟨s', i1, i2, i3⟩ := lcGo_pure (L := L) (s := ⟨r1, s0.w⟩) (s0 := s0) rfl h2 fun b hb => h b (List.mem_cons_of_mem _ hb)
    refine ⟨s', ?_, i2, i3⟩
    simp only [List.map_cons, lcGo]
    rw [hr, h1]
    simp only [e0, h3, asB]
    cases hp : p a with
    | true =>
      simp only [h4 hp, i1, List.filter_cons, hp, if_true, List.map_cons]
    | false =>
      simp only [i1, List.filter_cons, hp, Bool.false_eq_true, if_false]
theorem ev_lc {vs : List Nat} {t : Tg} {it : It} {c e : E} {s : S1} {L : List α} {F : α → D} (p : α → Bool) (g : α → D) (hit : evIt Φ it s = some (L.map F, s)) (hn : noOwn s.r vs = true) (hl : L.length ≤ line)
    (h : ∀ a ∈ L, Turn t vs (evE Φ c) (evE Φ e) s (F a) (p a) (g a)) : evE Φ (.lc vs t it c e) s = some (.list ((L.filter p).map g), s) := by
  obtain ⟨s', h1, h2, h3⟩ := lcGo_pure (L := L) (s := s) (s0 := s) rfl rfl h
  have hb := back_of_wipe h2 hn
  have hlen : (L.filter p).length ≤ line := Nat.le_trans (List.length_filter_le _ _) hl
  simp only [evE, lcAll, hit, hn, List.length_map, hl, decide_true, Bool.and_self, if_true, h1]
  rw [if_pos hlen, hb, h3]
  rfl
theorem ev_lc' {vs : List Nat} {t : Tg} {it : It} {e : E} {s : S1} {L : List α} {F : α → D} (g : α → D) (hit : evIt Φ it s = some (L.map F, s)) (hn : noOwn s.r vs = true) (hl : L.length ≤ line)
    (h : ∀ a ∈ L, Turn t vs (evE Φ (.cst (.bool true))) (evE Φ e) s (F a) true (g a)) : evE Φ (.lc vs t it (.cst (.bool true)) e) s = some (.list (L.map g), s) := by
  have := ev_lc (p := fun _ => true) (g := g) hit hn hl h
  rw [this, List.filter_eq_self.mpr fun _ _ => rfl]
/-- a dict of a comprehension -/
theorem dcGo_pure {vs : List Nat} {t : Tg} {c ek ev : S1 → R1} {F k v : α → D} : ∀ {L : List α} {s s0 : S1} {acc : List (D × D)}, s.w = s0.w → wipeR s.r vs = wipeR s0.r vs →
    (∀ a ∈ L, ∃ r1, setT t (F a) (wipeR s0.r vs) = some r1 ∧ wipeR r1 vs = wipeR s0.r vs ∧ c ⟨r1, s0.w⟩ = some (.bool true, ⟨r1, s0.w⟩) ∧ ek ⟨r1, s0.w⟩ = some (k a, ⟨r1, s0.w⟩) ∧ ev ⟨r1, s0.w⟩ = some (v a, ⟨r1, s0.w⟩) ∧ keyOf (k a) = some (k a)) →
    ∃ s', dcGo vs t c ek ev (L.map F) s acc = some (L.foldl (fun acc a => putD (k a) (v a) acc) acc, s') ∧ wipeR s'.r vs = wipeR s0.r vs ∧ s'.w = s0.w
  | [], s, s0, acc, hw, hr, h => ⟨s, rfl, hr, hw⟩
  | a :: L, s, s0, acc, hw, hr, h => by
    obtain ⟨r1, h1, h2, h3, h4, h5, h6⟩ := h a (List.mem_cons_self ..)
    have e0 : ({ s with r := r1 } : S1) = ⟨r1, s0.w⟩ := by rw [← hw]
    obtain ⟨s', i1, i2, i3⟩ := dcGo_pure (L := L) (s := ⟨r1, s0.w⟩) (s0 := s0) (acc := putD (k a) (v a) acc) rfl h2 fun b hb => h b (List.mem_cons_of_mem _ hb)
    refine ⟨s', ?_, i2, i3⟩
    simp only [List.map_cons, dcGo]
    rw [hr, h1]
    simp only [e0, h3, asB, h4, h5, h6, i1, List.foldl_cons]
theorem ev_dc {vs : List Nat} {t : Tg} {it : It} {ek ev : E} {s : S1} {L : List α} {F : α → D} (k v : α → D) (hit : evIt Φ it s = some (L.map F, s)) (hn : noOwn s.r vs = true) (hl : L.length ≤ line)
    (h : ∀ a ∈ L, ∃ r1, setT t (F a) (wipeR s.r vs) = some r1 ∧ wipeR r1 vs = wipeR s.r vs ∧ evE Φ ek ⟨r1, s.w⟩ = some (k a, ⟨r1, s.w⟩) ∧ evE Φ ev ⟨r1, s.w⟩ = some (v a, ⟨r1, s.w⟩) ∧ keyOf (k a) = some (k a)) :
    evE Φ (.dc vs t it (.cst (.bool true)) ek ev) s = some (.dict (L.foldl (fun acc a => putD (k a) (v a) acc) []), s) := by
  obtain ⟨s', h1, h2, h3⟩ := dcGo_pure (vs := vs) (t := t) (c := evE Φ (.cst (.bool true))) (ek := evE Φ ek) (ev := evE Φ ev) (L := L) (s := s) (s0 := s) (acc := []) rfl rfl fun a ha => by
    obtain ⟨r1, a1, a2, a3, a4, a5⟩ := h a ha
    exact ⟨r1, a1, a2, by simp only [evE], a3, a4, a5⟩
  have hb := back_of_wipe h2 hn
  simp only [evE, hit, hn, List.length_map, hl, decide_true, Bool.and_self, if_true]
  simp only [evE] at h1
  rw [h1]
  simp only [hb, h3]
/-- a loop whose turns end in the next one -/
theorem forGo_inv {t : Tg} {body : S1 → RS} {F : α → D} {P : List α → S1 → Prop} : ∀ {L done : List α} {s : S1}, P done s →
    (∀ pre a s, (∃ rest, done ++ L = pre ++ a :: rest) → P pre s → ∃ r1 s2, setT t (F a) s.r = some r1 ∧ (body { s with r := r1 } = some (.nx, s2) ∨ body { s with r := r1 } = some (.cont, s2)) ∧ P (pre ++ [a]) s2) →
    ∃ s', forGo t body (L.map F) s = some (.nx, s') ∧ P (done ++ L) s'
  | [], done, s, h0, h => ⟨s, rfl, by rw [List.append_nil]; exact h0⟩
  | a :: L, done, s, h0, h => by
    obtain ⟨r1, s2, h1, h2, h3⟩ := h done a s ⟨L, rfl⟩ h0
    obtain ⟨s', i1, i2⟩ := forGo_inv (L := L) (done := done ++ [a]) (s := s2) h3 fun pre b s ⟨rest, e⟩ hp => h pre b s ⟨rest, by rw [← e]; simp⟩ hp
    refine ⟨s', ?_, by simpa using i2⟩
    simp only [List.map_cons, forGo, h1]
    rcases h2 with h2 | h2 <;> simp only [h2, i1]
theorem ev_for {t : Tg} {it : It} {body : List St} {F : α → D} {fu : Nat} {s s1 : S1} {L : List α} (P : List α → S1 → Prop) (hit : evIt Φ it s = some (L.map F, s1)) (h0 : P [] s1)
    (h : ∀ pre a s, (∃ rest, L = pre ++ a :: rest) → P pre s → ∃ r1 s2, setT t (F a) s.r = some r1 ∧ (evSs Φ fu body { s with r := r1 } = some (.nx, s2) ∨ evSs Φ fu body { s with r := r1 } = some (.cont, s2)) ∧ P (pre ++ [a]) s2) :
    ∃ s', evS Φ fu (.fors t it body) s = some (.nx, s') ∧ P L s' := by
  obtain ⟨s', h1, h2⟩ := forGo_inv (L := L) (done := []) h0 (t := t) (body := evSs Φ fu body) (F := F) fun pre a s hr hp => h pre a s hr hp
  exact ⟨s', by simp only [evS, hit]; exact h1, h2⟩
/-- a body's statements one after the other -/
theorem ss_next {m : St} {ms : List St} {fu : Nat} {s s1 : S1} (h : evS Φ fu m s = some (.nx, s1)) : evSs Φ fu (m :: ms) s = evSs Φ fu ms s1 := by
  simp only [evSs, h]
end
theorem call_at {pr : Prim} {T : Str → Option Fn} {fu k : Nat} {f : Str} {fn : Fn} {ds : List D} {w : DW} (hp : pr f = none) (hT : T f = some fn) : callF pr T fu (k + 1) f ds w = runFn (callF pr T fu k) fu fn ds w := by
  simp only [callF, hp, hT]
/-- a def whose body ends in a return -/
theorem run_ret {Φ : Str → List D → DW → Option (D × DW)} {fu : Nat} {fn : Fn} {ds : List D} {w : DW} {d : D} {s : S1} (hl : ds.length = fn.np) (h : evSs Φ fu fn.body ⟨ds.map .val ++ List.replicate (fn.nn - fn.np) .no, w⟩ = some (.ret d, s)) : runFn Φ fu fn ds w = some (d, s.w) := by
  unfold runFn
  rw [if_pos hl, h]
theorem run_nx {Φ : Str → List D → DW → Option (D × DW)} {fu : Nat} {fn : Fn} {ds : List D} {w : DW} {s : S1} (hl : ds.length = fn.np) (h : evSs Φ fu fn.body ⟨ds.map .val ++ List.replicate (fn.nn - fn.np) .no, w⟩ = some (.nx, s)) : runFn Φ fu fn ds w = some (.none, s.w) := by
  unfold runFn
  rw [if_pos hl, h]
/-! ### rows -/
theorem enumD_map {α : Type} [Inhabited α] (f : α → D) : ∀ (r : List α) (k : Nat), enumD k (r.map f) = (List.range r.length).map fun i => .tuple [.int ((k + i : Nat) : Int), f (r.getD i default)]
  | [], k => rfl
  | a :: r, k => by
    simp only [List.map_cons, enumD, List.length_cons, List.range_succ_eq_map, List.map_map]
    rw [enumD_map f r (k + 1)]
    congr 1
    apply List.map_congr_left
    intro i _
    simp only [Function.comp]
    have : k + 1 + i = k + (i + 1) := by omega
    rw [this]
    rfl
/-! ### the evaluator's rows, one by one -/
theorem evE_var {Φ : Str → List D → DW → Option (D × DW)} {i : Nat} {s : S1} : evE Φ (.var i) s = (s.use i) := Eq.trans (by first | rfl | (simp only [evE]; rfl)) (Eq.refl _)
theorem evE_cst {Φ : Str → List D → DW → Option (D × DW)} {d : PySem.PyData} {s : S1} : evE Φ (.cst d) s = (some (d, s)) := Eq.trans (by first | rfl | (simp only [evE]; rfl)) (Eq.refl _)
theorem evE_neg {Φ : Str → List D → DW → Option (D × DW)} {a : E} {s : S1} : evE Φ (.neg a) s = ((evE Φ a s).bind fun (d, s1) => match d with
    | .int i => some (.int (-i), s1)
    | _ => none) := Eq.trans (by first | rfl | (simp only [evE]; rfl)) (Eq.refl _)
theorem evE_op {Φ : Str → List D → DW → Option (D × DW)} {o : Op2} {a : E} {b : E} {s : S1} : evE Φ (.op o a b) s = ((ev2 a b (evE Φ a) (evE Φ b) s).bind fun (x, y, s1) => (op2 o x y).map fun d => (d, s1)) := Eq.trans (by first | rfl | (simp only [evE]; rfl)) (Eq.refl _)
theorem evE_chain {Φ : Str → List D → DW → Option (D × DW)} {o : Op2} {p : Op2} {a : E} {b : E} {c : E} {s : S1} : evE Φ (.chain o p a b c) s = ((evE Φ a s).bind fun (x, s1) => (evE Φ b s1).bind fun (y, s2) => (op2 o x y).bind fun d => match d with
    | .bool true => (evE Φ c s2).bind fun (z, s3) => (op2 p y z).map fun d => (d, s3)
    | .bool false => some (.bool false, s2)
    | _ => none) := Eq.trans (by first | rfl | (simp only [evE]; rfl)) (Eq.refl _)
theorem evE_and {Φ : Str → List D → DW → Option (D × DW)} {a : E} {b : E} {s : S1} : evE Φ (.and a b) s = ((evE Φ a s).bind fun (d, s1) => match d with
    | .bool true => evE Φ b s1
    | .bool false => some (.bool false, s1)
    | _ => none) := Eq.trans (by first | rfl | (simp only [evE]; rfl)) (Eq.refl _)
theorem evE_or {Φ : Str → List D → DW → Option (D × DW)} {a : E} {b : E} {s : S1} : evE Φ (.or a b) s = ((evE Φ a s).bind fun (d, s1) => match d with
    | .bool true => some (.bool true, s1)
    | .bool false => evE Φ b s1
    | _ => none) := Eq.trans (by first | rfl | (simp only [evE]; rfl)) (Eq.refl _)
theorem evE_not {Φ : Str → List D → DW → Option (D × DW)} {a : E} {s : S1} : evE Φ (.not a) s = ((evE Φ a s).bind fun (d, s1) => match d with
    | .bool b => some (.bool (!b), s1)
    | _ => none) := Eq.trans (by first | rfl | (simp only [evE]; rfl)) (Eq.refl _)
theorem evE_ife {Φ : Str → List D → DW → Option (D × DW)} {c : E} {a : E} {b : E} {s : S1} : evE Φ (.ife c a b) s = ((evE Φ c s).bind fun (d, s1) => match d with
    | .bool true => evE Φ a s1
    | .bool false => evE Φ b s1
    | _ => none) := Eq.trans (by first | rfl | (simp only [evE]; rfl)) (Eq.refl _)
theorem evE_tup {Φ : Str → List D → DW → Option (D × DW)} {es : Es} {s : S1} : evE Φ (.tup es) s = ((evEs Φ es s).bind fun (ds, s1) => if ds.length ≤ line then some (.tuple ds, s1) else none) := Eq.trans (by first | rfl | (simp only [evE]; rfl)) (Eq.refl _)
theorem evE_lst {Φ : Str → List D → DW → Option (D × DW)} {es : Es} {s : S1} : evE Φ (.lst es) s = ((evEs Φ es s).bind fun (ds, s1) => if ds.length ≤ line then some (.list ds, s1) else none) := Eq.trans (by first | rfl | (simp only [evE]; rfl)) (Eq.refl _)
theorem evE_rep {Φ : Str → List D → DW → Option (D × DW)} {es : Es} {n : E} {s : S1} : evE Φ (.rep es n) s = ((evEs Φ es s).bind fun (ds, s1) => (evE Φ n s1).bind fun (d, s2) => match d with
    | .int k => if k < big / 2 ∧ -(big / 2) ≤ k ∧ ds.length ≤ line ∧ ds.length * k.toNat ≤ line then some (.list (List.replicate k.toNat ds).flatten, s2) else none
    | _ => none) := Eq.trans (by first | rfl | (simp only [evE]; rfl)) (Eq.refl _)
theorem evE_idx {Φ : Str → List D → DW → Option (D × DW)} {a : E} {b : E} {s : S1} : evE Φ (.idx a b) s = ((ev2 a b (evE Φ a) (evE Φ b) s).bind fun (x, y, s1) => (idxD x y).map fun d => (d, s1)) := Eq.trans (by first | rfl | (simp only [evE]; rfl)) (Eq.refl _)
theorem evE_slF {Φ : Str → List D → DW → Option (D × DW)} {a : E} {lo : E} {s : S1} : evE Φ (.slF a lo) s = ((ev2 a lo (evE Φ a) (evE Φ lo) s).bind fun (x, y, s1) => match y with
    | .int i => (slcD (some i) none x).map fun d => (d, s1)
    | _ => none) := Eq.trans (by first | rfl | (simp only [evE]; rfl)) (Eq.refl _)
theorem evE_slT {Φ : Str → List D → DW → Option (D × DW)} {a : E} {hi : E} {s : S1} : evE Φ (.slT a hi) s = ((ev2 a hi (evE Φ a) (evE Φ hi) s).bind fun (x, y, s1) => match y with
    | .int i => (slcD none (some i) x).map fun d => (d, s1)
    | _ => none) := Eq.trans (by first | rfl | (simp only [evE]; rfl)) (Eq.refl _)
theorem evE_slB {Φ : Str → List D → DW → Option (D × DW)} {a : E} {lo : E} {hi : E} {s : S1} : evE Φ (.slB a lo hi) s = ((evE Φ a s).bind fun (x, s1) => (evE Φ lo s1).bind fun (y, s2) => (evE Φ hi s2).bind fun (z, s3) => match y, z with
    | .int i, .int j => (slcD (some i) (some j) x).map fun d => (d, s3)
    | _, _ => none) := Eq.trans (by first | rfl | (simp only [evE]; rfl)) (Eq.refl _)
theorem evE_rev {Φ : Str → List D → DW → Option (D × DW)} {a : E} {s : S1} : evE Φ (.rev a) s = ((pk a (evE Φ a) s).bind fun (x, s1) => (revD x).map fun d => (d, s1)) := Eq.trans (by first | rfl | (simp only [evE]; rfl)) (Eq.refl _)
theorem evE_call {Φ : Str → List D → DW → Option (D × DW)} {f : Str} {es : Es} {s : S1} : evE Φ (.call f es) s = ((evEs Φ es s).bind fun (ds, s1) => (Φ f ds s1.w).map fun (d, w) => (d, { s1 with w := w })) := Eq.trans (by first | rfl | (simp only [evE]; rfl)) (Eq.refl _)
theorem evE_bf {Φ : Str → List D → DW → Option (D × DW)} {b : Bf} {a : E} {s : S1} : evE Φ (.bf b a) s = ((pk a (evE Φ a) s).bind fun (x, s1) => (bf1 b x).map fun d => (d, s1)) := Eq.trans (by first | rfl | (simp only [evE]; rfl)) (Eq.refl _)
theorem evE_mx2 {Φ : Str → List D → DW → Option (D × DW)} {a : E} {b : E} {s : S1} : evE Φ (.mx2 a b) s = ((evE Φ a s).bind fun (x, s1) => (evE Φ b s1).bind fun (y, s2) => match x, y with
    | .int i, .int j => some (.int (if j > i then j else i), s2)
    | _, _ => none) := Eq.trans (by first | rfl | (simp only [evE]; rfl)) (Eq.refl _)
theorem evE_mn2 {Φ : Str → List D → DW → Option (D × DW)} {a : E} {b : E} {s : S1} : evE Φ (.mn2 a b) s = ((evE Φ a s).bind fun (x, s1) => (evE Φ b s1).bind fun (y, s2) => match x, y with
    | .int i, .int j => some (.int (if j < i then j else i), s2)
    | _, _ => none) := Eq.trans (by first | rfl | (simp only [evE]; rfl)) (Eq.refl _)
theorem evE_isi {Φ : Str → List D → DW → Option (D × DW)} {t : Ty} {a : E} {s : S1} : evE Φ (.isi t a) s = ((evE Φ a s).bind fun (x, s1) => (isiD t x).map fun b => (.bool b, s1)) := Eq.trans (by first | rfl | (simp only [evE]; rfl)) (Eq.refl _)
theorem evE_disp {Φ : Str → List D → DW → Option (D × DW)} {ps : Ps} {s : S1} : evE Φ (.disp ps) s = (evDisp Φ ps s []) := Eq.trans (by first | rfl | (simp only [evE]; rfl)) (Eq.refl _)
theorem evE_pop {Φ : Str → List D → DW → Option (D × DW)} {i : Nat} {a : E} {s : S1} : evE Φ (.pop i a) s = (if s.ownL i then (evE Φ a s).bind fun (x, s1) => match x, s1.r[i]? with
    | .int k, some (.own (.list xs)) => if -(2 ^ 63) ≤ k ∧ k < 2 ^ 63 then match L2.ixN xs.length k with
      | some j => match xs[j]? with
        | some d => some (d, s1.put i (.own (.list (xs.eraseIdx j))))
        | none => none
      | none => none
      else none
    | _, _ => none
    else none) := Eq.trans (by first | rfl | (simp only [evE]; rfl)) (Eq.refl _)
theorem evE_get1 {Φ : Str → List D → DW → Option (D × DW)} {a : E} {b : E} {s : S1} : evE Φ (.get1 a b) s = ((ev2 a b (evE Φ a) (evE Φ b) s).bind fun (x, y, s1) => match x with
    | .dict kvs => if dOk kvs then (keyOf y).map fun k => ((look kvs k).getD .none, s1) else none
    | _ => none) := Eq.trans (by first | rfl | (simp only [evE]; rfl)) (Eq.refl _)
theorem evE_get2 {Φ : Str → List D → DW → Option (D × DW)} {a : E} {b : E} {c : E} {s : S1} : evE Φ (.get2 a b c) s = ((evE Φ a s).bind fun (x, s1) => (evE Φ b s1).bind fun (y, s2) => (evE Φ c s2).bind fun (z, s3) => match x with
    | .dict kvs => if dOk kvs then (keyOf y).map fun k => ((look kvs k).getD z, s3) else none
    | _ => none) := Eq.trans (by first | rfl | (simp only [evE]; rfl)) (Eq.refl _)
theorem evE_lrg {Φ : Str → List D → DW → Option (D × DW)} {a : E} {s : S1} : evE Φ (.lrg a) s = ((evE Φ a s).bind fun (x, s1) => match x with
    | .int j => if rngOk j && decide (j.toNat ≤ line) then some (.list (rangeD 0 j), s1) else none
    | _ => none) := Eq.trans (by first | rfl | (simp only [evE]; rfl)) (Eq.refl _)
theorem evS_asg {Φ : Str → List D → DW → Option (D × DW)} {fu : Nat} {i : Nat} {e : E} {s : S1} : evS Φ fu (.asg i e) s = ((evE Φ e s).map fun (d, s1) => (.nx, s1.put i (.val d))) := Eq.trans (by first | rfl | (simp only [evS]; rfl)) (Eq.refl _)
theorem evS_asgO {Φ : Str → List D → DW → Option (D × DW)} {fu : Nat} {i : Nat} {e : E} {s : S1} : evS Φ fu (.asgO i e) s = ((evE Φ e s).map fun (d, s1) => (.nx, s1.put i (.own d))) := Eq.trans (by first | rfl | (simp only [evS]; rfl)) (Eq.refl _)
theorem evS_unp {Φ : Str → List D → DW → Option (D × DW)} {fu : Nat} {t : Tg} {e : E} {s : S1} : evS Φ fu (.unp t e) s = ((evE Φ e s).bind fun (d, s1) => (setT t d s1.r).map fun r => (.nx, { s1 with r := r })) := Eq.trans (by first | rfl | (simp only [evS]; rfl)) (Eq.refl _)
theorem evS_par {Φ : Str → List D → DW → Option (D × DW)} {fu : Nat} {is : List (Nat × Bool)} {es : Es} {s : S1} : evS Φ fu (.par is es) s = ((evEs Φ es s).bind fun (ds, s1) => (putAll s1.r is ds).map fun r => (.nx, { s1 with r := r })) := Eq.trans (by first | rfl | (simp only [evS]; rfl)) (Eq.refl _)
theorem evS_setI {Φ : Str → List D → DW → Option (D × DW)} {fu : Nat} {i : Nat} {k : E} {e : E} {s : S1} : evS Φ fu (.setI i k e) s = ((evE Φ e s).bind fun (v, s1) => if s1.ownA i then (evE Φ k s1).bind fun (kd, s2) => match s2.r[i]? with
    | some (.own d) => (setD kd v d).map fun d' => (.nx, s2.put i (.own d'))
    | _ => none
    else none) := Eq.trans (by first | rfl | (simp only [evS]; rfl)) (Eq.refl _)
theorem evS_app {Φ : Str → List D → DW → Option (D × DW)} {fu : Nat} {i : Nat} {e : E} {s : S1} : evS Φ fu (.app i e) s = (if s.ownL i then (evE Φ e s).bind fun (v, s1) => match s1.r[i]? with
    | some (.own (.list xs)) => if xs.length < line then some (.nx, s1.put i (.own (.list (xs ++ [v])))) else none
    | _ => none
    else none) := Eq.trans (by first | rfl | (simp only [evS]; rfl)) (Eq.refl _)
theorem evS_ext {Φ : Str → List D → DW → Option (D × DW)} {fu : Nat} {i : Nat} {e : E} {s : S1} : evS Φ fu (.ext i e) s = (if s.ownL i then (evE Φ e s).bind fun (v, s1) => match v, s1.r[i]? with
    | .list ys, some (.own (.list xs)) => if xs.length + ys.length ≤ line then some (.nx, s1.put i (.own (.list (xs ++ ys)))) else none
    | _, _ => none
    else none) := Eq.trans (by first | rfl | (simp only [evS]; rfl)) (Eq.refl _)
theorem evS_ifs {Φ : Str → List D → DW → Option (D × DW)} {fu : Nat} {c : E} {a : List St} {b : List St} {s : S1} : evS Φ fu (.ifs c a b) s = (match asB (evE Φ c s) with
    | some (true, s1) => evSs Φ fu a s1
    | some (false, s1) => evSs Φ fu b s1
    | none => none) := Eq.trans (by first | rfl | (simp only [evS]; rfl)) (Eq.refl _)
theorem evS_ret {Φ : Str → List D → DW → Option (D × DW)} {fu : Nat} {e : E} {s : S1} : evS Φ fu (.ret e) s = ((evE Φ e s).map fun (d, s1) => (.ret d, s1)) := Eq.trans (by first | rfl | (simp only [evS]; rfl)) (Eq.refl _)
theorem evS_retN {Φ : Str → List D → DW → Option (D × DW)} {fu : Nat}  {s : S1} : evS Φ fu (.retN ) s = (some (.ret .none, s)) := Eq.trans (by first | rfl | (simp only [evS]; rfl)) (Eq.refl _)
theorem evS_brk {Φ : Str → List D → DW → Option (D × DW)} {fu : Nat}  {s : S1} : evS Φ fu (.brk ) s = (some (.brk, s)) := Eq.trans (by first | rfl | (simp only [evS]; rfl)) (Eq.refl _)
theorem evS_cont {Φ : Str → List D → DW → Option (D × DW)} {fu : Nat}  {s : S1} : evS Φ fu (.cont ) s = (some (.cont, s)) := Eq.trans (by first | rfl | (simp only [evS]; rfl)) (Eq.refl _)
theorem evS_ex {Φ : Str → List D → DW → Option (D × DW)} {fu : Nat} {e : E} {s : S1} : evS Φ fu (.ex e) s = ((evE Φ e s).map fun (_, s1) => (.nx, s1)) := Eq.trans (by first | rfl | (simp only [evS]; rfl)) (Eq.refl _)
theorem evS_fail {Φ : Str → List D → DW → Option (D × DW)} {fu : Nat}  {s : S1} : evS Φ fu (.fail ) s = (none) := Eq.trans (by first | rfl | (simp only [evS]; rfl)) (Eq.refl _)
/-! ### comprehensions of two fors, pure -/
theorem lc2Go_pure {Φ : Str → List D → DW → Option (D × DW)} {α : Type} {vs : List Nat} {t : Tg} {c : S1 → R1} {inner : S1 → Option (List D × S1)} {F : α → D} {G : α → List D} : ∀ {L : List α} {s s0 : S1}, s.w = s0.w → wipeR s.r vs = wipeR s0.r vs →
    (∀ a ∈ L, ∃ r1 s3, setT t (F a) (wipeR s0.r vs) = some r1 ∧ c ⟨r1, s0.w⟩ = some (.bool true, ⟨r1, s0.w⟩) ∧ inner ⟨r1, s0.w⟩ = some (G a, s3) ∧ wipeR s3.r vs = wipeR s0.r vs ∧ s3.w = s0.w) →
    ∃ s', lc2Go vs t c inner (L.map F) s = some (L.flatMap G, s') ∧ wipeR s'.r vs = wipeR s0.r vs ∧ s'.w = s0.w
  | [], s, s0, hw, hr, h => ⟨s, rfl, hr, hw⟩
  | a :: L, s, s0, hw, hr, h => by
    obtain ⟨r1, s3, h1, h3, h4, h5, h6⟩ := h a (List.mem_cons_self ..)
    have e0 : ({ s with r := r1 } : S1) = ⟨r1, s0.w⟩ := by rw [← hw]
    obtain ⟨s', i1, i2, i3⟩ := lc2Go_pure (Φ := Φ) (L := L) (s := s3) (s0 := s0) h6 h5 fun b hb => h b (List.mem_cons_of_mem _ hb)
    refine ⟨s', ?_, i2, i3⟩
    simp only [List.map_cons, lc2Go]
    rw [hr, h1]
    simp only [e0, h3, asB, h4, i1, List.flatMap_cons]
theorem lcAll_of {vs : List Nat} {it : S1 → Option (List D × S1)} {go : List D → S1 → Option (List D × S1)} {s s' : S1} {xs ds : List D} (hit : it s = some (xs, s)) (hn : noOwn s.r vs = true) (hl : xs.length ≤ line) (hgo : go xs s = some (ds, s')) (hd : ds.length ≤ line) (h2 : wipeR s'.r vs = wipeR s.r vs) (h3 : s'.w = s.w) : lcAll vs it go s = some (ds, s) := by
  have hb := back_of_wipe h2 hn
  simp only [lcAll, hit, hn, hl, decide_true, Bool.and_self, if_true, hgo, hd, hb, h3]
theorem ev_lc2' {Φ : Str → List D → DW → Option (D × DW)} {α β : Type} {vs vs1 : List Nat} {t t1 : Tg} {it it1 : It} {e : E} {s : S1} {L : List α} {F : α → D} {M : α → List β} {F1 : β → D} (g : α → β → D) (hit : evIt Φ it s = some (L.map F, s)) (hn : noOwn s.r vs = true) (hl : L.length ≤ line) (hm : (L.flatMap fun a => (M a).map (g a)).length ≤ line)
    (hvv : ∀ r r' : List Ent, wipeR r vs1 = wipeR r' vs1 → wipeR r vs = wipeR r' vs)
    (h : ∀ a ∈ L, ∃ r1, setT t (F a) (wipeR s.r vs) = some r1 ∧ wipeR r1 vs = wipeR s.r vs ∧ evIt Φ it1 ⟨r1, s.w⟩ = some ((M a).map F1, ⟨r1, s.w⟩) ∧ noOwn r1 vs1 = true ∧ (M a).length ≤ line ∧
      ∀ b ∈ M a, Turn t1 vs1 (evE Φ (.cst (.bool true))) (evE Φ e) ⟨r1, s.w⟩ (F1 b) true (g a b)) :
    evE Φ (.lc2 vs vs1 t it (.cst (.bool true)) t1 it1 (.cst (.bool true)) e) s = some (.list (L.flatMap fun a => (M a).map (g a)), s) := by
  obtain ⟨s', h1, h2, h3⟩ := lc2Go_pure (Φ := Φ) (vs := vs) (t := t) (c := evE Φ (.cst (.bool true))) (inner := fun s2 => match evIt Φ it1 s2 with
      | some (ys, s3) => if noOwn s3.r vs1 && decide (ys.length ≤ line) then lcGo vs1 t1 (evE Φ (.cst (.bool true))) (evE Φ e) ys s3 else none
      | none => none) (F := F) (G := fun a => (M a).map (g a)) (L := L) (s := s) (s0 := s) rfl rfl fun a ha => by
    obtain ⟨r1, a1, a2, a3, a4, a5, a6⟩ := h a ha
    obtain ⟨s3, b1, b2, b3⟩ := lcGo_pure (vs := vs1) (t := t1) (c := evE Φ (.cst (.bool true))) (e := evE Φ e) (F := F1) (g := g a) (p := fun _ => true) (L := M a) (s := ⟨r1, s.w⟩) (s0 := ⟨r1, s.w⟩) rfl rfl a6
    rw [List.filter_eq_self.mpr fun _ _ => rfl] at b1
    refine ⟨r1, s3, a1, by simp only [evE], ?_, (hvv _ _ b2).trans a2, b3⟩
    simp only [a3, a4, List.length_map, a5, decide_true, Bool.and_self, if_true]
    exact b1
  exact (congrArg (Option.map fun (x : List D × S1) => (PyData.list x.1, x.2)) (lcAll_of (vs := vs) hit hn (by rw [List.length_map]; exact hl) h1 hm h2 h3)).trans rfl
end Iv

/-! A typed reading of the evaluator: codes of types, values of expressions and blocks. -/
namespace Iv
open PySem
/-! ### codes -/
structure Cod (α : Type) [DecidableEq α] where
  enc : α → D
  dp : Nat
  lay : ∀ a, (enc a).canLay0 = true
  dpt : ∀ a, (enc a).depth ≤ dp
  inj : ∀ a b, PyData.eqv (enc a) (enc b) = decide (a = b)
@[reducible] def eZ : Int → D := .int
@[reducible] def eB : Bool → D := .bool
@[reducible] def eP {α β : Type} (f : α → D) (g : β → D) : α × β → D := fun x => .tuple [f x.1, g x.2]
@[reducible] def eP3 {α β γ : Type} (f : α → D) (g : β → D) (h : γ → D) : α × β × γ → D := fun x => .tuple [f x.1, g x.2.1, h x.2.2]
@[reducible] def eT {α : Type} (f : α → D) : List α → D := fun l => .tuple (l.map f)
@[reducible] def eL {α : Type} (f : α → D) : List α → D := fun l => .list (l.map f)
@[reducible] def eO {α : Type} (f : α → D) : Option α → D := fun x => match x with
  | none => .none
  | some a => f a
@[reducible] def eD {α β : Type} (f : α → D) (g : β → D) : List (α × β) → D := fun l => .dict (l.map fun x => (f x.1, g x.2))
theorem decide_pair {α β : Type} [DecidableEq α] [DecidableEq β] (a b : α × β) : (decide (a.1 = b.1) && decide (a.2 = b.2)) = decide (a = b) := by
  rw [← Bool.decide_and]
  exact decide_eq_decide.mpr Prod.ext_iff.symm
theorem eqvAll_map {α : Type} [DecidableEq α] {f : α → D} (h : ∀ a b, PyData.eqv (f a) (f b) = decide (a = b)) : ∀ a b : List α, PyData.eqvAll (a.map f) (b.map f) = decide (a = b)
  | [], [] => by simp [PyData.eqvAll]
  | [], _ :: _ => by simp [PyData.eqvAll]
  | _ :: _, [] => by simp [PyData.eqvAll]
  | x :: a, y :: b => by
    simp only [List.map_cons, PyData.eqvAll, h, eqvAll_map h a b]
    rw [← Bool.decide_and]
    exact decide_eq_decide.mpr (by simp)
theorem layAll_map {α : Type} {f : α → D} (h : ∀ a, (f a).canLay0 = true) : ∀ a : List α, PyData.canLayAll0 (a.map f) = true
  | [] => rfl
  | x :: a => by simp [PyData.canLayAll0, h, layAll_map h a]
theorem depthAll_map {α : Type} {f : α → D} {n : Nat} (h : ∀ a, (f a).depth ≤ n) : ∀ a : List α, PyData.depthAll (a.map f) ≤ n
  | [] => Nat.zero_le _
  | x :: a => by
    simp only [List.map_cons, PyData.depthAll]
    have := h x
    have := depthAll_map h a
    omega
def cZ : Cod Int := ⟨eZ, 1, fun _ => rfl, fun _ => by simp [PyData.depth], fun a b => by simp [PyData.eqv]; rfl⟩
def cB : Cod Bool := ⟨eB, 1, fun _ => rfl, fun _ => by simp [PyData.depth], fun a b => by cases a <;> cases b <;> rfl⟩
def cP {α β : Type} [DecidableEq α] [DecidableEq β] (c : Cod α) (d : Cod β) : Cod (α × β) := ⟨eP c.enc d.enc, max c.dp d.dp + 1, fun x => by simp [PyData.canLay0, PyData.canLayAll0, c.lay, d.lay], fun x => by
    have := c.dpt x.1
    have := d.dpt x.2
    simp only [PyData.depth, PyData.depthAll]
    omega, fun x y => by
    simp only [PyData.eqv, PyData.eqvAll, c.inj, d.inj, Bool.and_true]
    exact decide_pair x y⟩
def cP3 {α β γ : Type} [DecidableEq α] [DecidableEq β] [DecidableEq γ] (c : Cod α) (d : Cod β) (e : Cod γ) : Cod (α × β × γ) := ⟨eP3 c.enc d.enc e.enc, max c.dp (max d.dp e.dp) + 1, fun x => by simp [PyData.canLay0, PyData.canLayAll0, c.lay, d.lay, e.lay], fun x => by
    have := c.dpt x.1
    have := d.dpt x.2.1
    have := e.dpt x.2.2
    simp only [PyData.depth, PyData.depthAll]
    omega, fun x y => by
    simp only [PyData.eqv, PyData.eqvAll, c.inj, d.inj, e.inj, Bool.and_true]
    rw [decide_pair]
    exact decide_pair x y⟩
def cT {α : Type} [DecidableEq α] (c : Cod α) : Cod (List α) := ⟨eT c.enc, c.dp + 1, fun x => by simp [PyData.canLay0, layAll_map c.lay], fun x => by
    have := depthAll_map c.dpt x
    simp only [PyData.depth]
    omega, fun x y => by
    simp only [PyData.eqv]
    exact eqvAll_map c.inj x y⟩
def cL {α : Type} [DecidableEq α] (c : Cod α) : Cod (List α) := ⟨eL c.enc, c.dp + 1, fun x => by simp [PyData.canLay0, layAll_map c.lay], fun x => by
    have := depthAll_map c.dpt x
    simp only [PyData.depth]
    omega, fun x y => by
    simp only [PyData.eqv]
    exact eqvAll_map c.inj x y⟩
theorem Cod.ok {α : Type} [DecidableEq α] (c : Cod α) (h : c.dp ≤ 64) (a b : α) : okE (c.enc a) (c.enc b) = true := by
  have h1 := c.dpt a
  have h2 := c.dpt b
  simp only [okE, SeqAt.shaped, c.lay, Bool.true_and, Bool.and_eq_true, decide_eq_true_eq]
  omega
/-! ### combinators of shallow values -/
def leT {α β : Type} (a : α) (f : α → β) : β := f a
def forOk {σ α : Type} (step : σ → α → σ) (ok : σ → α → Prop) : σ → List α → Prop
  | _, [] => True
  | st, a :: l => ok st a ∧ forOk step ok (step st a) l
/-- a loop that may return -/
def forR {σ α ρ : Type} (step : σ → α → ρ ⊕ σ) : σ → List α → ρ ⊕ σ
  | st, [] => .inr st
  | st, a :: l => match step st a with
    | .inl r => .inl r
    | .inr st' => forR step st' l
def forROk {σ α ρ : Type} (step : σ → α → ρ ⊕ σ) (ok : σ → α → Prop) : σ → List α → Prop
  | _, [] => True
  | st, a :: l => ok st a ∧ (∀ st', step st a = .inr st' → forROk step ok st' l)
def orR {ρ σ τ : Type} (inj : ρ → τ) (m : ρ ⊕ σ) (k : σ → τ) : τ := match m with
  | .inl r => inj r
  | .inr s => k s
def orROk {ρ σ : Type} (m : ρ ⊕ σ) (k : σ → Prop) : Prop := ∀ s, m = .inr s → k s
def atZ {α : Type} [Inhabited α] (xs : List α) (i : Int) : α := (L2.atI xs i).getD default
def atOk {α : Type} (xs : List α) (i : Int) : Prop := (L2.atI xs i).isSome = true
def cutZ {α : Type} (xs : List α) (lo hi : Option Int) : List α := (xs.drop (HT.sIx xs.length 0 lo)).take (HT.sIx xs.length xs.length hi - HT.sIx xs.length 0 lo)
def absZ (x : Int) : Int := if x < 0 then -x else x
def maxZ (xs : List Int) : Int := (maxI xs).getD 0
def minZ (xs : List Int) : Int := (minI xs).getD 0
def sortZ {α : Type} (f : α → D) (xs : List α) : List α := xs.mergeSort fun a b => W.dataLe false id (f a) (f b)
def rangeZ (a b : Int) : List Int := (List.range (b - a).toNat).map fun (i : Nat) => a + (i : Int)
def enumZ {α : Type} : Nat → List α → List (Int × α)
  | _, [] => []
  | i, x :: r => ((i : Int), x) :: enumZ (i + 1) r
def repZ {α : Type} (xs : List α) (n : Int) : List α := (List.replicate n.toNat xs).flatten
def lookZ {α β : Type} [DecidableEq α] (l : List (α × β)) (k : α) : Option β := (l.find? fun p => decide (p.1 = k)).map (·.2)
def putZ {α β : Type} [DecidableEq α] (k : α) (v : β) (l : List (α × β)) : List (α × β) := if l.any (fun p => decide (p.1 = k)) then l.map (fun p => if p.1 = k then (p.1, v) else p) else l ++ [(k, v)]
def mulOk (a b : Int) : Prop := (small a || small b) = true
/-! ### expressions -/
section
variable {Φ : Str → List D → DW → Option (D × DW)} {fu : Nat}
abbrev Ev (Φ : Str → List D → DW → Option (D × DW)) (e : E) (s : S1) (d : D) (s' : S1) : Prop := evE Φ e s = some (d, s')
abbrev Evs (Φ : Str → List D → DW → Option (D × DW)) (e : Es) (s : S1) (d : List D) (s' : S1) : Prop := evEs Φ e s = some (d, s')
abbrev EvIt (Φ : Str → List D → DW → Option (D × DW)) (e : It) (s : S1) (d : List D) (s' : S1) : Prop := evIt Φ e s = some (d, s')
abbrev E2 (Φ : Str → List D → DW → Option (D × DW)) (a b : E) (s : S1) (x y : D) (s' : S1) : Prop := ev2 a b (evE Φ a) (evE Φ b) s = some (x, y, s')
abbrev Pk (Φ : Str → List D → DW → Option (D × DW)) (a : E) (s : S1) (x : D) (s' : S1) : Prop := pk a (evE Φ a) s = some (x, s')
def isVr : E → Bool
  | .var _ => true
  | _ => false
theorem ev_var {i : Nat} {s s' : S1} {d : D} (h : s.use i = some (d, s')) : Ev Φ (.var i) s d s' := by
  rw [Ev, evE_var]; exact h
theorem ev_cst {d : D} {s : S1} : Ev Φ (.cst d) s d s := by rw [Ev, evE_cst]
theorem e2_vv {i j : Nat} {s : S1} {x y : D} (h1 : s.dat i = some x) (h2 : s.dat j = some y) : E2 Φ (.var i) (.var j) s x y s := by
  simp only [E2, ev2, pk, h1, h2, Option.map_some, Option.bind_some]
theorem e2_ve {i : Nat} {b : E} {s s1 : S1} {x x0 y : D} (hb : isVr b = false) (h1 : s.dat i = some x0) (h2 : Ev Φ b s y s1) (h3 : s1.dat i = some x) : E2 Φ (.var i) b s x y s1 := by
  have : pk b (evE Φ b) s = some (y, s1) := by
    cases b <;> first | exact h2 | cases hb
  simp only [E2, ev2, h1, this, h3, Option.map_some, Option.bind_some]
theorem e2_ev {a : E} {j : Nat} {s s1 : S1} {x y : D} (ha : isVr a = false) (h1 : Ev Φ a s x s1) (h2 : s1.dat j = some y) : E2 Φ a (.var j) s x y s1 := by
  have : ev2 a (.var j) (evE Φ a) (evE Φ (.var j)) s = (evE Φ a s).bind fun (x, s1) => (pk (.var j) (evE Φ (.var j)) s1).map fun (y, s2) => (x, y, s2) := by
    cases a <;> first | rfl | cases ha
  rw [E2, this, h1]
  simp only [pk, h2, Option.map_some, Option.bind_some]
theorem e2_ee {a b : E} {s s1 s2 : S1} {x y : D} (ha : isVr a = false) (hb : isVr b = false) (h1 : Ev Φ a s x s1) (h2 : Ev Φ b s1 y s2) : E2 Φ a b s x y s2 := by
  have : ev2 a b (evE Φ a) (evE Φ b) s = (evE Φ a s).bind fun (x, s1) => (pk b (evE Φ b) s1).map fun (y, s2) => (x, y, s2) := by
    cases a <;> first | rfl | cases ha
  have h3 : pk b (evE Φ b) s1 = some (y, s2) := by
    cases b <;> first | exact h2 | cases hb
  rw [E2, this, h1]
  simp only [h3, Option.map_some, Option.bind_some]
theorem pk_v {i : Nat} {s : S1} {x : D} (h1 : s.dat i = some x) : Pk Φ (.var i) s x s := by
  simp only [Pk, pk, h1, Option.map_some]
theorem pk_e {a : E} {s s1 : S1} {x : D} (ha : isVr a = false) (h1 : Ev Φ a s x s1) : Pk Φ a s x s1 := by
  cases a <;> first | exact h1 | cases ha
theorem ev_neg {a : E} {s s1 : S1} {x : Int} (h : Ev Φ a s (.int x) s1) : Ev Φ (.neg a) s (.int (-x)) s1 := by
  rw [Ev, evE_neg, h]; rfl
theorem ev_op {o : Op2} {a b : E} {s s1 : S1} {x y d : D} (h : E2 Φ a b s x y s1) (ho : op2 o x y = some d) : Ev Φ (.op o a b) s d s1 := by
  rw [Ev, evE_op, h]
  simp only [Option.bind_some, ho, Option.map_some]
theorem ev_addI {a b : E} {s s1 : S1} {x y : Int} (h : E2 Φ a b s (.int x) (.int y) s1) : Ev Φ (.op .add a b) s (.int (x + y)) s1 := ev_op h rfl
theorem ev_subI {a b : E} {s s1 : S1} {x y : Int} (h : E2 Φ a b s (.int x) (.int y) s1) : Ev Φ (.op .sub a b) s (.int (x - y)) s1 := ev_op h rfl
theorem ev_mulI {a b : E} {s s1 : S1} {x y : Int} (h : E2 Φ a b s (.int x) (.int y) s1) (ho : mulOk x y) : Ev Φ (.op .mul a b) s (.int (x * y)) s1 := ev_op h (by simp only [op2, mulD]; exact if_pos ho)
theorem ev_fdivI {a b : E} {s s1 : S1} {x y : Int} (h : E2 Φ a b s (.int x) (.int y) s1) (ho : 0 < y ∧ y < big) : Ev Φ (.op .fdiv a b) s (.int (x / y)) s1 := ev_op h (by simp only [op2]; rw [if_pos ho])
theorem ev_modI {a b : E} {s s1 : S1} {x y : Int} (h : E2 Φ a b s (.int x) (.int y) s1) (ho : 0 < y) : Ev Φ (.op .mod a b) s (.int (x % y)) s1 := ev_op h (by simp only [op2]; rw [if_pos ho])
theorem ev_addT {α : Type} {f : α → D} {a b : E} {s s1 : S1} {x y : List α} (h : E2 Φ a b s (.tuple (x.map f)) (.tuple (y.map f)) s1) (ho : x.length + y.length ≤ line) : Ev Φ (.op .add a b) s (.tuple ((x ++ y).map f)) s1 := ev_op h (by simp only [op2, addD, List.length_map, ho, if_true, List.map_append])
theorem ev_addL {α : Type} {f : α → D} {a b : E} {s s1 : S1} {x y : List α} (h : E2 Φ a b s (.list (x.map f)) (.list (y.map f)) s1) (ho : x.length + y.length ≤ line) : Ev Φ (.op .add a b) s (.list ((x ++ y).map f)) s1 := ev_op h (by simp only [op2, addD, List.length_map, ho, if_true, List.map_append])
theorem ev_eq {α : Type} [DecidableEq α] (c : Cod α) (hd : c.dp ≤ 64) {a b : E} {s s1 : S1} {x y : α} (h : E2 Φ a b s (c.enc x) (c.enc y) s1) : Ev Φ (.op .eq a b) s (.bool (decide (x = y))) s1 := ev_op h (by simp only [op2, c.ok hd, if_true, c.inj])
theorem ev_ne {α : Type} [DecidableEq α] (c : Cod α) (hd : c.dp ≤ 64) {a b : E} {s s1 : S1} {x y : α} (h : E2 Φ a b s (c.enc x) (c.enc y) s1) : Ev Φ (.op .ne a b) s (.bool (!decide (x = y))) s1 := ev_op h (by simp only [op2, c.ok hd, if_true, c.inj])
theorem ev_lt {a b : E} {s s1 : S1} {x y : Int} (h : E2 Φ a b s (.int x) (.int y) s1) : Ev Φ (.op .lt a b) s (.bool (decide (x < y))) s1 := ev_op h rfl
theorem ev_le {a b : E} {s s1 : S1} {x y : Int} (h : E2 Φ a b s (.int x) (.int y) s1) : Ev Φ (.op .le a b) s (.bool (decide (x ≤ y))) s1 := ev_op h rfl
theorem ev_gt {a b : E} {s s1 : S1} {x y : Int} (h : E2 Φ a b s (.int x) (.int y) s1) : Ev Φ (.op .gt a b) s (.bool (decide (y < x))) s1 := ev_op h rfl
theorem ev_ge {a b : E} {s s1 : S1} {x y : Int} (h : E2 Φ a b s (.int x) (.int y) s1) : Ev Φ (.op .ge a b) s (.bool (decide (y ≤ x))) s1 := ev_op h rfl
theorem anyD {α : Type} [DecidableEq α] (c : Cod α) (x : α) : ∀ l : List α, ((l.map c.enc).any fun z => PyData.eqv z (c.enc x)) = decide (x ∈ l)
  | [] => rfl
  | y :: l => by
    simp only [List.map_cons, List.any_cons, c.inj, anyD c x l]
    rw [← Bool.decide_or]
    exact decide_eq_decide.mpr (by simp [eq_comm])
theorem okT {α : Type} [DecidableEq α] (c : Cod α) (hd : c.dp < 64) (x : α) (l : List α) : okE (c.enc x) (.tuple (l.map c.enc)) = true := by
  have h1 := c.dpt x
  have h2 := (cT c).dpt l
  have h3 := (cT c).lay l
  simp only [cT, eT] at h2 h3
  simp only [okE, SeqAt.shaped, c.lay, h3, Bool.true_and, Bool.and_eq_true, decide_eq_true_eq]
  omega
theorem okL {α : Type} [DecidableEq α] (c : Cod α) (hd : c.dp < 64) (x : α) (l : List α) : okE (c.enc x) (.list (l.map c.enc)) = true := by
  have h1 := c.dpt x
  have h2 := (cL c).dpt l
  have h3 := (cL c).lay l
  simp only [cL, eL] at h2 h3
  simp only [okE, SeqAt.shaped, c.lay, h3, Bool.true_and, Bool.and_eq_true, decide_eq_true_eq]
  omega
theorem ev_inT {α : Type} [DecidableEq α] (c : Cod α) (hd : c.dp < 64) {a b : E} {s s1 : S1} {x : α} {l : List α} (h : E2 Φ a b s (c.enc x) (.tuple (l.map c.enc)) s1) : Ev Φ (.op .isin a b) s (.bool (decide (x ∈ l))) s1 := ev_op h (by simp only [op2, inD, okT c hd, if_true, anyD, Option.map_some])
theorem ev_inL {α : Type} [DecidableEq α] (c : Cod α) (hd : c.dp < 64) {a b : E} {s s1 : S1} {x : α} {l : List α} (h : E2 Φ a b s (c.enc x) (.list (l.map c.enc)) s1) : Ev Φ (.op .isin a b) s (.bool (decide (x ∈ l))) s1 := ev_op h (by simp only [op2, inD, okL c hd, if_true, anyD, Option.map_some])
theorem ev_ninT {α : Type} [DecidableEq α] (c : Cod α) (hd : c.dp < 64) {a b : E} {s s1 : S1} {x : α} {l : List α} (h : E2 Φ a b s (c.enc x) (.tuple (l.map c.enc)) s1) : Ev Φ (.op .notin a b) s (.bool (!decide (x ∈ l))) s1 := ev_op h (by simp only [op2, inD, okT c hd, if_true, anyD, Option.map_some])
theorem ev_ninL {α : Type} [DecidableEq α] (c : Cod α) (hd : c.dp < 64) {a b : E} {s s1 : S1} {x : α} {l : List α} (h : E2 Φ a b s (c.enc x) (.list (l.map c.enc)) s1) : Ev Φ (.op .notin a b) s (.bool (!decide (x ∈ l))) s1 := ev_op h (by simp only [op2, inD, okL c hd, if_true, anyD, Option.map_some])
theorem ev_chain {o p : Op2} {a b c : E} {s s1 s2 s3 : S1} {x y z : D} {u v : Bool} (h1 : Ev Φ a s x s1) (h2 : Ev Φ b s1 y s2) (ho : op2 o x y = some (.bool u)) (h3 : u = true → Ev Φ c s2 z s3) (hp : op2 p y z = some (.bool v)) (hs : s3 = s2) : Ev Φ (.chain o p a b c) s (.bool (u && v)) s2 := by
  subst hs
  rw [Ev, evE_chain, h1]
  simp only [Option.bind_some, h2, ho]
  cases u with
  | true =>
    have h3 := h3 rfl
    simp only [Ev] at h3
    simp only [h3, Option.bind_some, hp, Option.map_some, Bool.true_and]
  | false => rfl
theorem ev_and {a b : E} {s s1 : S1} {x y : Bool} (h1 : Ev Φ a s (.bool x) s1) (h2 : x = true → Ev Φ b s1 (.bool y) s1) : Ev Φ (.and a b) s (.bool (x && y)) s1 := by
  rw [Ev, evE_and, h1]
  cases x with
  | true => exact h2 rfl
  | false => rfl
theorem ev_or {a b : E} {s s1 : S1} {x y : Bool} (h1 : Ev Φ a s (.bool x) s1) (h2 : x = false → Ev Φ b s1 (.bool y) s1) : Ev Φ (.or a b) s (.bool (x || y)) s1 := by
  rw [Ev, evE_or, h1]
  cases x with
  | false => exact h2 rfl
  | true => rfl
theorem ev_not {a : E} {s s1 : S1} {x : Bool} (h1 : Ev Φ a s (.bool x) s1) : Ev Φ (.not a) s (.bool (!x)) s1 := by
  rw [Ev, evE_not, h1]; rfl
theorem ev_ife {α : Type} {f : α → D} {c a b : E} {s s1 : S1} {x : Bool} {u v : α} (h : Ev Φ c s (.bool x) s1) (h1 : x = true → Ev Φ a s1 (f u) s1) (h0 : x = false → Ev Φ b s1 (f v) s1) : Ev Φ (.ife c a b) s (f (cond x u v)) s1 := by
  rw [Ev, evE_ife, h]
  cases x with
  | true => exact h1 rfl
  | false => exact h0 rfl
theorem evs_nil {s : S1} : Evs Φ .nil s [] s := by simp only [Evs, evEs]
theorem evs_cons {e : E} {es : Es} {s s1 s2 : S1} {d : D} {ds : List D} (h1 : Ev Φ e s d s1) (h2 : Evs Φ es s1 ds s2) : Evs Φ (.cons e es) s (d :: ds) s2 := by
  simp only [Evs, evEs]
  simp only [Ev] at h1
  simp only [Evs] at h2
  simp only [h1, h2, Option.bind_some, Option.map_some]
theorem ev_tup {es : Es} {s s1 : S1} {ds : List D} (h : Evs Φ es s ds s1) (hl : ds.length ≤ line) : Ev Φ (.tup es) s (.tuple ds) s1 := by
  rw [Ev, evE_tup, h]
  simp only [Option.bind_some, hl, if_true]
theorem ev_lst {es : Es} {s s1 : S1} {ds : List D} (h : Evs Φ es s ds s1) (hl : ds.length ≤ line) : Ev Φ (.lst es) s (.list ds) s1 := by
  rw [Ev, evE_lst, h]
  simp only [Option.bind_some, hl, if_true]
theorem ev_rep {α : Type} {f : α → D} {es : Es} {n : E} {s s1 s2 : S1} {xs : List α} {k : Int} (h : Evs Φ es s (xs.map f) s1) (hn : Ev Φ n s1 (.int k) s2) (hk : k < big / 2 ∧ -(big / 2) ≤ k ∧ xs.length ≤ line ∧ xs.length * k.toNat ≤ line) : Ev Φ (.rep es n) s (.list ((repZ xs k).map f)) s2 := by
  rw [Ev, evE_rep, h]
  simp only [Ev] at hn
  simp only [Option.bind_some, hn, List.length_map, hk, and_self, if_true]
  rw [repZ, List.map_flatten, List.map_replicate]
theorem atI_map {α β : Type} (f : α → β) (xs : List α) (i : Int) : L2.atI (xs.map f) i = (L2.atI xs i).map f := by
  unfold L2.atI
  rw [List.length_map]
  cases L2.ixN xs.length i with
  | none => rfl
  | some j => simp
theorem atD_some {α : Type} [Inhabited α] {f : α → D} {xs : List α} {i : Int} (h : atOk xs i) : atD (xs.map f) i = some (f (atZ xs i)) := by
  unfold atOk at h
  unfold atD atZ
  rw [atI_map]
  obtain ⟨a, ha⟩ := Option.isSome_iff_exists.mp h
  rw [ha]; rfl
theorem ev_idx {a b : E} {s s1 : S1} {x y d : D} (h : E2 Φ a b s x y s1) (ho : idxD x y = some d) : Ev Φ (.idx a b) s d s1 := by
  rw [Ev, evE_idx, h]
  simp only [Option.bind_some, ho, Option.map_some]
theorem ev_idxT {α : Type} [Inhabited α] {f : α → D} {a b : E} {s s1 : S1} {xs : List α} {i : Int} (h : E2 Φ a b s (.tuple (xs.map f)) (.int i) s1) (ho : atOk xs i) : Ev Φ (.idx a b) s (f (atZ xs i)) s1 := ev_idx h (atD_some ho)
theorem ev_idxL {α : Type} [Inhabited α] {f : α → D} {a b : E} {s s1 : S1} {xs : List α} {i : Int} (h : E2 Φ a b s (.list (xs.map f)) (.int i) s1) (ho : atOk xs i) : Ev Φ (.idx a b) s (f (atZ xs i)) s1 := ev_idx h (atD_some ho)
theorem ev_fst {x : D} {r : List D} {a b : E} {s s1 : S1} (h : E2 Φ a b s (.tuple (x :: r)) (.int 0) s1) : Ev Φ (.idx a b) s x s1 := ev_idx h (show atD (x :: r) 0 = some x by
  unfold atD L2.atI
  have : L2.ixN (x :: r).length 0 = some 0 := by unfold L2.ixN; simp
  rw [this]; rfl)
theorem ev_snd {x y : D} {r : List D} {a b : E} {s s1 : S1} (h : E2 Φ a b s (.tuple (x :: y :: r)) (.int 1) s1) : Ev Φ (.idx a b) s y s1 := ev_idx h (show atD (x :: y :: r) 1 = some y by
  unfold atD L2.atI
  have : L2.ixN (x :: y :: r).length 1 = some 1 := by unfold L2.ixN; simp; omega
  rw [this]; rfl)
theorem ev_trd {x y z : D} {r : List D} {a b : E} {s s1 : S1} (h : E2 Φ a b s (.tuple (x :: y :: z :: r)) (.int 2) s1) : Ev Φ (.idx a b) s z s1 := ev_idx h (show atD (x :: y :: z :: r) 2 = some z by
  unfold atD L2.atI
  have : L2.ixN (x :: y :: z :: r).length 2 = some 2 := by unfold L2.ixN; simp; omega
  rw [this]; rfl)
theorem cutD_map {α : Type} {f : α → D} (xs : List α) (lo hi : Option Int) : cutD (xs.map f) lo hi = (cutZ xs lo hi).map f := by
  unfold cutD cutZ
  rw [List.length_map, List.map_take, List.map_drop]
theorem ev_slFT {α : Type} {f : α → D} {a b : E} {s s1 : S1} {xs : List α} {i : Int} (h : E2 Φ a b s (.tuple (xs.map f)) (.int i) s1) : Ev Φ (.slF a b) s (.tuple ((cutZ xs (some i) none).map f)) s1 := by
  rw [Ev, evE_slF, h]
  simp only [Option.bind_some, slcD, Option.map_some, cutD_map]
theorem ev_slFL {α : Type} {f : α → D} {a b : E} {s s1 : S1} {xs : List α} {i : Int} (h : E2 Φ a b s (.list (xs.map f)) (.int i) s1) : Ev Φ (.slF a b) s (.list ((cutZ xs (some i) none).map f)) s1 := by
  rw [Ev, evE_slF, h]
  simp only [Option.bind_some, slcD, Option.map_some, cutD_map]
theorem ev_slTT {α : Type} {f : α → D} {a b : E} {s s1 : S1} {xs : List α} {i : Int} (h : E2 Φ a b s (.tuple (xs.map f)) (.int i) s1) : Ev Φ (.slT a b) s (.tuple ((cutZ xs none (some i)).map f)) s1 := by
  rw [Ev, evE_slT, h]
  simp only [Option.bind_some, slcD, Option.map_some, cutD_map]
theorem ev_slTL {α : Type} {f : α → D} {a b : E} {s s1 : S1} {xs : List α} {i : Int} (h : E2 Φ a b s (.list (xs.map f)) (.int i) s1) : Ev Φ (.slT a b) s (.list ((cutZ xs none (some i)).map f)) s1 := by
  rw [Ev, evE_slT, h]
  simp only [Option.bind_some, slcD, Option.map_some, cutD_map]
theorem ev_slBT {α : Type} {f : α → D} {a b c : E} {s s1 s2 s3 : S1} {xs : List α} {i j : Int} (h : Ev Φ a s (.tuple (xs.map f)) s1) (h1 : Ev Φ b s1 (.int i) s2) (h2 : Ev Φ c s2 (.int j) s3) : Ev Φ (.slB a b c) s (.tuple ((cutZ xs (some i) (some j)).map f)) s3 := by
  rw [Ev, evE_slB, h]
  simp only [Ev] at h1 h2
  simp only [Option.bind_some, h1, h2, slcD, Option.map_some, cutD_map]
theorem ev_slBL {α : Type} {f : α → D} {a b c : E} {s s1 s2 s3 : S1} {xs : List α} {i j : Int} (h : Ev Φ a s (.list (xs.map f)) s1) (h1 : Ev Φ b s1 (.int i) s2) (h2 : Ev Φ c s2 (.int j) s3) : Ev Φ (.slB a b c) s (.list ((cutZ xs (some i) (some j)).map f)) s3 := by
  rw [Ev, evE_slB, h]
  simp only [Ev] at h1 h2
  simp only [Option.bind_some, h1, h2, slcD, Option.map_some, cutD_map]
theorem ev_revT {α : Type} {f : α → D} {a : E} {s s1 : S1} {xs : List α} (h : Pk Φ a s (.tuple (xs.map f)) s1) : Ev Φ (.rev a) s (.tuple (xs.reverse.map f)) s1 := by
  rw [Ev, evE_rev, h]
  simp only [Option.bind_some, revD, Option.map_some, List.map_reverse]
theorem ev_revL {α : Type} {f : α → D} {a : E} {s s1 : S1} {xs : List α} (h : Pk Φ a s (.list (xs.map f)) s1) : Ev Φ (.rev a) s (.list (xs.reverse.map f)) s1 := by
  rw [Ev, evE_rev, h]
  simp only [Option.bind_some, revD, Option.map_some, List.map_reverse]
theorem ev_call {f : Str} {es : Es} {r : List Ent} {w : DW} {s : S1} {ds : List D} {d : D} (h : Evs Φ es s ds ⟨r, w⟩) (hf : Φ f ds w = some (d, w)) : Ev Φ (.call f es) s d ⟨r, w⟩ := by
  rw [Ev, evE_call, h]
  simp only [Option.bind_some, hf, Option.map_some]
theorem ev_bf {b : Bf} {a : E} {s s1 : S1} {x d : D} (h : Pk Φ a s x s1) (ho : bf1 b x = some d) : Ev Φ (.bf b a) s d s1 := by
  rw [Ev, evE_bf, h]
  simp only [Option.bind_some, ho, Option.map_some]
theorem ev_lenT {α : Type} {f : α → D} {a : E} {s s1 : S1} {xs : List α} (h : Pk Φ a s (.tuple (xs.map f)) s1) : Ev Φ (.bf .len a) s (.int (xs.length : Int)) s1 := ev_bf h (by simp only [bf1, List.length_map])
theorem ev_lenL {α : Type} {f : α → D} {a : E} {s s1 : S1} {xs : List α} (h : Pk Φ a s (.list (xs.map f)) s1) : Ev Φ (.bf .len a) s (.int (xs.length : Int)) s1 := ev_bf h (by simp only [bf1, List.length_map])
theorem ev_absI {a : E} {s s1 : S1} {x : Int} (h : Pk Φ a s (.int x) s1) : Ev Φ (.bf .abs a) s (.int (absZ x)) s1 := ev_bf h rfl
theorem intsD_id : ∀ l : List Int, intsD (l.map eZ) = some l
  | [] => rfl
  | a :: l => by simp [intsD, intsD_id l]
theorem boolsD_id : ∀ l : List Bool, boolsD (l.map eB) = some l
  | [] => rfl
  | a :: l => by simp [boolsD, boolsD_id l]
theorem ev_sumL {a : E} {s s1 : S1} {xs : List Int} (h : Pk Φ a s (.list (xs.map eZ)) s1) : Ev Φ (.bf .sum a) s (.int xs.sum) s1 := ev_bf h (by simp only [bf1, intsD_id, Option.map_some])
theorem ev_allL {a : E} {s s1 : S1} {xs : List Bool} (h : Pk Φ a s (.list (xs.map eB)) s1) : Ev Φ (.bf .all a) s (.bool (xs.all id)) s1 := ev_bf h (by simp only [bf1, boolsD_id, Option.map_some])
theorem ev_anyL {a : E} {s s1 : S1} {xs : List Bool} (h : Pk Φ a s (.list (xs.map eB)) s1) : Ev Φ (.bf .any a) s (.bool (xs.any id)) s1 := ev_bf h (by simp only [bf1, boolsD_id, Option.map_some])
theorem ev_maxL {a : E} {s s1 : S1} {xs : List Int} (h : Pk Φ a s (.list (xs.map eZ)) s1) (ho : xs ≠ []) : Ev Φ (.bf .maxL a) s (.int (maxZ xs)) s1 := ev_bf h (by
  simp only [bf1, intsD_id, Option.bind_some]
  cases xs with
  | nil => exact absurd rfl ho
  | cons x r => rfl)
theorem ev_minL {a : E} {s s1 : S1} {xs : List Int} (h : Pk Φ a s (.list (xs.map eZ)) s1) (ho : xs ≠ []) : Ev Φ (.bf .minL a) s (.int (minZ xs)) s1 := ev_bf h (by
  simp only [bf1, intsD_id, Option.bind_some]
  cases xs with
  | nil => exact absurd rfl ho
  | cons x r => rfl)
theorem dataOrd_map {α : Type} (f : α → D) (xs : List α) : dataOrd (xs.map f) = (sortZ f xs).map f := by
  unfold dataOrd sortZ
  exact (List.map_mergeSort (f := f) (fun a _ b _ => rfl)).symm
theorem ev_sortT {α : Type} {f : α → D} {a : E} {s s1 : S1} {xs : List α} (h : Pk Φ a s (.tuple (xs.map f)) s1) (ho : sortOk (xs.map f) = true) : Ev Φ (.bf .sorted a) s (.list ((sortZ f xs).map f)) s1 := ev_bf h (by simp only [bf1, ho, if_true, dataOrd_map])
theorem ev_sortL {α : Type} {f : α → D} {a : E} {s s1 : S1} {xs : List α} (h : Pk Φ a s (.list (xs.map f)) s1) (ho : sortOk (xs.map f) = true) : Ev Φ (.bf .sorted a) s (.list ((sortZ f xs).map f)) s1 := ev_bf h (by simp only [bf1, ho, if_true, dataOrd_map])
theorem alike_int (a b : Int) : W.alike (.int a) (.int b) = true := by simp [W.alike]
theorem sortOk_int (xs : List Int) : sortOk (xs.map eZ) = true := by
  have h1 : allAlike (xs.map eZ) = true := by simp [allAlike, alike_int]
  have h2 : (xs.map eZ).all isOth = true := by simp [isOth]
  have h3 : ((xs.map eZ).all fun x => decide (x.depth ≤ 64)) = true := by simp [PyData.depth]
  simp only [sortOk, h1, h2, h3, Bool.or_true, Bool.and_self]
theorem sortOk_pair (xs : List (Int × Int)) : sortOk (xs.map (eP eZ eZ)) = true := by
  have h1 : allAlike (xs.map (eP eZ eZ)) = true := by simp [allAlike, W.alike, W.alikeAll]
  have h2 : (xs.map (eP eZ eZ)).all isTup = true := by simp [isTup]
  have h3 : ((xs.map (eP eZ eZ)).all fun x => decide (x.depth ≤ 64)) = true := by simp [PyData.depth, PyData.depthAll]
  simp only [sortOk, h1, h2, h3, Bool.or_true, Bool.true_or, Bool.and_self]
theorem ev_tupL {α : Type} {f : α → D} {a : E} {s s1 : S1} {xs : List α} (h : Pk Φ a s (.list (xs.map f)) s1) : Ev Φ (.bf .tuple a) s (.tuple (xs.map f)) s1 := ev_bf h rfl
theorem ev_tupT {α : Type} {f : α → D} {a : E} {s s1 : S1} {xs : List α} (h : Pk Φ a s (.tuple (xs.map f)) s1) : Ev Φ (.bf .tuple a) s (.tuple (xs.map f)) s1 := ev_bf h rfl
theorem ev_lstL {α : Type} {f : α → D} {a : E} {s s1 : S1} {xs : List α} (h : Pk Φ a s (.list (xs.map f)) s1) : Ev Φ (.bf .list a) s (.list (xs.map f)) s1 := ev_bf h rfl
theorem ev_lstT {α : Type} {f : α → D} {a : E} {s s1 : S1} {xs : List α} (h : Pk Φ a s (.tuple (xs.map f)) s1) : Ev Φ (.bf .list a) s (.list (xs.map f)) s1 := ev_bf h rfl
theorem ev_int {a : E} {s s1 : S1} {x : Int} (h : Pk Φ a s (.int x) s1) : Ev Φ (.bf .int a) s (.int x) s1 := ev_bf h rfl
theorem ev_mx2 {a b : E} {s s1 s2 : S1} {x y : Int} (h : Ev Φ a s (.int x) s1) (h2 : Ev Φ b s1 (.int y) s2) : Ev Φ (.mx2 a b) s (.int (if y > x then y else x)) s2 := by
  rw [Ev, evE_mx2, h]
  simp only [Ev] at h2
  simp only [Option.bind_some, h2]
theorem ev_mn2 {a b : E} {s s1 s2 : S1} {x y : Int} (h : Ev Φ a s (.int x) s1) (h2 : Ev Φ b s1 (.int y) s2) : Ev Φ (.mn2 a b) s (.int (if y < x then y else x)) s2 := by
  rw [Ev, evE_mn2, h]
  simp only [Ev] at h2
  simp only [Option.bind_some, h2]
theorem ev_isi {t : Ty} {a : E} {s s1 : S1} {x : D} {b : Bool} (h : Ev Φ a s x s1) (ho : isiD t x = some b) : Ev Φ (.isi t a) s (.bool b) s1 := by
  rw [Ev, evE_isi, h]
  simp only [Option.bind_some, ho, Option.map_some]
theorem rangeD_map (a b : Int) : rangeD a b = (rangeZ a b).map eZ := by
  simp [rangeD, rangeZ]
theorem ev_lrg {a : E} {s s1 : S1} {x : Int} (h : Ev Φ a s (.int x) s1) (ho : rngOk x = true ∧ x.toNat ≤ line) : Ev Φ (.lrg a) s (.list ((rangeZ 0 x).map eZ)) s1 := by
  rw [Ev, evE_lrg, h]
  simp only [Option.bind_some, ho, decide_true, Bool.and_self, if_true, rangeD_map]
/-! ### what is gone through -/
theorem it_sqT {α : Type} {f : α → D} {e : E} {s s1 : S1} {xs : List α} (h : Ev Φ e s (.tuple (xs.map f)) s1) : EvIt Φ (.sq e) s (xs.map f) s1 := by
  simp only [EvIt, evIt]
  simp only [Ev] at h
  simp only [h, Option.bind_some, itemsOf, Option.map_some]
theorem it_sqL {α : Type} {f : α → D} {e : E} {s s1 : S1} {xs : List α} (h : Ev Φ e s (.list (xs.map f)) s1) : EvIt Φ (.sq e) s (xs.map f) s1 := by
  simp only [EvIt, evIt]
  simp only [Ev] at h
  simp only [h, Option.bind_some, itemsOf, Option.map_some]
theorem it_rg1 {e : E} {s s1 : S1} {x : Int} (h : Ev Φ e s (.int x) s1) (ho : rngOk x = true) : EvIt Φ (.rg1 e) s ((rangeZ 0 x).map eZ) s1 := by
  simp only [EvIt, evIt]
  simp only [Ev] at h
  simp only [h, Option.bind_some, ho, if_true, rangeD_map]
theorem it_rg2 {a b : E} {s s1 s2 : S1} {x y : Int} (h : Ev Φ a s (.int x) s1) (h2 : Ev Φ b s1 (.int y) s2) (ho : rngOk x = true ∧ rngOk y = true) : EvIt Φ (.rg2 a b) s ((rangeZ x y).map eZ) s2 := by
  simp only [EvIt, evIt]
  simp only [Ev] at h h2
  simp only [h, h2, Option.bind_some, ho, Bool.and_self, if_true, rangeD_map]
theorem enumD_Z {α : Type} {f : α → D} : ∀ (k : Nat) (xs : List α), enumD k (xs.map f) = (enumZ k xs).map (eP eZ f)
  | _, [] => rfl
  | k, x :: r => by simp only [List.map_cons, enumD, enumZ, enumD_Z (k + 1) r]
theorem it_enT {α : Type} {f : α → D} {e : E} {s s1 : S1} {xs : List α} (h : Ev Φ e s (.tuple (xs.map f)) s1) : EvIt Φ (.en e) s ((enumZ 0 xs).map (eP eZ f)) s1 := by
  simp only [EvIt, evIt]
  simp only [Ev] at h
  simp only [h, Option.bind_some, seqOf, Option.map_some, enumD_Z]
theorem it_enL {α : Type} {f : α → D} {e : E} {s s1 : S1} {xs : List α} (h : Ev Φ e s (.list (xs.map f)) s1) : EvIt Φ (.en e) s ((enumZ 0 xs).map (eP eZ f)) s1 := by
  simp only [EvIt, evIt]
  simp only [Ev] at h
  simp only [h, Option.bind_some, seqOf, Option.map_some, enumD_Z]
theorem zipD_map {α β : Type} {f : α → D} {g : β → D} : ∀ (xs : List α) (ys : List β), zipD (xs.map f) (ys.map g) = (xs.zip ys).map (eP f g)
  | [], _ => by simp [zipD]
  | _ :: _, [] => by simp [zipD]
  | x :: xs, y :: ys => by simp only [List.map_cons, zipD, List.zip_cons_cons, zipD_map xs ys]
theorem it_zp {α β : Type} {f : α → D} {g : β → D} {a b : E} {s s1 s2 : S1} {x y : D} {xs : List α} {ys : List β} (h : Ev Φ a s x s1) (h2 : Ev Φ b s1 y s2) (hx : seqOf x = some (xs.map f)) (hy : seqOf y = some (ys.map g)) : EvIt Φ (.zp a b) s ((xs.zip ys).map (eP f g)) s2 := by
  simp only [EvIt, evIt]
  simp only [Ev] at h h2
  simp only [h, h2, Option.bind_some, hx, hy, zipD_map]
/-! ### comprehensions -/
theorem lc_core {α β : Type} {vs : List Nat} {t : Tg} {it : It} {c e : E} {s s1 : S1} {L : List α} {F : α → D} (p : α → Bool) (g : α → β) {f : β → D} (hit : EvIt Φ it s (L.map F) s1) (hn : noOwn s1.r vs = true) (hl : L.length ≤ line)
    (h : ∀ a ∈ L, Turn t vs (evE Φ c) (evE Φ e) s1 (F a) (p a) (f (g a))) : Ev Φ (.lc vs t it c e) s (.list (((L.filter p).map g).map f)) s1 := by
  obtain ⟨s', h1, h2, h3⟩ := lcGo_pure (L := L) (s := s1) (s0 := s1) (g := fun a => f (g a)) rfl rfl h
  have hb := back_of_wipe h2 hn
  have hlen : (L.filter p).length ≤ line := Nat.le_trans (List.length_filter_le _ _) hl
  simp only [EvIt] at hit
  simp only [Ev, evE, lcAll, hit, hn, List.length_map, hl, decide_true, Bool.and_self, if_true, h1]
  rw [if_pos hlen, hb, h3, List.map_map]
  rfl
/-- with a test -/
theorem ev_lcp {α β : Type} {vs : List Nat} {t : Tg} {it : It} {c e : E} {s s1 : S1} {L : List α} {F : α → D} (p : α → Bool) (g : α → β) {f : β → D} (okc okp : α → Prop) (hit : EvIt Φ it s (L.map F) s1) (hn : noOwn s1.r vs = true) (hl : L.length ≤ line)
    (ho : ∀ a ∈ L, okc a ∧ (p a = true → okp a))
    (h : ∀ a, okc a → ∃ r1, setT t (F a) (wipeR s1.r vs) = some r1 ∧ wipeR r1 vs = wipeR s1.r vs ∧ Ev Φ c ⟨r1, s1.w⟩ (.bool (p a)) ⟨r1, s1.w⟩ ∧ (okp a → Ev Φ e ⟨r1, s1.w⟩ (f (g a)) ⟨r1, s1.w⟩)) : Ev Φ (.lc vs t it c e) s (.list (((L.filter p).map g).map f)) s1 :=
  lc_core p g hit hn hl fun a ha => by
    obtain ⟨r1, h1, h2, h3, h4⟩ := h a (ho a ha).1
    exact ⟨r1, h1, h2, h3, fun hp => h4 ((ho a ha).2 hp)⟩
/-- without -/
theorem ev_lcq {α β : Type} {vs : List Nat} {t : Tg} {it : It} {e : E} {s s1 : S1} {L : List α} {F : α → D} (g : α → β) {f : β → D} (okp : α → Prop) (hit : EvIt Φ it s (L.map F) s1) (hn : noOwn s1.r vs = true) (hl : L.length ≤ line)
    (ho : ∀ a ∈ L, okp a)
    (h : ∀ a, okp a → ∃ r1, setT t (F a) (wipeR s1.r vs) = some r1 ∧ wipeR r1 vs = wipeR s1.r vs ∧ Ev Φ e ⟨r1, s1.w⟩ (f (g a)) ⟨r1, s1.w⟩) : Ev Φ (.lc vs t it (.cst (.bool true)) e) s (.list ((L.map g).map f)) s1 := by
  have := lc_core (Φ := Φ) (c := .cst (.bool true)) (e := e) (f := f) (fun _ => true) g hit hn hl fun a ha => by
    obtain ⟨r1, h1, h2, h3⟩ := h a (ho a ha)
    exact ⟨r1, h1, h2, evE_cst, fun _ => h3⟩
  rw [List.filter_eq_self.mpr fun _ _ => rfl] at this
  exact this
/-- two fors -/
theorem wipe_in {r r' : List Ent} {vs vs1 : List Nat} (hv : ∀ i ∈ vs1, i ∈ vs) (h : wipeR r vs1 = wipeR r' vs1) : wipeR r vs = wipeR r' vs := by
  have hl : r.length = r'.length := by
    have := congrArg List.length h
    rw [wipeR_len, wipeR_len] at this; exact this
  apply List.ext_getElem?
  intro i
  rw [wipeR_get, wipeR_get]
  have := congrArg (fun l => l[i]?) h
  simp only [wipeR_get] at this
  by_cases h1 : i ∈ vs
  · simp only [if_pos h1]
    by_cases h3 : i < r.length
    · rw [List.getElem?_eq_getElem h3, List.getElem?_eq_getElem (hl ▸ h3)]; rfl
    · rw [List.getElem?_eq_none (by omega), List.getElem?_eq_none (by omega)]
  · have h2 : i ∉ vs1 := fun q => h1 (hv i q)
    simp only [if_neg h1, if_neg h2] at this ⊢
    exact this
theorem lc2Go_pure2 {α : Type} {vs : List Nat} {t : Tg} {c : S1 → R1} {inner : S1 → Option (List D × S1)} {F : α → D} {p : α → Bool} {G : α → List D} : ∀ {L : List α} {s s0 : S1}, s.w = s0.w → wipeR s.r vs = wipeR s0.r vs →
    (∀ a ∈ L, ∃ r1, setT t (F a) (wipeR s0.r vs) = some r1 ∧ wipeR r1 vs = wipeR s0.r vs ∧ c ⟨r1, s0.w⟩ = some (.bool (p a), ⟨r1, s0.w⟩) ∧ (p a = true → ∃ s3, inner ⟨r1, s0.w⟩ = some (G a, s3) ∧ wipeR s3.r vs = wipeR s0.r vs ∧ s3.w = s0.w)) →
    ∃ s', lc2Go vs t c inner (L.map F) s = some ((L.filter p).flatMap G, s') ∧ wipeR s'.r vs = wipeR s0.r vs ∧ s'.w = s0.w
  | [], s, s0, hw, hr, h => ⟨s, rfl, hr, hw⟩
  | a :: L, s, s0, hw, hr, h => by
    obtain ⟨r1, h1, h2, h3, h4⟩ := h a (List.mem_cons_self ..)
    have e0 : ({ s with r := r1 } : S1) = ⟨r1, s0.w⟩ := by rw [← hw]
    have hh : ∀ b ∈ L, _ := fun b hb => h b (List.mem_cons_of_mem _ hb)
    simp only [List.map_cons, lc2Go]
    rw [hr, h1]
    simp only [e0, h3, asB]
    cases hp : p a with
    | true =>
      obtain ⟨s3, h4, h5, h6⟩ := h4 hp
      obtain ⟨s', i1, i2, i3⟩ := lc2Go_pure2 (L := L) (s := s3) (s0 := s0) h6 h5 hh
      exact ⟨s', by simp only [h4, i1, List.filter_cons, hp, if_true, List.flatMap_cons], i2, i3⟩
    | false =>
      obtain ⟨s', i1, i2, i3⟩ := lc2Go_pure2 (L := L) (s := ⟨r1, s0.w⟩) (s0 := s0) rfl h2 hh
      exact ⟨s', by simp only [i1, List.filter_cons, hp, Bool.false_eq_true, if_false], i2, i3⟩
theorem lcAll_to {vs : List Nat} {it : S1 → Option (List D × S1)} {go : List D → S1 → Option (List D × S1)} {s s1 s' : S1} {xs ds : List D} (hit : it s = some (xs, s1)) (hn : noOwn s1.r vs = true) (hl : xs.length ≤ line) (hgo : go xs s1 = some (ds, s')) (hd : ds.length ≤ line) (h2 : wipeR s'.r vs = wipeR s1.r vs) (h3 : s'.w = s1.w) : lcAll vs it go s = some (ds, s1) := by
  have hb := back_of_wipe h2 hn
  simp only [lcAll, hit, hn, hl, decide_true, Bool.and_self, if_true, hgo, hd, hb, h3]
theorem ev_lc2 {α β γ : Type} {vs vs1 : List Nat} {t t1 : Tg} {it it1 : It} {c c1 e : E} {s s1 : S1} {L : List α} {F : α → D} {M : α → List β} {F1 : β → D} (p : α → Bool) (q : α → β → Bool) (g : α → β → γ) {f : γ → D} (okc : α → Prop) (okm : α → Prop) (okq okg : α → β → Prop)
    (hit : EvIt Φ it s (L.map F) s1) (hn : noOwn s1.r vs = true) (hl : L.length ≤ line) (hv : ∀ i ∈ vs1, i ∈ vs)
    (hm : ((L.filter p).flatMap fun a => ((M a).filter (q a)).map (g a)).length ≤ line)
    (ho : ∀ a ∈ L, okc a ∧ (p a = true → okm a ∧ (M a).length ≤ line ∧ ∀ b ∈ M a, okq a b ∧ (q a b = true → okg a b)))
    (h : ∀ a, okc a → ∃ r1, setT t (F a) (wipeR s1.r vs) = some r1 ∧ wipeR r1 vs = wipeR s1.r vs ∧ Ev Φ c ⟨r1, s1.w⟩ (.bool (p a)) ⟨r1, s1.w⟩ ∧ (okm a → EvIt Φ it1 ⟨r1, s1.w⟩ ((M a).map F1) ⟨r1, s1.w⟩ ∧ noOwn r1 vs1 = true ∧
      ∀ b, okq a b → ∃ r2, setT t1 (F1 b) (wipeR r1 vs1) = some r2 ∧ wipeR r2 vs1 = wipeR r1 vs1 ∧ Ev Φ c1 ⟨r2, s1.w⟩ (.bool (q a b)) ⟨r2, s1.w⟩ ∧ (okg a b → Ev Φ e ⟨r2, s1.w⟩ (f (g a b)) ⟨r2, s1.w⟩))) :
    Ev Φ (.lc2 vs vs1 t it c t1 it1 c1 e) s (.list (((L.filter p).flatMap fun a => ((M a).filter (q a)).map (g a)).map f)) s1 := by
  obtain ⟨s', h1, h2, h3⟩ := lc2Go_pure2 (vs := vs) (t := t) (c := evE Φ c) (inner := fun s2 => match evIt Φ it1 s2 with
      | some (ys, s3) => if noOwn s3.r vs1 && decide (ys.length ≤ line) then lcGo vs1 t1 (evE Φ c1) (evE Φ e) ys s3 else none
      | none => none) (F := F) (p := p) (G := fun a => ((M a).filter (q a)).map fun b => f (g a b)) (L := L) (s := s1) (s0 := s1) rfl rfl fun a ha => by
    obtain ⟨r1, a1, a2, a3, a4⟩ := h a (ho a ha).1
    refine ⟨r1, a1, a2, a3, fun hp => ?_⟩
    obtain ⟨o1, o2, o3⟩ := (ho a ha).2 hp
    obtain ⟨a4, a5, a6⟩ := a4 o1
    obtain ⟨s3, b1, b2, b3⟩ := lcGo_pure (vs := vs1) (t := t1) (c := evE Φ c1) (e := evE Φ e) (F := F1) (g := fun b => f (g a b)) (p := q a) (L := M a) (s := ⟨r1, s1.w⟩) (s0 := ⟨r1, s1.w⟩) rfl rfl fun b hb => by
      obtain ⟨r2, c1, c2, c3, c4⟩ := a6 b (o3 b hb).1
      exact ⟨r2, c1, c2, c3, fun hq => c4 ((o3 b hb).2 hq)⟩
    refine ⟨s3, ?_, (wipe_in hv b2).trans a2, b3⟩
    simp only [EvIt] at a4
    simp only [a4, a5, List.length_map, o2, decide_true, Bool.and_self, if_true]
    exact b1
  have em : ((L.filter p).flatMap fun a => ((M a).filter (q a)).map fun b => f (g a b)) = ((L.filter p).flatMap fun a => ((M a).filter (q a)).map (g a)).map f := by
    rw [List.map_flatMap]
    congr 1
    funext a
    rw [List.map_map]; rfl
  rw [em] at h1
  have hm2 : (((L.filter p).flatMap fun a => ((M a).filter (q a)).map (g a)).map f).length ≤ line := by rw [List.length_map]; exact hm
  exact (congrArg (Option.map fun (x : List D × S1) => (PyData.list x.1, x.2)) (lcAll_to (vs := vs) hit hn (by rw [List.length_map]; exact hl) h1 hm2 h2 h3)).trans rfl
/-! ### dicts -/
/-- keys that are told apart as data are -/
structure KeyC {α : Type} [DecidableEq α] (f : α → D) : Prop where
  key : ∀ a, keyOf (f a) = some (f a)
  eq : ∀ a b, keyEq (f a) (f b) = decide (a = b)
theorem keyZ : KeyC eZ := ⟨fun _ => rfl, fun _ _ => rfl⟩
theorem dOk_map {α β : Type} [DecidableEq α] {f : α → D} (hk : KeyC f) (g : β → D) (l : List (α × β)) : dOk (l.map fun x => (f x.1, g x.2)) = true := by
  simp [dOk, hk.key]
theorem look_map {α β : Type} [DecidableEq α] {f : α → D} (hk : KeyC f) (g : β → D) (l : List (α × β)) (k : α) : look (l.map fun x => (f x.1, g x.2)) (f k) = (lookZ l k).map g := by
  unfold look lookZ
  rw [List.find?_map]
  have : ((fun p : D × D => keyEq p.1 (f k)) ∘ fun x : α × β => (f x.1, g x.2)) = fun p => decide (p.1 = k) := by
    funext x
    exact hk.eq _ _
  rw [this]
  cases l.find? _ <;> rfl
theorem putD_map {α β : Type} [DecidableEq α] {f : α → D} (hk : KeyC f) (g : β → D) (l : List (α × β)) (k : α) (v : β) : putD (f k) (g v) (l.map fun x => (f x.1, g x.2)) = (putZ k v l).map fun x => (f x.1, g x.2) := by
  unfold putD putZ
  rw [List.any_map]
  have : ((fun p : D × D => keyEq p.1 (f k)) ∘ fun x : α × β => (f x.1, g x.2)) = fun p => decide (p.1 = k) := by
    funext x
    exact hk.eq _ _
  rw [this]
  split
  · rw [List.map_map, List.map_map]
    apply List.map_congr_left
    intro x _
    simp only [Function.comp, hk.eq, decide_eq_true_eq]
    split <;> rfl
  · simp
theorem ev_idxD {α β : Type} [DecidableEq α] [Inhabited β] {f : α → D} (hk : KeyC f) {g : β → D} {a b : E} {s s1 : S1} {l : List (α × β)} {k : α} (h : E2 Φ a b s (.dict (l.map fun x => (f x.1, g x.2))) (f k) s1) (ho : (lookZ l k).isSome = true) : Ev Φ (.idx a b) s (g ((lookZ l k).getD default)) s1 := ev_idx h (by
  simp only [idxD, dOk_map hk, if_true, hk.key, Option.bind_some, look_map hk]
  obtain ⟨v, hv⟩ := Option.isSome_iff_exists.mp ho
  rw [hv]; rfl)
theorem ev_inD {α β : Type} [DecidableEq α] {f : α → D} (hk : KeyC f) {g : β → D} {a b : E} {s s1 : S1} {l : List (α × β)} {k : α} (h : E2 Φ a b s (f k) (.dict (l.map fun x => (f x.1, g x.2))) s1) : Ev Φ (.op .isin a b) s (.bool (lookZ l k).isSome) s1 := ev_op h (by
  simp only [op2, inD, dOk_map hk, if_true, hk.key, Option.map_some, look_map hk, Option.isSome_map])
theorem ev_ninD {α β : Type} [DecidableEq α] {f : α → D} (hk : KeyC f) {g : β → D} {a b : E} {s s1 : S1} {l : List (α × β)} {k : α} (h : E2 Φ a b s (f k) (.dict (l.map fun x => (f x.1, g x.2))) s1) : Ev Φ (.op .notin a b) s (.bool (!(lookZ l k).isSome)) s1 := ev_op h (by
  simp only [op2, inD, dOk_map hk, if_true, hk.key, Option.map_some, look_map hk, Option.isSome_map])
theorem ev_lenD {α β : Type} [DecidableEq α] {f : α → D} (hk : KeyC f) {g : β → D} {a : E} {s s1 : S1} {l : List (α × β)} (h : Pk Φ a s (.dict (l.map fun x => (f x.1, g x.2))) s1) : Ev Φ (.bf .len a) s (.int (l.length : Int)) s1 := ev_bf h (by simp only [bf1, dOk_map hk, if_true, List.length_map])
theorem ev_lstD {α β : Type} [DecidableEq α] {f : α → D} (hk : KeyC f) {g : β → D} {a : E} {s s1 : S1} {l : List (α × β)} (h : Pk Φ a s (.dict (l.map fun x => (f x.1, g x.2))) s1) : Ev Φ (.bf .list a) s (.list ((l.map (·.1)).map f)) s1 := ev_bf h (by simp only [bf1, dOk_map hk, if_true, List.map_map]; rfl)
def mergeZ {α β : Type} [DecidableEq α] (acc : List (α × β)) : List (α × β) → List (α × β)
  | [] => acc
  | p :: r => mergeZ (putZ p.1 p.2 acc) r
theorem pairsOf_map {α β : Type} [DecidableEq α] {f : α → D} (hk : KeyC f) (g : β → D) : ∀ l : List (α × β), pairsOf (l.map (eP f g)) = some (l.map fun x => (f x.1, g x.2))
  | [] => rfl
  | x :: l => by simp only [List.map_cons, pairsOf, pairOf, hk.key, Option.map_some, pairsOf_map hk g l]
theorem mergeD_map {α β : Type} [DecidableEq α] {f : α → D} (hk : KeyC f) (g : β → D) : ∀ (l acc : List (α × β)), mergeD (acc.map fun x => (f x.1, g x.2)) (l.map fun x => (f x.1, g x.2)) = (mergeZ acc l).map fun x => (f x.1, g x.2)
  | [], acc => rfl
  | x :: l, acc => by
    simp only [List.map_cons, mergeD, mergeZ, putD_map hk]
    exact mergeD_map hk g l _
theorem ev_dictL {α β : Type} [DecidableEq α] {f : α → D} (hk : KeyC f) {g : β → D} {a : E} {s s1 : S1} {l : List (α × β)} (h : Pk Φ a s (.list (l.map (eP f g))) s1) : Ev Φ (.bf .dict a) s (.dict ((mergeZ [] l).map fun x => (f x.1, g x.2))) s1 := ev_bf h (by
  have := mergeD_map hk g l []
  simp only [List.map_nil] at this
  simp only [bf1, pairsOf_map hk, Option.map_some, this])
theorem ev_disp0 {s : S1} : Ev Φ (.disp .nil) s (.dict []) s := by
  rw [Ev, evE_disp]; simp only [evDisp]
theorem ev_disp1 {α β : Type} [DecidableEq α] {f : α → D} (hk : KeyC f) {g : β → D} {a b : E} {s s1 s2 : S1} {k : α} {v : β} (h1 : Ev Φ a s (f k) s1) (h2 : Ev Φ b s1 (g v) s2) : Ev Φ (.disp (.cons a b .nil)) s (.dict ([(k, v)].map fun x => (f x.1, g x.2))) s2 := by
  rw [Ev, evE_disp]
  simp only [Ev] at h1 h2
  simp only [evDisp, h1, h2, Option.bind_some, hk.key, putD, List.any_nil, Bool.false_eq_true, if_false, List.nil_append, List.map_cons, List.map_nil]
theorem ev_dcZ {α β γ : Type} [DecidableEq α] {f : α → D} (hk : KeyC f) {g : β → D} {vs : List Nat} {t : Tg} {it : It} {c ek ev : E} {s s1 : S1} {L : List γ} {F : γ → D} (p : γ → Bool) (k : γ → α) (v : γ → β) (okc okp : γ → Prop) (hit : EvIt Φ it s (L.map F) s1) (hn : noOwn s1.r vs = true) (hl : L.length ≤ line)
    (ho : ∀ a ∈ L, okc a ∧ (p a = true → okp a))
    (h : ∀ a, okc a → ∃ r1, setT t (F a) (wipeR s1.r vs) = some r1 ∧ wipeR r1 vs = wipeR s1.r vs ∧ Ev Φ c ⟨r1, s1.w⟩ (.bool (p a)) ⟨r1, s1.w⟩ ∧ (okp a → Ev Φ ek ⟨r1, s1.w⟩ (f (k a)) ⟨r1, s1.w⟩ ∧ Ev Φ ev ⟨r1, s1.w⟩ (g (v a)) ⟨r1, s1.w⟩)) :
    Ev Φ (.dc vs t it c ek ev) s (.dict (((L.filter p).foldl (fun acc a => putZ (k a) (v a) acc) []).map fun x => (f x.1, g x.2))) s1 := by
  have key : ∀ (L : List γ) (s : S1) (acc : List (α × β)), (∀ a ∈ L, okc a ∧ (p a = true → okp a)) → s.w = s1.w → wipeR s.r vs = wipeR s1.r vs →
      ∃ s', dcGo vs t (evE Φ c) (evE Φ ek) (evE Φ ev) (L.map F) s (acc.map fun x => (f x.1, g x.2)) = some (((L.filter p).foldl (fun acc a => putZ (k a) (v a) acc) acc).map fun x => (f x.1, g x.2), s') ∧ wipeR s'.r vs = wipeR s1.r vs ∧ s'.w = s1.w := by
    intro L
    induction L with
    | nil => intro s acc _ hw hr; exact ⟨s, rfl, hr, hw⟩
    | cons a L ih =>
      intro s acc ho hw hr
      obtain ⟨r1, h1, h2, h3, h4⟩ := h a (ho a (List.mem_cons_self ..)).1
      have e0 : ({ s with r := r1 } : S1) = ⟨r1, s1.w⟩ := by rw [← hw]
      simp only [List.map_cons, dcGo]
      rw [hr, h1]
      simp only [Ev] at h3
      simp only [e0, h3, asB]
      cases hp : p a with
      | true =>
        obtain ⟨h5, h6⟩ := h4 ((ho a (List.mem_cons_self ..)).2 hp)
        simp only [Ev] at h5 h6
        obtain ⟨s', i1, i2, i3⟩ := ih ⟨r1, s1.w⟩ (putZ (k a) (v a) acc) (fun b hb => ho b (List.mem_cons_of_mem _ hb)) rfl h2
        refine ⟨s', ?_, i2, i3⟩
        simp only [h5, h6, hk.key, putD_map hk, i1, List.filter_cons, hp, if_true, List.foldl_cons]
      | false =>
        obtain ⟨s', i1, i2, i3⟩ := ih ⟨r1, s1.w⟩ acc (fun b hb => ho b (List.mem_cons_of_mem _ hb)) rfl h2
        refine ⟨s', ?_, i2, i3⟩
        simp only [i1, List.filter_cons, hp, Bool.false_eq_true, if_false]
  obtain ⟨s', h1, h2, h3⟩ := key L s1 [] ho rfl rfl
  have hb := back_of_wipe h2 hn
  simp only [EvIt] at hit
  simp only [List.map_nil] at h1
  simp only [Ev, evE, hit, hn, List.length_map, hl, decide_true, Bool.and_self, if_true, h1, hb, h3]
/-! ### a dict's keys gone through -/
theorem ev_lcD {α β γ : Type} [DecidableEq α] {f : α → D} (hk : KeyC f) {g : β → D} {vs : List Nat} {t : Tg} {i : Nat} {c e : E} {r : List Ent} {w : DW} {l : List (α × β)} (p : α → Bool) (q : α → γ) {m : γ → D} (okc okp : α → Prop) (hi : r[i]? = some (.own (.dict (l.map fun x => (f x.1, g x.2))))) (hn : noOwn r vs = true) (hvi : vs.contains i = false) (hl : l.length ≤ line)
    (ho : ∀ a ∈ l.map (·.1), okc a ∧ (p a = true → okp a))
    (h : ∀ a, okc a → ∃ r1, setT t (f a) (wipeR (r.set i .no) vs) = some r1 ∧ wipeR r1 vs = wipeR (r.set i .no) vs ∧ Ev Φ c ⟨r1, w⟩ (.bool (p a)) ⟨r1, w⟩ ∧ (okp a → Ev Φ e ⟨r1, w⟩ (m (q a)) ⟨r1, w⟩)) :
    Ev Φ (.lcD vs t i c e) ⟨r, w⟩ (.list ((((l.map (·.1)).filter p).map q).map m)) ⟨r, w⟩ := by
  obtain ⟨s', h1, h2, h3⟩ := lcGo_pure (vs := vs) (t := t) (c := evE Φ c) (e := evE Φ e) (F := f) (g := fun a => m (q a)) (p := p) (L := l.map (·.1)) (s := (⟨r, w⟩ : S1).put i .no) (s0 := (⟨r, w⟩ : S1).put i .no) rfl rfl fun a ha => by
    obtain ⟨r1, h1, h2, h3, h4⟩ := h a (ho a ha).1
    exact ⟨r1, h1, h2, h3, fun hp => h4 ((ho a ha).2 hp)⟩
  have hr : (backR r s'.r vs).set i (.own (.dict (l.map fun x => (f x.1, g x.2)))) = r := by
    have h2 : wipeR s'.r vs = wipeR (r.set i .no) vs := h2
    have hl2 : s'.r.length = r.length := by
      have := congrArg List.length h2
      rw [wipeR_len, wipeR_len, List.length_set] at this; exact this
    have hil := (List.getElem?_eq_some_iff.mp hi).1
    apply List.ext_getElem?
    intro j
    rw [List.getElem?_set, backR_len, hl2]
    by_cases hij : i = j
    · subst hij; rw [if_pos rfl, if_pos hil, hi]
    · rw [if_neg hij, backR_get]
      by_cases hj : j ∈ vs
      · rw [if_pos hj]
        have h1 := noOwn_lt hn hj
        rw [List.getElem?_eq_getElem (by omega), List.getElem?_eq_getElem h1]
        simp [List.getD_eq_getElem?_getD, List.getElem?_eq_getElem h1]
      · rw [if_neg hj]
        have := congrArg (fun l => l[j]?) h2
        simp only [wipeR_get, if_neg hj] at this
        rw [this, List.getElem?_set, if_neg hij]
  have hlen : ((l.map (·.1)).filter p).length ≤ line := Nat.le_trans (List.length_filter_le _ _) (by rw [List.length_map]; exact hl)
  have e1 : (List.map (fun x : D × D => x.1) (l.map fun x => (f x.1, g x.2))) = (l.map (·.1)).map f := by
    rw [List.map_map, List.map_map]; rfl
  simp only [Ev, evE, hi, dOk_map hk, hn, hvi, Bool.not_false, Bool.and_self, if_true, e1]
  rw [h1]
  simp only [List.length_map, hlen, if_true, hr]
  have h3 : s'.w = w := h3
  rw [h3, List.map_map]
  rfl
end
end Iv

/-! Blocks of statements. -/
namespace Iv
open PySem
def Bl (Φ : Str → List D → DW → Option (D × DW)) (fu : Nat) (ms : List St) (s : S1) (P : Out → S1 → Prop) : Prop := ∃ o s', evSs Φ fu ms s = some (o, s') ∧ P o s'
def Rm {ρ : Type} (f : ρ → D) (w : DW) (r : ρ) (o : Out) (s : S1) : Prop := o = .ret (f r) ∧ s.w = w
def Nm {σ : Type} (I : σ → S1 → Prop) (st : σ) (o : Out) (s : S1) : Prop := o = .nx ∧ I st s
def Lm {σ : Type} (I : σ → S1 → Prop) (st : σ) (o : Out) (s : S1) : Prop := (o = .nx ∨ o = .cont) ∧ I st s
def Mm {ρ σ : Type} (f : ρ → D) (w : DW) (I : σ → S1 → Prop) (m : ρ ⊕ σ) (o : Out) (s : S1) : Prop := match m with
  | .inl r => o = .ret (f r) ∧ s.w = w
  | .inr st => (o = .nx ∨ o = .cont) ∧ I st s
/-- states that a loop's carried values and its leavings tell -/
def Jn {σ J : Type} (N : J → Prop) (S : σ → J → S1) (st : σ) (s : S1) : Prop := ∃ j, N j ∧ s = S st j
def noO : Ent → Bool
  | .own _ => false
  | _ => true
def setZ {α : Type} (xs : List α) (i : Int) (v : α) : List α := match L2.ixN xs.length i with
  | some j => xs.set j v
  | none => xs
section
variable {Φ : Str → List D → DW → Option (D × DW)} {fu : Nat}
theorem bl_next {m : St} {rest : List St} {s s2 : S1} {P : Out → S1 → Prop} (h : evS Φ fu m s = some (.nx, s2)) (k : Bl Φ fu rest s2 P) : Bl Φ fu (m :: rest) s P := by
  obtain ⟨o, s', h1, h2⟩ := k
  exact ⟨o, s', by simp only [evSs, h]; exact h1, h2⟩
theorem bl_asg {α τ : Type} {f : α → D} {x : α} {g : α → τ} {ok : α → Prop} {P : τ → Out → S1 → Prop} {i : Nat} {e : E} {rest : List St} {s s1 : S1} (S2 : α → S1) (he : Ev Φ e s (f x) s1) (hok : leT x ok) (hp : ∀ y, s1.put i (.val (f y)) = S2 y) (k : ∀ y, ok y → Bl Φ fu rest (S2 y) (P (g y))) : Bl Φ fu (.asg i e :: rest) s (P (leT x g)) :=
  bl_next (by rw [evS_asg, he, ← hp]; rfl) (k x hok)
theorem bl_asgO {α τ : Type} {f : α → D} {x : α} {g : α → τ} {ok : α → Prop} {P : τ → Out → S1 → Prop} {i : Nat} {e : E} {rest : List St} {s s1 : S1} (S2 : α → S1) (he : Ev Φ e s (f x) s1) (hok : leT x ok) (hp : ∀ y, s1.put i (.own (f y)) = S2 y) (k : ∀ y, ok y → Bl Φ fu rest (S2 y) (P (g y))) : Bl Φ fu (.asgO i e :: rest) s (P (leT x g)) :=
  bl_next (by rw [evS_asgO, he, ← hp]; rfl) (k x hok)
theorem bl_unp {α τ : Type} {f : α → D} {x : α} {g : α → τ} {ok : α → Prop} {P : τ → Out → S1 → Prop} {t : Tg} {e : E} {rest : List St} {s s1 : S1} (R2 : α → List Ent) (he : Ev Φ e s (f x) s1) (hok : leT x ok) (hp : ∀ y, setT t (f y) s1.r = some (R2 y)) (k : ∀ y, ok y → Bl Φ fu rest ⟨R2 y, s1.w⟩ (P (g y))) : Bl Φ fu (.unp t e :: rest) s (P (leT x g)) :=
  bl_next (by rw [evS_unp, he]; simp only [Option.bind_some, hp, Option.map_some]) (k x hok)
theorem bl_par2 {α β τ : Type} {f : α → D} {f' : β → D} {x : α} {x' : β} {g : α → β → τ} {ok : α → β → Prop} {P : τ → Out → S1 → Prop} {is : List (Nat × Bool)} {es : Es} {rest : List St} {s s1 : S1} (R2 : α → β → List Ent) (he : Evs Φ es s [f x, f' x'] s1) (hok : leT x fun y => leT x' fun y' => ok y y') (hp : ∀ y y', putAll s1.r is [f y, f' y'] = some (R2 y y')) (k : ∀ y y', ok y y' → Bl Φ fu rest ⟨R2 y y', s1.w⟩ (P (g y y'))) : Bl Φ fu (.par is es :: rest) s (P (leT x fun y => leT x' fun y' => g y y')) :=
  bl_next (by rw [evS_par, he]; simp only [Option.bind_some, hp, Option.map_some]) (k x x' hok)
theorem bl_par3 {α β γ τ : Type} {f : α → D} {f' : β → D} {f'' : γ → D} {x : α} {x' : β} {x'' : γ} {g : α → β → γ → τ} {ok : α → β → γ → Prop} {P : τ → Out → S1 → Prop} {is : List (Nat × Bool)} {es : Es} {rest : List St} {s s1 : S1} (R2 : α → β → γ → List Ent) (he : Evs Φ es s [f x, f' x', f'' x''] s1) (hok : leT x fun y => leT x' fun y' => leT x'' fun y'' => ok y y' y'') (hp : ∀ y y' y'', putAll s1.r is [f y, f' y', f'' y''] = some (R2 y y' y'')) (k : ∀ y y' y'', ok y y' y'' → Bl Φ fu rest ⟨R2 y y' y'', s1.w⟩ (P (g y y' y''))) : Bl Φ fu (.par is es :: rest) s (P (leT x fun y => leT x' fun y' => leT x'' fun y'' => g y y' y'')) :=
  bl_next (by rw [evS_par, he]; simp only [Option.bind_some, hp, Option.map_some]) (k x x' x'' hok)
theorem bl_app {α τ : Type} {f : α → D} {x : α} {xs : List α} {g : List α → τ} {ok : List α → Prop} {P : τ → Out → S1 → Prop} {i : Nat} {e : E} {rest : List St} {s s1 : S1} (S2 : List α → S1) (ho : s.ownL i = true) (he : Ev Φ e s (f x) s1) (hi : s1.r[i]? = some (.own (.list (xs.map f)))) (hl : xs.length < line) (hok : leT (xs ++ [x]) ok) (hp : ∀ y : List α, s1.put i (.own (.list (y.map f))) = S2 y) (k : ∀ y, ok y → Bl Φ fu rest (S2 y) (P (g y))) : Bl Φ fu (.app i e :: rest) s (P (leT (xs ++ [x]) g)) :=
  bl_next (s2 := S2 (xs ++ [x])) (by
    rw [evS_app, if_pos ho, he]
    simp only [Option.bind_some, hi, List.length_map, hl, if_true]
    rw [← hp, List.map_append]; rfl) (k _ hok)
theorem bl_ext {α τ : Type} {f : α → D} {ys : List α} {xs : List α} {g : List α → τ} {ok : List α → Prop} {P : τ → Out → S1 → Prop} {i : Nat} {e : E} {rest : List St} {s s1 : S1} (S2 : List α → S1) (ho : s.ownL i = true) (he : Ev Φ e s (.list (ys.map f)) s1) (hi : s1.r[i]? = some (.own (.list (xs.map f)))) (hl : xs.length + ys.length ≤ line) (hok : leT (xs ++ ys) ok) (hp : ∀ y : List α, s1.put i (.own (.list (y.map f))) = S2 y) (k : ∀ y, ok y → Bl Φ fu rest (S2 y) (P (g y))) : Bl Φ fu (.ext i e :: rest) s (P (leT (xs ++ ys) g)) :=
  bl_next (s2 := S2 (xs ++ ys)) (by
    rw [evS_ext, if_pos ho, he]
    simp only [Option.bind_some, hi, List.length_map, hl, if_true]
    rw [← hp, List.map_append]) (k _ hok)
theorem bl_setL {α τ : Type} {f : α → D} {x : α} {n : Int} {xs : List α} {g : List α → τ} {ok : List α → Prop} {P : τ → Out → S1 → Prop} {i : Nat} {k e : E} {rest : List St} {s s1 s2 : S1} (S2 : List α → S1) (he : Ev Φ e s (f x) s1) (ho : s1.ownA i = true) (hkk : Ev Φ k s1 (.int n) s2) (hi : s2.r[i]? = some (.own (.list (xs.map f)))) (hl : atOk xs n) (hok : leT (setZ xs n x) ok) (hp : ∀ y : List α, s2.put i (.own (.list (y.map f))) = S2 y) (kk : ∀ y, ok y → Bl Φ fu rest (S2 y) (P (g y))) : Bl Φ fu (.setI i k e :: rest) s (P (leT (setZ xs n x) g)) :=
  bl_next (s2 := S2 (setZ xs n x)) (by
    rw [evS_setI, he]
    simp only [Ev] at hkk
    simp only [Option.bind_some, ho, if_true, hkk, hi, setD, List.length_map]
    unfold setZ
    unfold atOk L2.atI at hl
    cases hx : L2.ixN xs.length n with
    | none => rw [hx] at hl; cases hl
    | some j =>
      simp only [Option.map_some]
      rw [← hp, List.map_set]) (kk _ hok)
theorem bl_setD {α β τ : Type} [DecidableEq α] {f : α → D} (hk : KeyC f) {g' : β → D} {x : α} {v : β} {xs : List (α × β)} {g : List (α × β) → τ} {ok : List (α × β) → Prop} {P : τ → Out → S1 → Prop} {i : Nat} {k e : E} {rest : List St} {s s1 s2 : S1} (S2 : List (α × β) → S1) (he : Ev Φ e s (g' v) s1) (ho : s1.ownA i = true) (hkk : Ev Φ k s1 (f x) s2) (hi : s2.r[i]? = some (.own (.dict (xs.map fun x => (f x.1, g' x.2))))) (hl : xs.length < line) (hok : leT (putZ x v xs) ok) (hp : ∀ y : List (α × β), s2.put i (.own (.dict (y.map fun x => (f x.1, g' x.2)))) = S2 y) (kk : ∀ y, ok y → Bl Φ fu rest (S2 y) (P (g y))) : Bl Φ fu (.setI i k e :: rest) s (P (leT (putZ x v xs) g)) :=
  bl_next (s2 := S2 (putZ x v xs)) (by
    rw [evS_setI, he]
    simp only [Ev] at hkk
    simp only [Option.bind_some, ho, if_true, hkk, hi, setD, dOk_map hk, List.length_map, hl, decide_true, Bool.and_self, hk.key, Option.map_some, putD_map hk, hp]) (kk _ hok)
theorem bl_ex {τ : Type} {v : τ} {P : τ → Out → S1 → Prop} {e : E} {rest : List St} {s s1 : S1} {d : D} (he : Ev Φ e s d s1) (k : Bl Φ fu rest s1 (P v)) : Bl Φ fu (.ex e :: rest) s (P v) :=
  bl_next (by rw [evS_ex, he]; rfl) k
theorem evSs_app (a b : List St) (s : S1) : evSs Φ fu (a ++ b) s = match evSs Φ fu a s with
    | some (.nx, s1) => evSs Φ fu b s1
    | r => r := by
  induction a generalizing s with
  | nil => simp only [List.nil_append, evSs]
  | cons m a ih =>
    simp only [List.cons_append, evSs]
    rcases evS Φ fu m s with _ | ⟨o, s1⟩
    · rfl
    · cases o <;> first | exact ih s1 | rfl
theorem bl_ifs {τ : Type} {x y : τ} {P : τ → Out → S1 → Prop} {c : E} {a b rest : List St} {s s1 : S1} {v : Bool} (hc : Ev Φ c s (.bool v) s1) (h1 : v = true → Bl Φ fu (a ++ rest) s1 (P x)) (h0 : v = false → Bl Φ fu (b ++ rest) s1 (P y)) : Bl Φ fu (.ifs c a b :: rest) s (P (cond v x y)) := by
  have e : evSs Φ fu (.ifs c a b :: rest) s = evSs Φ fu ((cond v a b) ++ rest) s1 := by
    rw [evSs_app]
    simp only [evSs, evS_ifs]
    simp only [Ev] at hc
    rw [hc]
    cases v <;> rfl
  cases v with
  | true =>
    obtain ⟨o, s', i1, i2⟩ := h1 rfl
    exact ⟨o, s', e.trans i1, i2⟩
  | false =>
    obtain ⟨o, s', i1, i2⟩ := h0 rfl
    exact ⟨o, s', e.trans i1, i2⟩
/-- an if that only assigns, and what follows -/
theorem bl_ifj {σ τ J : Type} {x y : σ} {g : σ → τ} {ok : σ → Prop} {P : τ → Out → S1 → Prop} {c : E} {a b rest : List St} {s s1 : S1} {v : Bool} (N : J → Prop) (S : σ → J → S1) (hc : Ev Φ c s (.bool v) s1) (hok : leT (cond v x y) ok) (h1 : v = true → Bl Φ fu a s1 (Nm (Jn N S) x)) (h0 : v = false → Bl Φ fu b s1 (Nm (Jn N S) y)) (k : ∀ st j, ok st → N j → Bl Φ fu rest (S st j) (P (g st))) : Bl Φ fu (.ifs c a b :: rest) s (P (leT (cond v x y) g)) := by
  have e : ∀ s2, evSs Φ fu (cond v a b) s1 = some (.nx, s2) → evS Φ fu (.ifs c a b) s = some (.nx, s2) := by
    intro s2 h
    rw [evS_ifs]
    simp only [Ev] at hc
    rw [hc]
    cases v <;> exact h
  cases v with
  | true =>
    obtain ⟨o, s2, i1, rfl, j, hj, rfl⟩ := h1 rfl
    exact bl_next (e _ i1) (k x j hok hj)
  | false =>
    obtain ⟨o, s2, i1, rfl, j, hj, rfl⟩ := h0 rfl
    exact bl_next (e _ i1) (k y j hok hj)
theorem bl_ret {ρ : Type} {f : ρ → D} {x : ρ} {w : DW} {e : E} {rest : List St} {s s1 : S1} (he : Ev Φ e s (f x) s1) (hw : s1.w = w) : Bl Φ fu (.ret e :: rest) s (Rm f w x) :=
  ⟨_, _, by simp only [evSs, evS_ret]; rw [he]; rfl, rfl, hw⟩
theorem bl_retM {ρ σ : Type} {f : ρ → D} {x : ρ} {w : DW} {I : σ → S1 → Prop} {e : E} {rest : List St} {s s1 : S1} (he : Ev Φ e s (f x) s1) (hw : s1.w = w) : Bl Φ fu (.ret e :: rest) s (Mm f w I (.inl x)) :=
  ⟨_, _, by simp only [evSs, evS_ret]; rw [he]; rfl, rfl, hw⟩
theorem bl_nil {σ : Type} {I : σ → S1 → Prop} {st : σ} {s : S1} (h : I st s) : Bl Φ fu [] s (Nm I st) := ⟨_, _, by simp only [evSs], rfl, h⟩
theorem bl_nilL {σ : Type} {I : σ → S1 → Prop} {st : σ} {s : S1} (h : I st s) : Bl Φ fu [] s (Lm I st) := ⟨_, _, by simp only [evSs], .inl rfl, h⟩
theorem bl_nilM {ρ σ : Type} {f : ρ → D} {w : DW} {I : σ → S1 → Prop} {st : σ} {s : S1} (h : I st s) : Bl Φ fu [] s (Mm f w I (.inr st)) := ⟨_, _, by simp only [evSs], .inl rfl, h⟩
theorem bl_contL {σ : Type} {I : σ → S1 → Prop} {st : σ} {rest : List St} {s : S1} (h : I st s) : Bl Φ fu (.cont :: rest) s (Lm I st) := ⟨_, _, by simp only [evSs, evS_cont], .inr rfl, h⟩
theorem bl_contM {ρ σ : Type} {f : ρ → D} {w : DW} {I : σ → S1 → Prop} {st : σ} {rest : List St} {s : S1} (h : I st s) : Bl Φ fu (.cont :: rest) s (Mm f w I (.inr st)) := ⟨_, _, by simp only [evSs, evS_cont], .inr rfl, h⟩
/-- a loop that only changes what it carries -/
theorem bl_fors {α σ τ J : Type} {F : α → D} {xs : List α} {st0 : σ} {step : σ → α → σ} {g : σ → τ} {okb : σ → α → Prop} {ok : σ → Prop} {P : τ → Out → S1 → Prop} {t : Tg} {it : It} {body rest : List St} {s s1 : S1} (N : J → Prop) (S : σ → J → S1) (j0 : J) (hn : N j0) (hs : s1 = S st0 j0) (hit : EvIt Φ it s (xs.map F) s1) (hob : forOk step okb st0 xs) (hok : leT (xs.foldl step st0) ok)
    (hb : ∀ st j a, okb st a → N j → ∃ r1, setT t (F a) (S st j).r = some r1 ∧ Bl Φ fu body ⟨r1, (S st j).w⟩ (Lm (Jn N S) (step st a))) (k : ∀ st j, ok st → N j → Bl Φ fu rest (S st j) (P (g st))) : Bl Φ fu (.fors t it body :: rest) s (P (leT (xs.foldl step st0) g)) := by
  have key : ∀ (xs : List α) (st : σ) (j : J), N j → forOk step okb st xs → ∃ j', N j' ∧ forGo t (evSs Φ fu body) (xs.map F) (S st j) = some (.nx, S (xs.foldl step st) j') := by
    intro xs
    induction xs with
    | nil => intro st j hj _; exact ⟨j, hj, rfl⟩
    | cons a xs ih =>
      intro st j hj ho
      obtain ⟨r1, h1, o, s2, h2, h3, j2, hj2, rfl⟩ := hb st j a ho.1 hj
      obtain ⟨j', hj', h4⟩ := ih (step st a) j2 hj2 ho.2
      refine ⟨j', hj', ?_⟩
      have e0 : ({ (S st j) with r := r1 } : S1) = ⟨r1, (S st j).w⟩ := rfl
      simp only [List.map_cons, forGo, h1, e0, h2, List.foldl_cons]
      rcases h3 with rfl | rfl <;> exact h4
  obtain ⟨j', hj', h⟩ := key xs st0 j0 hn hob
  refine bl_next (s2 := S (xs.foldl step st0) j') ?_ (k _ j' hok hj')
  simp only [EvIt] at hit
  simp only [evS, hit]
  rw [hs]
  exact h
/-- a loop that may return -/
theorem bl_forsR {α ρ σ τ J : Type} {F : α → D} {xs : List α} {st0 : σ} {step : σ → α → ρ ⊕ σ} {g : σ → τ} {inj : ρ → τ} {fr : ρ → D} {w : DW} {okb : σ → α → Prop} {ok : σ → Prop} {P : τ → Out → S1 → Prop} {t : Tg} {it : It} {body rest : List St} {s s1 : S1} (N : J → Prop) (S : σ → J → S1) (j0 : J) (hn : N j0) (hs : s1 = S st0 j0) (hit : EvIt Φ it s (xs.map F) s1) (hob : forROk step okb st0 xs) (hok : orROk (forR step st0 xs) ok)
    (hret : ∀ r o s', (o = .ret (fr r) ∧ s'.w = w) → P (inj r) o s')
    (hb : ∀ st j a, okb st a → N j → ∃ r1, setT t (F a) (S st j).r = some r1 ∧ Bl Φ fu body ⟨r1, (S st j).w⟩ (Mm fr w (Jn N S) (step st a))) (k : ∀ st j, ok st → N j → Bl Φ fu rest (S st j) (P (g st))) : Bl Φ fu (.fors t it body :: rest) s (P (orR inj (forR step st0 xs) g)) := by
  have key : ∀ (xs : List α) (st : σ) (j : J), N j → forROk step okb st xs → (∃ r s', forR step st xs = .inl r ∧ forGo t (evSs Φ fu body) (xs.map F) (S st j) = some (.ret (fr r), s') ∧ s'.w = w) ∨ ∃ st' j', N j' ∧ forR step st xs = .inr st' ∧ forGo t (evSs Φ fu body) (xs.map F) (S st j) = some (.nx, S st' j') := by
    intro xs
    induction xs with
    | nil => intro st j hj _; exact .inr ⟨st, j, hj, rfl, rfl⟩
    | cons a xs ih =>
      intro st j hj ho
      obtain ⟨r1, h1, o, s2, h2, h3⟩ := hb st j a ho.1 hj
      have e0 : ({ (S st j) with r := r1 } : S1) = ⟨r1, (S st j).w⟩ := rfl
      cases hst : step st a with
      | inl r =>
        rw [hst] at h3
        obtain ⟨rfl, h4⟩ := h3
        refine .inl ⟨r, s2, by simp only [forR, hst], ?_, h4⟩
        simp only [List.map_cons, forGo, h1, e0, h2]
      | inr st2 =>
        rw [hst] at h3
        obtain ⟨h3, j2, hj2, rfl⟩ := h3
        have e1 : forR step st (a :: xs) = forR step st2 xs := by simp only [forR, hst]
        have e2 : forGo t (evSs Φ fu body) ((a :: xs).map F) (S st j) = forGo t (evSs Φ fu body) (xs.map F) (S st2 j2) := by
          simp only [List.map_cons, forGo, h1, e0, h2]
          rcases h3 with rfl | rfl <;> rfl
        rw [e1, e2]
        exact ih st2 j2 hj2 (ho.2 st2 hst)
  have ee : evS Φ fu (.fors t it body) s = forGo t (evSs Φ fu body) (xs.map F) (S st0 j0) := by
    simp only [EvIt] at hit
    simp only [evS, hit]
    rw [hs]
  rcases key xs st0 j0 hn hob with ⟨r, s', h1, h2, h3⟩ | ⟨st', j', hj, h1, h2⟩
  · refine ⟨.ret (fr r), s', by simp only [evSs, ee, h2], ?_⟩
    rw [h1]
    exact hret r _ _ ⟨rfl, h3⟩
  · refine bl_next (s2 := S st' j') (ee.trans h2) ?_
    rw [h1]
    exact k st' j' (hok st' h1) hj
theorem run_R {ρ : Type} {f : ρ → D} {r : ρ} {fn : Fn} {ds : List D} {w : DW} {s0 : S1} (hl : ds.length = fn.np) (hs : (⟨ds.map .val ++ List.replicate (fn.nn - fn.np) .no, w⟩ : S1) = s0) (h : Bl Φ fu fn.body s0 (Rm f w r)) : runFn Φ fu fn ds w = some (f r, w) := by
  obtain ⟨o, s', h1, rfl, h3⟩ := h
  unfold runFn
  rw [if_pos hl, hs, h1]
  simp only [h3]
theorem run_N {fn : Fn} {ds : List D} {w : DW} {s0 : S1} (hl : ds.length = fn.np) (hs : (⟨ds.map .val ++ List.replicate (fn.nn - fn.np) .no, w⟩ : S1) = s0) (h : Bl Φ fu fn.body s0 (Nm (fun (_ : Unit) s => s.w = w) ())) : runFn Φ fu fn ds w = some (.none, w) := by
  obtain ⟨o, s', h1, rfl, h3⟩ := h
  unfold runFn
  rw [if_pos hl, hs, h1]
  simp only [h3]
/-! ### what is in order -/
theorem forOk_inv {σ α : Type} {step : σ → α → σ} {ok : σ → α → Prop} (I : σ → Prop) : ∀ {xs : List α} {st : σ}, I st → (∀ st a, a ∈ xs → I st → ok st a ∧ I (step st a)) → forOk step ok st xs
  | [], _, _, _ => trivial
  | a :: l, st, h0, h => ⟨(h st a (List.mem_cons_self ..) h0).1, forOk_inv I (h st a (List.mem_cons_self ..) h0).2 fun st b hb hs => h st b (List.mem_cons_of_mem _ hb) hs⟩
theorem forROk_inv {σ α ρ : Type} {step : σ → α → ρ ⊕ σ} {ok : σ → α → Prop} (I : σ → Prop) : ∀ {xs : List α} {st : σ}, I st → (∀ st a, a ∈ xs → I st → ok st a ∧ ∀ st', step st a = .inr st' → I st') → forROk step ok st xs
  | [], _, _, _ => trivial
  | a :: l, st, h0, h => ⟨(h st a (List.mem_cons_self ..) h0).1, fun st' e => forROk_inv I ((h st a (List.mem_cons_self ..) h0).2 st' e) fun st b hb hs => h st b (List.mem_cons_of_mem _ hb) hs⟩
theorem foldl_inv {σ α : Type} {step : σ → α → σ} (I : σ → Prop) : ∀ {xs : List α} {st : σ}, I st → (∀ st a, a ∈ xs → I st → I (step st a)) → I (xs.foldl step st)
  | [], _, h0, _ => h0
  | a :: l, st, h0, h => foldl_inv (xs := l) (st := step st a) I (h st a (List.mem_cons_self ..) h0) fun st b hb hs => h st b (List.mem_cons_of_mem _ hb) hs
end
end Iv

namespace Iv
open PySem
theorem forOk_true {σ α : Type} (step : σ → α → σ) : ∀ (st : σ) (xs : List α), forOk step (fun _ _ => True) st xs
  | _, [] => trivial
  | st, a :: l => ⟨trivial, forOk_true step (step st a) l⟩
theorem forROk_true {σ α ρ : Type} (step : σ → α → ρ ⊕ σ) : ∀ (st : σ) (xs : List α), forROk step (fun _ _ => True) st xs
  | _, [] => trivial
  | st, a :: l => ⟨trivial, fun st' _ => forROk_true step st' l⟩
theorem noOwn_nil {r : List Ent} : noOwn r [] = true := rfl
theorem noOwn_cons {r : List Ent} {i : Nat} {vs : List Nat} {e : Ent} (h : r[i]? = some e) (hn : noO e = true) (t : noOwn r vs = true) : noOwn r (i :: vs) = true := by
  simp only [noOwn, List.all_cons, Bool.and_eq_true] at t ⊢
  refine ⟨?_, t⟩
  rw [h]
  cases e <;> first | rfl | cases hn
section
variable {Φ : Str → List D → DW → Option (D × DW)} {fu : Nat}
theorem ev_isB {a b : E} {s s1 : S1} {x y : Bool} (h : E2 Φ a b s (.bool x) (.bool y) s1) : Ev Φ (.op .is a b) s (.bool (decide (x = y))) s1 := ev_op h rfl
theorem ev_isnB {a b : E} {s s1 : S1} {x y : Bool} (h : E2 Φ a b s (.bool x) (.bool y) s1) : Ev Φ (.op .isnot a b) s (.bool (!decide (x = y))) s1 := ev_op h rfl
theorem ev_powC {a b : E} {s s1 : S1} {x y z : Int} (h : E2 Φ a b s (.int x) (.int y) s1) (ho : 0 ≤ y ∧ y ≤ 1000000 ∧ small x = true) (hz : x ^ y.toNat = z) : Ev Φ (.op .pow a b) s (.int z) s1 := ev_op h (by simp only [op2]; rw [if_pos ho, hz])
/-! ### with draws -/
def RmW {ρ : Type} (f : ρ → D) (r : ρ × DW) (o : Out) (s : S1) : Prop := o = .ret (f r.1) ∧ s.w = r.2
def MmW {ρ σ : Type} (f : ρ → D) (I : σ → S1 → Prop) (m : (ρ × DW) ⊕ σ) (o : Out) (s : S1) : Prop := match m with
  | .inl r => o = .ret (f r.1) ∧ s.w = r.2
  | .inr st => (o = .nx ∨ o = .cont) ∧ I st s
theorem ev_callW {f : Str} {es : Es} {r : List Ent} {w w' : DW} {s : S1} {ds : List D} {d : D} (h : Evs Φ es s ds ⟨r, w⟩) (hf : Φ f ds w = some (d, w')) : Ev Φ (.call f es) s d ⟨r, w'⟩ := by
  rw [Ev, evE_call, h]
  simp only [Option.bind_some, hf, Option.map_some]
theorem ev_ifeW {α : Type} {f : α → D} {c a b : E} {s : S1} {r : List Ent} {w : DW} {x : Bool} {u v : α × DW} (h : Ev Φ c s (.bool x) ⟨r, w⟩) (h1 : x = true → Ev Φ a ⟨r, w⟩ (f u.1) ⟨r, u.2⟩) (h0 : x = false → Ev Φ b ⟨r, w⟩ (f v.1) ⟨r, v.2⟩) : Ev Φ (.ife c a b) s (f (cond x u v).1) ⟨r, (cond x u v).2⟩ := by
  rw [Ev, evE_ife, h]
  cases x with
  | true => exact h1 rfl
  | false => exact h0 rfl
theorem ev_andW {a b : E} {s : S1} {r : List Ent} {w : DW} {x : Bool} {y : Bool × DW} (h1 : Ev Φ a s (.bool x) ⟨r, w⟩) (h2 : x = true → Ev Φ b ⟨r, w⟩ (.bool y.1) ⟨r, y.2⟩) : Ev Φ (.and a b) s (.bool (cond x y (false, w)).1) ⟨r, (cond x y (false, w)).2⟩ := by
  rw [Ev, evE_and, h1]
  cases x with
  | true => exact h2 rfl
  | false => rfl
theorem ev_orW {a b : E} {s : S1} {r : List Ent} {w : DW} {x : Bool} {y : Bool × DW} (h1 : Ev Φ a s (.bool x) ⟨r, w⟩) (h2 : x = false → Ev Φ b ⟨r, w⟩ (.bool y.1) ⟨r, y.2⟩) : Ev Φ (.or a b) s (.bool (cond x (true, w) y).1) ⟨r, (cond x (true, w) y).2⟩ := by
  rw [Ev, evE_or, h1]
  cases x with
  | false => exact h2 rfl
  | true => rfl
def mapW {α β : Type} (g : α → DW → β × DW) : List α → DW → List β × DW
  | [], w => ([], w)
  | a :: l, w => ((g a w).1 :: (mapW g l (g a w).2).1, (mapW g l (g a w).2).2)
def mapWOk {α β : Type} (g : α → DW → β × DW) (ok : α → DW → Prop) : List α → DW → Prop
  | [], _ => True
  | a :: l, w => ok a w ∧ mapWOk g ok l (g a w).2
theorem mapW_len {α β : Type} (g : α → DW → β × DW) : ∀ (l : List α) (w : DW), (mapW g l w).1.length = l.length
  | [], _ => rfl
  | a :: l, w => by simp [mapW, mapW_len g l]
theorem ev_lcW {α β : Type} {vs : List Nat} {t : Tg} {it : It} {e : E} {s : S1} {r0 : List Ent} {w0 : DW} {L : List α} {F : α → D} (g : α → DW → β × DW) {f : β → D} (ok : α → DW → Prop) (hit : EvIt Φ it s (L.map F) ⟨r0, w0⟩) (hn : noOwn r0 vs = true) (hl : L.length ≤ line)
    (ho : mapWOk g ok L w0)
    (h : ∀ a w, ok a w → ∃ r1, setT t (F a) (wipeR r0 vs) = some r1 ∧ wipeR r1 vs = wipeR r0 vs ∧ Ev Φ e ⟨r1, w⟩ (f (g a w).1) ⟨r1, (g a w).2⟩) : Ev Φ (.lc vs t it (.cst (.bool true)) e) s (.list ((mapW g L w0).1.map f)) ⟨r0, (mapW g L w0).2⟩ := by
  have key : ∀ (L : List α) (r : List Ent) (w : DW), wipeR r vs = wipeR r0 vs → mapWOk g ok L w → ∃ r', lcGo vs t (evE Φ (.cst (.bool true))) (evE Φ e) (L.map F) ⟨r, w⟩ = some ((mapW g L w).1.map f, ⟨r', (mapW g L w).2⟩) ∧ wipeR r' vs = wipeR r0 vs := by
    intro L
    induction L with
    | nil => intro r w hr _; exact ⟨r, rfl, hr⟩
    | cons a L ih =>
      intro r w hr ho
      obtain ⟨r1, h1, h2, h3⟩ := h a w ho.1
      obtain ⟨r', i1, i2⟩ := ih r1 (g a w).2 h2 ho.2
      refine ⟨r', ?_, i2⟩
      simp only [List.map_cons, lcGo]
      rw [hr, h1]
      simp only [Ev] at h3
      simp only [evE_cst, asB, h3, i1, mapW, List.map_cons]
  obtain ⟨r', h1, h2⟩ := key L r0 w0 rfl ho
  have hb := back_of_wipe h2 hn
  have hlen : (mapW g L w0).1.length ≤ line := by rw [mapW_len]; exact hl
  simp only [EvIt] at hit
  simp only [Ev, evE, lcAll, hit, hn, List.length_map, hl, decide_true, Bool.and_self, if_true]
  simp only [evE] at h1
  rw [h1]
  simp only [List.length_map, hlen, if_true, hb, Option.map_some]
theorem bl_asgW {α τ : Type} {f : α → D} {x : α × DW} {g : α × DW → τ} {ok : α × DW → Prop} {P : τ → Out → S1 → Prop} {i : Nat} {e : E} {rest : List St} {s : S1} {r : List Ent} (R2 : α → List Ent) (he : Ev Φ e s (f x.1) ⟨r, x.2⟩) (hok : leT x ok) (hp : ∀ y, r.set i (.val (f y)) = R2 y) (k : ∀ y : α × DW, ok y → Bl Φ fu rest ⟨R2 y.1, y.2⟩ (P (g y))) : Bl Φ fu (.asg i e :: rest) s (P (leT x g)) :=
  bl_next (by rw [evS_asg, he, ← hp]; rfl) (k x hok)
theorem bl_asgOW {α τ : Type} {f : α → D} {x : α × DW} {g : α × DW → τ} {ok : α × DW → Prop} {P : τ → Out → S1 → Prop} {i : Nat} {e : E} {rest : List St} {s : S1} {r : List Ent} (R2 : α → List Ent) (he : Ev Φ e s (f x.1) ⟨r, x.2⟩) (hok : leT x ok) (hp : ∀ y, r.set i (.own (f y)) = R2 y) (k : ∀ y : α × DW, ok y → Bl Φ fu rest ⟨R2 y.1, y.2⟩ (P (g y))) : Bl Φ fu (.asgO i e :: rest) s (P (leT x g)) :=
  bl_next (by rw [evS_asgO, he, ← hp]; rfl) (k x hok)
theorem bl_unpW {α τ : Type} {f : α → D} {x : α × DW} {g : α × DW → τ} {ok : α × DW → Prop} {P : τ → Out → S1 → Prop} {t : Tg} {e : E} {rest : List St} {s : S1} {r : List Ent} (R2 : α → List Ent) (he : Ev Φ e s (f x.1) ⟨r, x.2⟩) (hok : leT x ok) (hp : ∀ y, setT t (f y) r = some (R2 y)) (k : ∀ y : α × DW, ok y → Bl Φ fu rest ⟨R2 y.1, y.2⟩ (P (g y))) : Bl Φ fu (.unp t e :: rest) s (P (leT x g)) :=
  bl_next (by rw [evS_unp, he]; simp only [Option.bind_some, hp, Option.map_some]) (k x hok)
theorem bl_par2W {α β τ : Type} {f : α → D} {f' : β → D} {x : α × β × DW} {g : α × β × DW → τ} {ok : α × β × DW → Prop} {P : τ → Out → S1 → Prop} {is : List (Nat × Bool)} {es : Es} {rest : List St} {s : S1} {r : List Ent} (R2 : α → β → List Ent) (he : Evs Φ es s [f x.1, f' x.2.1] ⟨r, x.2.2⟩) (hok : leT x ok) (hp : ∀ y y', putAll r is [f y, f' y'] = some (R2 y y')) (k : ∀ y : α × β × DW, ok y → Bl Φ fu rest ⟨R2 y.1 y.2.1, y.2.2⟩ (P (g y))) : Bl Φ fu (.par is es :: rest) s (P (leT x g)) :=
  bl_next (by rw [evS_par, he]; simp only [Option.bind_some, hp, Option.map_some]) (k x hok)
theorem bl_ifsW {τ : Type} {x : Bool × DW} {g1 g0 : Bool × DW → τ} {ok : Bool × DW → Prop} {P : τ → Out → S1 → Prop} {c : E} {a b rest : List St} {s : S1} {r : List Ent} (hc : Ev Φ c s (.bool x.1) ⟨r, x.2⟩) (hok : leT x ok) (h1 : ∀ y : Bool × DW, ok y → y.1 = true → Bl Φ fu (a ++ rest) ⟨r, y.2⟩ (P (g1 y))) (h0 : ∀ y : Bool × DW, ok y → y.1 = false → Bl Φ fu (b ++ rest) ⟨r, y.2⟩ (P (g0 y))) : Bl Φ fu (.ifs c a b :: rest) s (P (leT x fun y => cond y.1 (g1 y) (g0 y))) := by
  have := bl_ifs (P := P) (x := g1 x) (y := g0 x) (a := a) (b := b) (rest := rest) hc (fun hv => h1 x hok hv) (fun hv => h0 x hok hv)
  exact this
theorem bl_retW {ρ : Type} {f : ρ → D} {x : ρ × DW} {e : E} {rest : List St} {s : S1} {r : List Ent} (he : Ev Φ e s (f x.1) ⟨r, x.2⟩) : Bl Φ fu (.ret e :: rest) s (RmW f x) :=
  ⟨_, _, by simp only [evSs, evS_ret]; rw [he]; rfl, rfl, rfl⟩
theorem bl_retMW {ρ σ : Type} {f : ρ → D} {x : ρ × DW} {I : σ → S1 → Prop} {e : E} {rest : List St} {s : S1} {r : List Ent} (he : Ev Φ e s (f x.1) ⟨r, x.2⟩) : Bl Φ fu (.ret e :: rest) s (MmW f I (.inl x)) :=
  ⟨_, _, by simp only [evSs, evS_ret]; rw [he]; rfl, rfl, rfl⟩
theorem bl_nilMW {ρ σ : Type} {f : ρ → D} {I : σ → S1 → Prop} {st : σ} {s : S1} (h : I st s) : Bl Φ fu [] s (MmW f I (.inr st)) := ⟨_, _, by simp only [evSs], .inl rfl, h⟩
theorem bl_contMW {ρ σ : Type} {f : ρ → D} {I : σ → S1 → Prop} {st : σ} {rest : List St} {s : S1} (h : I st s) : Bl Φ fu (.cont :: rest) s (MmW f I (.inr st)) := ⟨_, _, by simp only [evSs, evS_cont], .inr rfl, h⟩
theorem bl_forsRW {α ρ σ τ J : Type} {F : α → D} {xs : List α} {st0 : σ} {step : σ → α → (ρ × DW) ⊕ σ} {g : σ → τ} {inj : ρ × DW → τ} {fr : ρ → D} {okb : σ → α → Prop} {ok : σ → Prop} {P : τ → Out → S1 → Prop} {t : Tg} {it : It} {body rest : List St} {s s1 : S1} (N : J → Prop) (S : σ → J → S1) (j0 : J) (hn : N j0) (hs : s1 = S st0 j0) (hit : EvIt Φ it s (xs.map F) s1) (hob : forROk step okb st0 xs) (hok : orROk (forR step st0 xs) ok)
    (hret : ∀ (r : ρ × DW) o (s' : S1), (o = .ret (fr r.1) ∧ s'.w = r.2) → P (inj r) o s')
    (hb : ∀ st j a, okb st a → N j → ∃ r1, setT t (F a) (S st j).r = some r1 ∧ Bl Φ fu body ⟨r1, (S st j).w⟩ (MmW fr (Jn N S) (step st a))) (k : ∀ st j, ok st → N j → Bl Φ fu rest (S st j) (P (g st))) : Bl Φ fu (.fors t it body :: rest) s (P (orR inj (forR step st0 xs) g)) := by
  have key : ∀ (xs : List α) (st : σ) (j : J), N j → forROk step okb st xs → (∃ (r : ρ × DW) (s' : S1), forR step st xs = .inl r ∧ forGo t (evSs Φ fu body) (xs.map F) (S st j) = some (.ret (fr r.1), s') ∧ s'.w = r.2) ∨ ∃ st' j', N j' ∧ forR step st xs = .inr st' ∧ forGo t (evSs Φ fu body) (xs.map F) (S st j) = some (.nx, S st' j') := by
    intro xs
    induction xs with
    | nil => intro st j hj _; exact .inr ⟨st, j, hj, rfl, rfl⟩
    | cons a xs ih =>
      intro st j hj ho
      obtain ⟨r1, h1, o, s2, h2, h3⟩ := hb st j a ho.1 hj
      have e0 : ({ (S st j) with r := r1 } : S1) = ⟨r1, (S st j).w⟩ := rfl
      cases hst : step st a with
      | inl r =>
        rw [hst] at h3
        obtain ⟨rfl, h4⟩ := h3
        refine .inl ⟨r, s2, by simp only [forR, hst], ?_, h4⟩
        simp only [List.map_cons, forGo, h1, e0, h2]
      | inr st2 =>
        rw [hst] at h3
        obtain ⟨h3, j2, hj2, rfl⟩ := h3
        have e1 : forR step st (a :: xs) = forR step st2 xs := by simp only [forR, hst]
        have e2 : forGo t (evSs Φ fu body) ((a :: xs).map F) (S st j) = forGo t (evSs Φ fu body) (xs.map F) (S st2 j2) := by
          simp only [List.map_cons, forGo, h1, e0, h2]
          rcases h3 with rfl | rfl <;> rfl
        rw [e1, e2]
        exact ih st2 j2 hj2 (ho.2 st2 hst)
  have ee : evS Φ fu (.fors t it body) s = forGo t (evSs Φ fu body) (xs.map F) (S st0 j0) := by
    simp only [EvIt] at hit
    simp only [evS, hit]
    rw [hs]
  rcases key xs st0 j0 hn hob with ⟨r, s', h1, h2, h3⟩ | ⟨st', j', hj, h1, h2⟩
  · refine ⟨.ret (fr r.1), s', by simp only [evSs, ee, h2], ?_⟩
    rw [h1]
    exact hret r _ _ ⟨rfl, h3⟩
  · refine bl_next (s2 := S st' j') (ee.trans h2) ?_
    rw [h1]
    exact k st' j' (hok st' h1) hj
theorem run_W {ρ : Type} {f : ρ → D} {r : ρ × DW} {fn : Fn} {ds : List D} {w : DW} {s0 : S1} (hl : ds.length = fn.np) (hs : (⟨ds.map .val ++ List.replicate (fn.nn - fn.np) .no, w⟩ : S1) = s0) (h : Bl Φ fu fn.body s0 (RmW f r)) : runFn Φ fu fn ds w = some (f r.1, r.2) := by
  obtain ⟨o, s', h1, rfl, h3⟩ := h
  unfold runFn
  rw [if_pos hl, hs, h1]
  simp only [h3]
theorem ev_lenS {a : E} {s s1 : S1} {ns : List Int} (h : Pk Φ a s (scrD ns) s1) : Ev Φ (.bf .len a) s (.int (ns.length : Int)) s1 := ev_bf h (by
  unfold scrD
  simp only [bf1, dOk, List.all_cons, keyOf, Option.isSome_none, Bool.false_and, Bool.false_eq_true, if_false, List.length_map])
end
end Iv

namespace Iv
open PySem L2
def top (i : Nat) : Stmt := PySem.Challenge.pw_heirshalves_k13_whole_fixed_ends_that_me.main.body.getD i (.Pass ⟨0, 0, 0, 0⟩)
abbrev sBegun : Stmt := top 41
abbrev sBlended : Stmt := top 42
abbrev sDraw : Stmt := top 43
end Iv
abbrev Iv.sLaw : PySem.Stmt := Iv.top 54

namespace Iv
open PySem L2 PyProof.Rows
open Evl (Ex)
/-! ### the draws -/
def blend1 (turn pr : Int) (cells : List Int) : Int := cells.foldl (fun b c => (b * 60583 + c + turn) % pr) (44021 * turn + pr / 59)
def blendF (cells : List Int) (turn : Int) : Int := [2147483549, 2147483543, 2147483497].foldl (fun f pr => f * 2147483647 + (blend1 turn pr cells) ^ 5 % pr) 0
def kvW (wa : WA) (w : DW) : List (Key × V) := [(.inr "great", .ref wa.g), (.inr "cells", .ref wa.c), (.inr "rest", .int w.rest), (.inr "turn", .int w.turn)]
theorem k1 : ¬ ((Sum.inr ("great" : Str) : Key) = .inr "turn") := by decide +kernel
theorem k2 : ¬ ((Sum.inr ("cells" : Str) : Key) = .inr "turn") := by decide +kernel
theorem k3 : ¬ ((Sum.inr ("rest" : Str) : Key) = .inr "turn") := by decide +kernel
theorem k4 : ¬ ((Sum.inr ("great" : Str) : Key) = .inr "rest") := by decide +kernel
theorem k5 : ¬ ((Sum.inr ("cells" : Str) : Key) = .inr "rest") := by decide +kernel
theorem k6 : ¬ ((Sum.inr ("great" : Str) : Key) = .inr "cells") := by decide +kernel
theorem k7 : ¬ ((Sum.inr ("turn" : Str) : Key) = .inr "rest") := by decide +kernel
section
variable {wa : WA} {w : DW} {H : Hp}
theorem v_turn : valV (kvW wa w) (.inr "turn") = some (.int w.turn) := by
  unfold kvW
  rw [valV_neg k1, valV_neg k2, valV_neg k3, valV_pos rfl]
theorem v_rest : valV (kvW wa w) (.inr "rest") = some (.int w.rest) := by
  unfold kvW
  rw [valV_neg k4, valV_neg k5, valV_pos rfl]
theorem v_cells : valV (kvW wa w) (.inr "cells") = some (.ref wa.c) := by
  unfold kvW
  rw [valV_neg k6, valV_pos rfl]
theorem v_great : valV (kvW wa w) (.inr "great") = some (.ref wa.g) := by
  unfold kvW
  rw [valV_pos rfl]
theorem n1 : ¬ (Str.ofString "great" = Str.ofString "turn") := by decide +kernel
theorem n2 : ¬ (Str.ofString "cells" = Str.ofString "turn") := by decide +kernel
theorem n3 : ¬ (Str.ofString "rest" = Str.ofString "turn") := by decide +kernel
theorem n4 : ¬ (Str.ofString "great" = Str.ofString "rest") := by decide +kernel
theorem n5 : ¬ (Str.ofString "cells" = Str.ofString "rest") := by decide +kernel
theorem n6 : ¬ (Str.ofString "turn" = Str.ofString "rest") := by decide +kernel
theorem p_turn (i : Int) : putK (kvW wa w) (.inr "turn") (.int i) = kvW wa { w with turn := i } := by
  unfold putK kvW
  simp [n1, n2, n3]
theorem p_rest (i : Int) : putK (kvW wa w) (.inr "rest") (.int i) = kvW wa { w with rest := i } := by
  unfold putK kvW
  simp [n4, n5, n6]
theorem RepW.kv (h : RepW wa H w) : H wa.s = some (.dK (kvW wa w)) := h.1
theorem RepW.get (h : RepW wa H w) {k : Key} {v : V} (hv : valV (kvW wa w) k = some v) : DGet H wa.s (kV k) (some v) := by rw [← hv]; exact DGet.k h.kv
theorem RepW.sc (h : RepW wa H w) : wa.s ≠ wa.c := fun e => by
  have h1 := h.1
  rw [e, h.2.2.1] at h1; cases h1
theorem RepW.sg (h : RepW wa H w) : wa.s ≠ wa.g := fun e => by
  have h1 := h.1
  rw [e, h.2.1] at h1; cases h1
theorem RepW.setR (h : RepW wa H w) (i : Int) : RepW wa (upd H wa.s (.dK (kvW wa { w with rest := i }))) { w with rest := i } :=
  ⟨upd_same, by rw [upd_ne h.sg.symm]; exact h.2.1, by rw [upd_ne h.sc.symm]; exact h.2.2.1, h.2.2.2⟩
theorem RepW.setT (h : RepW wa H w) (i : Int) : RepW wa (upd H wa.s (.dK (kvW wa { w with turn := i }))) { w with turn := i } :=
  ⟨upd_same, by rw [upd_ne h.sg.symm]; exact h.2.1, by rw [upd_ne h.sc.symm]; exact h.2.2.1, h.2.2.2⟩
/-- only the draws' own objects have changed -/
def KeepW (wa : WA) (H H' : Hp) : Prop := ∀ a o, H a = some o → ¬ InW wa a → H' a = some o
theorem KeepW.refl : KeepW wa H H := fun _ _ h _ => h
theorem KeepW.trans {H1 H2 : Hp} (h : KeepW wa H H1) (h' : KeepW wa H1 H2) : KeepW wa H H2 := fun a o e n => h' a o (h a o e n) n
theorem KeepW.upd {a : Addr} {o : HO} {H1 : Hp} (h : KeepW wa H H1) (i : InW wa a) : KeepW wa H (upd H1 a o) := fun b u e n => by
  have : b ≠ a := fun z => n (by rw [z]; exact i)
  rw [upd_ne this]; exact h b u e n
theorem KeepW.new {a : Addr} {o : HO} {H1 : Hp} (h : KeepW wa H H1) (i : H1 a = none) : KeepW wa H (L2.upd H1 a o) := fun b u e n => by
  have := h b u e n
  rw [upd_ne (ne_of_none this i)]; exact this
theorem RepW.new (h : RepW wa H w) {a : Addr} {o : HO} (i : H a = none) : RepW wa (L2.upd H a o) w := h.ext fun b hb => upd_ne fun z => by
  obtain ⟨u, hu⟩ := h.at hb
  rw [z, i] at hu; cases hu
end
def spBlended : Sp := fun vs H Q _ => ∃ wa w, vs = [.ref wa.s] ∧ RepW wa H w ∧ 0 ≤ w.turn ∧ w.turn < 2 ^ 40 ∧ ∀ H', KeepW wa H H' → RepW wa H' { w with turn := w.turn + 1 } → Q (.int (blendF w.cells (w.turn + 1))) H'
section
variable {P : Program} {w : World} {K : PySem.W.Frag} {mg : Str → Option Value} {base : Heap}
theorem scB : FnScope ["state", "turn", "found", "prime", "blend", "cell"] ["state"] (defScope sBlended) := scOk_ok (by decide +kernel)
theorem ok_blended {f : Addr} {fd : FuncData} (F : Fun K "_law_blended" "_law_blended" sBlended f fd) (mi : mg "int" = none) : FnOk P w K mg base CX0 1 f fd ["state"] spBlended := by
  refine F.ok scB (fun vs H Q E h => ?_) (fun cdv A outer s H vs Q E hr h => ?_)
  · obtain ⟨_, _, rfl, _⟩ := h
    rfl
  · obtain ⟨wa, wd, rfl, hW, ht0, ht1, k⟩ := h
    refine ⟨_, pss_cons (ps_par (i := 1) (j := 2) rfl scB.nd rfl rfl (by decide) rfl rfl (pa_cons (pe_op op_add (pe_dget (hu_of hr) (pv 0) pe_str (fun _ _ => rfl)) pe_int) (pa_cons pe_int pa_nil)) rfl)
      (pss_cons (ps_dput (hu_of hr) (pv 0) pe_str (pv 1) rfl)
      (pss_cons (ps_for PassesOwn.never rfl (pi_list (pe_lst (pa_cons pe_int (pa_cons pe_int (pa_cons pe_int pa_nil))))) (pg_name (i := 3) scB.nd rfl (Or.inl rfl))
        (pss_cons (ps_set (i := 4) scB.nd rfl (Or.inl rfl) (pe_op op_add (pe_op op_mul pe_int (pv 1)) (pe_op op_fdivW (pv 3) pe_int)))
        (pss_cons (ps_for PassesOwn.never rfl (pi_list (pe_dget (hu_of hr) (pv 0) pe_str (fun _ _ => rfl))) (pg_name (i := 5) scB.nd rfl (Or.inl rfl))
          (pss_one (ps_set (i := 4) scB.nd rfl (Or.inl rfl) (pe_op op_mod (pe_callTy call_int1 rfl mi (by decide +kernel) (pa_cons (pe_op op_add (pe_op op_add (pe_op op_mul (pv 4) pe_int) (pv 5)) (pv 1)) pa_nil)) (pv 3)))))
        (pss_one (ps_set (i := 2) scB.nd rfl (Or.inl rfl) (pe_op op_add (pe_op op_mul (pv 2) pe_int) (pe_op op_mod (pe_callTy call_int1 rfl mi (by decide +kernel) (pa_cons (pe_op op_pow (pv 4) pe_int) pa_nil)) (pv 3))))))))
      (pss_one (ps_ret (pv 2))))), ?_⟩
    refine ⟨_, rfl, wa.s, _, rfl, hW.get v_turn, _, _, rfl, rfl, _, _, rfl, ?_⟩
    refine ⟨_, rfl, _, rfl, wa.s, upd H wa.s (.dK (kvW wa { wd with turn := wd.turn + 1 })), rfl, by rw [← p_turn]; exact DPut.k (k := .inr "turn") (v := .int (wd.turn + 1)) hW.kv (by show 4 < sizeLine; decide +kernel), ?_⟩
    have hW1 := hW.setT (wd.turn + 1)
    have kp1 : KeepW wa H (upd H wa.s (.dK (kvW wa { wd with turn := wd.turn + 1 }))) := KeepW.refl.upd (.inl rfl)
    generalize upd H wa.s (.dK (kvW wa { wd with turn := wd.turn + 1 })) = H1 at hW1 kp1
    refine ⟨by decide +kernel, fun l hl => ⟨l, rfl, ⟨_, SqL.of upd_same⟩, ?_⟩⟩
    have hPR : ([V.int 2147483549, .int 2147483543, .int 2147483497] : List V) = ([2147483549, 2147483543, 2147483497] : List Int).map V.int := rfl
    rw [hPR]
    have hpr : ∀ q ∈ ([2147483549, 2147483543, 2147483497] : List Int), 0 < q ∧ q < 2 ^ 32 := by decide
    have hbl : blendF wd.cells (wd.turn + 1) = ([2147483549, 2147483543, 2147483497] : List Int).foldl (fun f pr => f * 2147483647 + (blend1 (wd.turn + 1) pr wd.cells) ^ 5 % pr) 0 := rfl
    rw [hbl] at k
    generalize ([2147483549, 2147483543, 2147483497] : List Int) = PR at hpr k
    refine for_list (K := K) (a := l) (xs := PR.map V.int) (fun i σ H' => ∃ x3 x4 x5, σ = [some (.ref wa.s), some (.int (wd.turn + 1)), some (.int ((PR.take i).foldl (fun f pr => f * 2147483647 + (blend1 (wd.turn + 1) pr wd.cells) ^ 5 % pr) 0)), x3, x4, x5] ∧ RepW wa H' { wd with turn := wd.turn + 1 } ∧ KeepW wa H H' ∧ H' l = some (.lst (PR.map V.int)))
      ⟨none, none, none, rfl, hW1.new hl, kp1.new hl, upd_same⟩ (fun i σ H' _ ⟨_, _, _, _, _, _, h⟩ => SqL.of h) ?_ ?_
    · rintro i x σ H' hx ⟨x3, x4, x5, rfl, hW2, kp2, hl2⟩
      rw [List.getElem?_map] at hx
      obtain ⟨pr, hpi, rfl⟩ := Option.map_eq_some_iff.mp hx
      obtain ⟨hp0, hp1⟩ := hpr pr (List.mem_of_getElem? hpi)
      -- blend = 44021 * turn + prime // 59
      refine ⟨_, rfl, _, _, rfl, rfl, .inl ⟨by decide, by decide⟩, _, rfl, _, _, rfl, rfl, wide_div (by decide) (b := 64) (by decide) (by decide) (by decide), _, _, rfl, rfl, ?_⟩
      -- for cell in state['cells']
      refine ⟨_, rfl, wa.s, _, rfl, hW2.get v_cells, wa.c, rfl, ⟨_, SqL.of hW2.2.2.1⟩, ?_⟩
      refine for_list (K := K) (a := wa.c) (xs := wd.cells.map V.int) (fun j σ H' => ∃ x5 b, σ = [some (.ref wa.s), some (.int (wd.turn + 1)), some (.int ((PR.take i).foldl (fun f pr => f * 2147483647 + (blend1 (wd.turn + 1) pr wd.cells) ^ 5 % pr) 0)), some (.int pr), some (.int b), x5] ∧
          b = (wd.cells.take j).foldl (fun b c => (b * 60583 + c + (wd.turn + 1)) % pr) (44021 * (wd.turn + 1) + pr / 59) ∧ 0 ≤ b ∧ b < 2 ^ 60 ∧ RepW wa H' { wd with turn := wd.turn + 1 } ∧ KeepW wa H H' ∧ H' l = some (.lst (PR.map V.int)))
        ⟨x5, _, rfl, rfl, by omega, by omega, hW2, kp2, hl2⟩ (fun j σ H' _ ⟨_, _, _, _, _, _, h, _⟩ => SqL.of h.2.2.1) ?_ ?_
      · rintro j y σ H2 hy ⟨x5, b, rfl, hb, hb0, hb1, hW3, kp3, hl3⟩
        rw [List.getElem?_map] at hy
        obtain ⟨cl, hcj, rfl⟩ := Option.map_eq_some_iff.mp hy
        refine ⟨_, rfl, _, _, rfl, rfl, .inr ⟨by decide, by decide⟩, _, rfl, _, _, rfl, rfl, _, rfl, _, _, rfl, rfl, .inl ⟨_, rfl, _, rfl, _, _, rfl, rfl, hp0, ?_⟩⟩
        have hlt := (List.getElem?_eq_some_iff.mp hcj).1
        have hm1 := Int.emod_nonneg (b * 60583 + cl + (wd.turn + 1)) (Int.ne_of_gt hp0)
        have hm2 := Int.emod_lt_of_pos (b * 60583 + cl + (wd.turn + 1)) hp0
        refine ⟨_, _, rfl, ?_, hm1, by omega, hW3, kp3, hl3⟩
        rw [List.take_add_one, hcj, List.foldl_append, ← hb]
        rfl
      · rintro σ H2 ⟨x5, b, rfl, hb, hb0, hb1, hW3, kp3, hl3⟩
        rw [List.length_map, List.take_length] at hb
        refine ⟨_, rfl, _, _, rfl, rfl, .inr ⟨by decide, by decide⟩, _, rfl, _, _, rfl, rfl, ⟨by decide, by decide, by omega⟩, .inl ⟨_, rfl, _, rfl, _, _, rfl, rfl, hp0, _, _, rfl, rfl, ?_⟩⟩
        refine ⟨some (.int pr), some (.int b), x5, ?_, hW3, kp3, hl3⟩
        rw [List.take_add_one, hpi, List.foldl_append, hb]
        rfl
    · rintro σ H' ⟨x3, x4, x5, rfl, hW2, kp2, hl2⟩
      rw [List.length_map, List.take_length]
      exact ⟨_, rfl, k H' kp2 hW2⟩
/-! ### a draw -/
def drawF (w : DW) (room : Int) : Int × DW :=
  let w1 : DW := if w.rest = 0 then (match w.great with
    | x :: xs => { w with rest := x, great := xs }
    | [] => { w with turn := w.turn + 1, rest := blendF w.cells (w.turn + 1) }) else w
  (w1.rest % room, { w1 with rest := w1.rest / room })
def spDraw : Sp := fun vs H Q _ => ∃ wa w room, vs = [.ref wa.s, .int room] ∧ RepW wa H w ∧ 0 ≤ w.turn ∧ w.turn < 2 ^ 40 ∧ 0 < room ∧ room < 2 ^ 64 ∧ ∀ H', KeepW wa H H' → RepW wa H' (drawF w room).2 → Q (.int (drawF w room).1) H'
theorem scDr : FnScope ["state", "room", "found"] ["state", "room"] (defScope sDraw) := scOk_ok (by decide +kernel)
theorem lay_ints : ∀ ns : List Int, PyData.canLayAll0 (ns.map .int) = true
  | [] => rfl
  | n :: ns => by simp [PyData.canLayAll0, PyData.canLay0, lay_ints ns]
theorem depth_ints (ns : List Int) : (PyData.list (ns.map .int)).depth ≤ 64 := by
  have : ∀ ns : List Int, PyData.depthAll (ns.map .int) ≤ 1 := fun ns => by
    induction ns with
    | nil => simp [PyData.depthAll]
    | cons n ns ih => simp only [List.map_cons, PyData.depthAll, PyData.depth]; omega
  have := this ns
  simp only [PyData.depth]; omega
theorem shaped_ints (ns : List Int) : SeqAt.shaped (.list (ns.map .int)) = true := by
  unfold SeqAt.shaped
  rw [Bool.and_eq_true, decide_eq_true_eq]
  exact ⟨by simp [PyData.canLay0, lay_ints], depth_ints ns⟩
theorem RA_ints {K : PySem.W.Frag} {sa : Addr} {F : Hp} : ∀ ns : List Int, RA K sa F (ns.map V.int) (ns.map .int)
  | [] => .nil
  | n :: ns => .cons (.int n) (RA_ints ns)
theorem RepW.setG {wa : WA} {w : DW} {H : Hp} (h : RepW wa H w) (l : List Int) : RepW wa (L2.upd H wa.g (.lst (l.map V.int))) { w with great := l } :=
  ⟨by rw [upd_ne h.sg]; exact h.1, upd_same, by rw [upd_ne h.2.2.2.symm]; exact h.2.2.1, h.2.2.2⟩
theorem ok_draw {f fB : Addr} {fd fdB : FuncData} (F : Fun K "_law_draw" "_law_draw" sDraw f fd) (FB : FnOk P w K mg base CX0 1 fB fdB ["state"] spBlended) (mi : mg "int" = none) (mb : mg "_law_blended" = some (.ref fB)) (kb : PySem.W.keepIn K (Value.ref fB) = true) (bb : L2.Binds K fdB ["state"] []) :
    FnOk P w K mg base CX0 2 f fd ["state", "room"] spDraw := by
  refine F.ok scDr (fun vs H Q E h => ?_) (fun cdv A outer s H vs Q E hr h => ?_)
  · obtain ⟨_, _, _, rfl, _⟩ := h
    rfl
  · obtain ⟨wa, wd, room, rfl, hW, ht0, ht1, hr0, hr1, k⟩ := h
    let p : Pm := ⟨K, wa, H, fun _ => none, fun _ _ _ => none, 0⟩
    refine ⟨tSeq _ (fun De σ H1 => ∃ w1 x2, σ = [some (.ref wa.s), some (.int room), x2] ∧ RepW wa H1 w1 ∧ KeepW wa H H1 ∧ (w1.rest % room, ({ w1 with rest := w1.rest / room } : DW)) = drawF wd room ∧ De.rt = Q),
      pss_cons (ps_if (pt_cmpR op_eq (pe_dget (hu_of hr) (pv 0) pe_str (fun _ _ => rfl)) pe_int (nomark _))
        (pss_one (ps_dput (hu_of hr) (pv 0) pe_str (pe_ifExp (pt_cmpR (ok_ne (p := p) rfl hr) (pe_dget (hu_of hr) (pv 0) pe_str (fun _ _ => rfl)) (pe_lst pa_nil) (nomark _))
          (pe_bm PySem.F.plainAttrs_list PySem.F.slot_list_pop PySem.F.type_list_pop mt_popAt (pe_dget (hu_of hr) (pv 0) pe_str (fun _ _ => rfl)) (pa_cons pe_int pa_nil)) (pe_call FB hr rfl mb kb bb .nil pass0 (pa_cons (pv 0) pa_nil))) rfl)) pss_nil)
      (PSs.imp (pss_cons (ps_set (i := 2) scDr.nd rfl (Or.inl rfl) (pe_op op_mod (pe_callTy call_int1 rfl mi (by decide +kernel) (pa_cons (pe_dget (hu_of hr) (pv 0) pe_str (fun _ _ => rfl)) pa_nil)) (pv 1)))
      (pss_cons (ps_dput (hu_of hr) (pv 0) pe_str (pe_op op_fdivW (pe_dget (hu_of hr) (pv 0) pe_str (fun _ _ => rfl)) (pv 1)) rfl)
      (pss_one (ps_ret (pv 2))))) fun De σ H1 ⟨w1, x2, hσ, hW1, kp1, he, hq⟩ => ?_), ?_⟩
    · subst hσ
      have e1 : w1.rest % room = (drawF wd room).1 := by rw [← he]
      have e2 : ({ w1 with rest := w1.rest / room } : DW) = (drawF wd room).2 := by rw [← he]
      refine ⟨_, rfl, wa.s, _, rfl, hW1.get v_rest, .inl ⟨_, rfl, _, rfl, _, _, rfl, rfl, hr0, ?_⟩⟩
      refine ⟨_, rfl, wa.s, _, rfl, hW1.get v_rest, _, rfl, _, _, rfl, rfl, wide_div hr0 (b := 64) (by omega) (by decide) (by decide), ?_⟩
      refine ⟨_, rfl, wa.s, upd H1 wa.s (.dK (kvW wa { w1 with rest := w1.rest / room })), rfl, by rw [← p_rest]; exact DPut.k (k := .inr "rest") (v := .int (w1.rest / room)) hW1.kv (by show 4 < sizeLine; decide +kernel), ?_⟩
      refine ⟨_, rfl, ?_⟩
      rw [hq]
      show Q (.int (w1.rest % room)) _
      rw [e1]
      exact k _ (kp1.upd (.inl rfl)) (by rw [← e2]; exact hW1.setR _)
    · refine ⟨_, rfl, wa.s, _, rfl, hW.get v_rest, rfl, _, rfl, ?_⟩
      by_cases h0 : wd.rest = 0
      · have hb : decide (V.int wd.rest = V.int 0) = true := by rw [h0]; exact decide_eq_true rfl
        generalize decide (V.int wd.rest = V.int 0) = bv at hb ⊢
        subst hb
        simp only [↓reduceIte]
        refine ⟨_, rfl, wa.s, _, rfl, hW.get v_great, by decide +kernel, fun l hl => ?_⟩
        refine ⟨fun _ => none, .list (wd.great.map .int), .list [], .bool (!PyData.eqv (.list (wd.great.map .int)) (.list [])), fun _ _ z => (by cases z), .inr ⟨wa.g, rfl, rfl, _, by rw [upd_ne (ne_of_none hW.2.1 hl)]; exact hW.2.1, RA_ints _⟩, .inr ⟨l, rfl, rfl, [], upd_same, .nil⟩, ?_, ?_⟩
        · have : okE (.list (wd.great.map .int)) (.list []) = true := by
            unfold okE
            rw [shaped_ints]; exact shaped_ints []
          simp only [op2, this, if_true]
        · intro v F2 H2 gr rv
          have hW2 : RepW wa H2 wd := by
            rcases gr with ⟨_, rfl⟩ | ⟨a, o, ha, _, rfl⟩
            · exact hW.new hl
            · exact (hW.new hl).new ha
          have kp2 : KeepW wa H H2 := by
            rcases gr with ⟨_, rfl⟩ | ⟨a, o, ha, _, rfl⟩
            · exact KeepW.refl.new hl
            · exact (KeepW.refl.new hl).new ha
          generalize hbb : (!PyData.eqv (.list (wd.great.map .int)) (.list [])) = bb' at rv
          cases rv
          refine ⟨_, rfl, ?_⟩
          cases hgr : wd.great with
          | nil =>
            rw [hgr] at hbb
            have : bb' = false := by rw [← hbb]; rfl
            subst this
            simp only [Bool.false_eq_true, ↓reduceIte]
            refine ⟨_, rfl, wa, wd, rfl, hW2, ht0, ht1, fun H3 kp3 hW3 => ?_⟩
            refine ⟨_, rfl, wa.s, upd H3 wa.s (.dK (kvW wa { wd with turn := wd.turn + 1, rest := blendF wd.cells (wd.turn + 1) })), rfl, ?_, ?_⟩
            · have := p_rest (wa := wa) (w := { wd with turn := wd.turn + 1 }) (blendF wd.cells (wd.turn + 1))
              rw [← this]
              exact DPut.k (k := .inr "rest") (v := .int (blendF wd.cells (wd.turn + 1))) hW3.kv (by show 4 < sizeLine; decide +kernel)
            · refine ⟨_, none, rfl, hW3.setR _, (kp2.trans kp3).upd (.inl rfl), ?_, by first | trivial | rfl⟩
              unfold drawF
              rw [h0, hgr]
              rfl
          | cons x xs =>
            rw [hgr] at hbb
            have : bb' = true := by rw [← hbb]; rfl
            subst this
            simp only [↓reduceIte]
            have hg := hW2.2.1
            rw [hgr] at hg
            refine ⟨_, rfl, wa.s, _, rfl, hW2.get v_great, .inl ⟨rfl, _, SqL.of hg⟩, wa.g, _, 0, 0, .int x, rfl, rfl, hg, by decide, by decide, by simp [seqIndex?], rfl, ?_⟩
            have hW3 := hW2.setG xs
            refine ⟨_, rfl, wa.s, upd (upd H2 wa.g (.lst (xs.map V.int))) wa.s (.dK (kvW wa { wd with great := xs, rest := x })), rfl, ?_, ?_⟩
            · have := p_rest (wa := wa) (w := { wd with great := xs }) x
              rw [← this]
              exact DPut.k (k := .inr "rest") (v := .int x) hW3.kv (by show 4 < sizeLine; decide +kernel)
            · refine ⟨_, none, rfl, hW3.setR _, (kp2.upd (.inr (.inl rfl))).upd (.inl rfl), ?_, by first | trivial | rfl⟩
              unfold drawF
              rw [h0, hgr]
              rfl
      · have hb : decide (V.int wd.rest = V.int 0) = false := decide_eq_false fun z => h0 (by injection z)
        generalize decide (V.int wd.rest = V.int 0) = bv at hb ⊢
        subst hb
        simp only [Bool.false_eq_true, ↓reduceIte]
        refine ⟨wd, none, rfl, hW, .refl, ?_, by first | trivial | rfl⟩
        unfold drawF
        rw [if_neg h0]
end
end Iv

namespace Iv
open PySem L2 PyProof.Rows
open Evl (Ex)
def absI (i : Int) : Int := if i < 0 then -i else i
def greatF (ns : List Int) : List Int := (ns.filter fun c => decide (10 ^ 18 ≤ absI c)).map fun c => absI c - 10 ^ 18
def begunF (ns : List Int) : DW := ⟨greatF ns, ns.map absI, 0, 0⟩
def spBegun (K : PySem.W.Frag) : Sp := fun vs H Q _ => ∃ (a : Addr) (ns : List Int), vs = [.ref a] ∧ SqL K H a (ns.map V.int) ∧ ns.length ≤ 63 ∧ ∀ wa H', (∀ b o, H b = some o → H' b = some o) → H wa.s = none → H wa.g = none → H wa.c = none → RepW wa H' (begunF ns) → Q (.ref wa.s) H'
section
variable {P : Program} {w : World} {K : PySem.W.Frag} {mg : Str → Option Value} {base : Heap}
theorem scBe : FnScope ["script", "great", "cell"] ["script"] (defScope sBegun) := scOk_ok (by decide +kernel)
theorem m1 : ¬ (Str.ofString "great" = Str.ofString "cells") := by decide +kernel
theorem m2 : ¬ (Str.ofString "cells" = Str.ofString "great") := by decide +kernel
theorem m3 : ¬ (Str.ofString "rest" = Str.ofString "great") := by decide +kernel
theorem m4 : ¬ (Str.ofString "rest" = Str.ofString "cells") := by decide +kernel
theorem m5 : ¬ (Str.ofString "turn" = Str.ofString "great") := by decide +kernel
theorem m6 : ¬ (Str.ofString "turn" = Str.ofString "cells") := by decide +kernel
theorem merge_w (wa : WA) (wd : DW) : mergeK [] (kvW wa wd) = kvW wa wd := by
  simp [mergeK, kvW, putK, n1, n2, n3, n4, n5, n6, m1]
def ce (c : CC) (sc : Scope) (vs : List Nat) : Bool := c.blk sc vs
theorem blk_of {N : List Str} {sc scope : Scope} {vs : List Nat} (h : (CC.blk ⟨N, sc.names, none, [], []⟩ scope vs) = true) : BlkOk N sc scope (CC.ownOf ⟨N, sc.names, none, [], []⟩ vs) := by
  unfold CC.blk at h
  simp only [Bool.and_eq_true] at h
  obtain ⟨⟨⟨⟨h1, h2⟩, h3⟩, h4⟩, h5⟩ := h
  refine ⟨?_, fun y hy => ?_, fun q hq => ?_, fun y hy e => ?_, fun y hy e => ?_⟩
  · unfold isFunK at h1; split at h1
    · assumption
    · cases h1
  · exact of_decide_eq_true (List.all_eq_true.mp h2 y hy)
  · unfold CC.ownOf at hq
    obtain ⟨v, hv, rfl⟩ := List.mem_map.mp hq
    have := of_decide_eq_true (List.all_eq_true.mp h3 v hv)
    simp [List.getD_eq_getElem?_getD, List.getElem?_eq_getElem this]
  · have := List.all_eq_true.mp h4 y hy
    rw [e] at this
    simp only [Bool.or_eq_true, isFree, Bool.not_true, Bool.false_eq_true, false_or] at this
    rcases this with h | h
    · exact .inl (isCell_eq h)
    · exact .inr (isFree_eq h)
  · have := List.all_eq_true.mp h5 y hy
    simp only [Bool.or_eq_true, Bool.not_eq_true', decide_eq_true_eq, decide_eq_false_iff_not] at this
    rcases this with (h | h) | h
    · simp only [Bool.or_eq_false_iff] at h
      rcases e with e | e <;> rw [e] at h <;> simp [isLoc, isCell] at h
    · exact .inl h
    · exact .inr h
def scC : Scope := ⟨.function, [(".0", .local), ("cell", .local), ("abs", .globalImplicit)], false, false, []⟩
theorem blkBe : BlkOk ["script", "great", "cell"] (defScope sBegun) scC [("cell", 2)] := blk_of (N := ["script", "great", "cell"]) (vs := [2]) (by decide +kernel)
theorem greatF_len (ns : List Int) : (greatF ns).length ≤ ns.length := by
  unfold greatF
  rw [List.length_map]
  exact List.length_filter_le _ _
theorem greatF_app (l r : List Int) : greatF (l ++ r) = greatF l ++ greatF r := by
  unfold greatF
  rw [List.filter_append, List.map_append]
theorem greatF_yes {c : Int} (h : 10 ^ 18 ≤ absI c) : greatF [c] = [absI c - 10 ^ 18] := by
  unfold greatF
  rw [List.filter_cons, if_pos (decide_eq_true h)]
  rfl
theorem greatF_no {c : Int} (h : ¬ 10 ^ 18 ≤ absI c) : greatF [c] = [] := by
  unfold greatF
  rw [List.filter_cons, if_neg (by rw [decide_eq_true_eq]; exact h)]
  rfl
theorem ok_begun {f : Addr} {fd : FuncData} (F : Fun K "_law_begun" "_law_begun" sBegun f fd) (ma : mg "abs" = none) : FnOk P w K mg base CX0 1 f fd ["script"] (spBegun K) := by
  refine F.ok scBe (fun vs H Q E h => ?_) (fun cdv A outer s H vs Q E hr h => ?_)
  · obtain ⟨_, _, rfl, _⟩ := h
    rfl
  · obtain ⟨a, ns, rfl, hS, hlen, k⟩ := h
    refine ⟨_, pss_cons (ps_setLc (i := 1) rfl scBe.nd rfl rfl (sw_true rfl rfl rfl (by decide +kernel)) (pi_list (pv 0)) blkBe (fun _ _ _ _ _ => pg_name (i := 2) scBe.nd rfl (Or.inl rfl) (.inr rfl)) (fun _ _ _ _ _ => pts_one (pt_cmpR op_ge (pe_callB call_abs rfl ma (by decide +kernel) (pa_cons (pv 2) pa_nil)) (pe_op op_pow pe_int pe_int) (nomark _)))
        (fun _ _ _ _ _ => pe_op op_sub (pe_callB call_abs rfl ma (by decide +kernel) (pa_cons (pv 2) pa_nil)) (pe_op op_pow pe_int pe_int)))
      (pss_one (ps_ret (pe_disp (pps_cons pe_str (pv 1) (pps_cons pe_str (pe_lc rfl scBe.nd (pi_list (pv 0)) blkBe (fun _ _ _ _ _ => pg_name (i := 2) scBe.nd rfl (Or.inl rfl) (.inr rfl)) (fun _ _ _ _ _ => pts_nil) (fun _ _ _ _ _ => pe_callB call_abs rfl ma (by decide +kernel) (pa_cons (pv 2) pa_nil))) (pps_cons pe_str pe_int (pps_cons pe_str pe_int pps_nil)))) rfl rfl (by simp) (by decide)))), ?_⟩
    have hpow : ((10 : Int) ^ (18 : Int).toNat) = 10 ^ 18 := rfl
    refine ⟨_, rfl, a, rfl, ⟨_, hS⟩, fun D1 hD1 => ?_⟩
    have kp1 : ∀ b o, H b = some o → upd H D1 (.lst []) b = some o := fun b o e => by rw [upd_ne (ne_of_none e hD1)]; exact e
    refine lc_list (K := K) (a := a) (xs := ns.map V.int) (fun i H' => (∀ b o, H b = some o → H' b = some o) ∧ H' D1 = some (.lst ((greatF (ns.take i)).map V.int))) ⟨kp1, upd_same⟩ (fun i H' _ h => Evl.ex_l h.1 hS) ?_ ?_
    · rintro i x H' hx ⟨kp, hD⟩
      rw [List.getElem?_map] at hx
      obtain ⟨cl, hci, rfl⟩ := Option.map_eq_some_iff.mp hx
      refine ⟨rfl, ?_⟩
      refine ⟨_, rfl, cl, rfl, 10, 18, rfl, rfl, ⟨by decide, by decide, by decide⟩, _, _, rfl, rfl, _, rfl, ?_⟩
      by_cases hc : 10 ^ 18 ≤ absI cl
      · have hb : decide (10 ^ Int.toNat 18 ≤ if cl < 0 then -cl else cl) = true := decide_eq_true hc
        generalize decide (10 ^ Int.toNat 18 ≤ if cl < 0 then -cl else cl) = bv at hb ⊢
        subst hb
        simp only [↓reduceIte]
        refine ⟨_, rfl, cl, rfl, 10, 18, rfl, rfl, ⟨by decide, by decide, by decide⟩, _, _, rfl, rfl, _, hD, ?_, fun b o e => ?_, ?_⟩
        · rw [List.length_map]
          refine Nat.lt_of_le_of_lt (greatF_len _) (Nat.lt_of_le_of_lt ?_ (show 63 < sizeLine by decide +kernel))
          rw [List.length_take]; omega
        · rw [upd_ne (ne_of_none e hD1)]; exact kp b o e
        · rw [upd_same, List.take_add_one, hci, greatF_app]
          have : greatF (some cl).toList = [absI cl - 10 ^ 18] := greatF_yes hc
          rw [this, List.map_append]
          rfl
      · have hb : decide (10 ^ Int.toNat 18 ≤ if cl < 0 then -cl else cl) = false := decide_eq_false hc
        generalize decide (10 ^ Int.toNat 18 ≤ if cl < 0 then -cl else cl) = bv at hb ⊢
        subst hb
        simp only [Bool.false_eq_true, ↓reduceIte]
        refine ⟨kp, ?_⟩
        rw [hD, List.take_add_one, hci, greatF_app]
        have : greatF (some cl).toList = [] := greatF_no hc
        rw [this, List.append_nil]
    · rintro H' ⟨kp, hD⟩
      rw [List.length_map, List.take_length] at hD
      refine fun pa hpa => ?_
      refine ⟨_, rfl, ?_⟩
      have hpH : H pa = none := by
        cases e : H pa with
        | none => rfl
        | some o => rw [kp _ _ e] at hpa; cases hpa
      have hDp : D1 ≠ pa := ne_of_none hD hpa
      refine ⟨_, rfl, a, rfl, ⟨_, Evl.ex_l (fun b o e => by rw [upd_ne (ne_of_none e hpH)]; exact kp b o e) hS⟩, fun D2 hD2 => ?_⟩
      have hD2p : D2 ≠ pa := fun z => by rw [z, upd_same] at hD2; cases hD2
      have hD2' : H' D2 = none := by rw [upd_ne hD2p] at hD2; exact hD2
      have hD21 : D2 ≠ D1 := fun z => by rw [z, hD] at hD2'; cases hD2'
      have hD2H : H D2 = none := by
        cases e : H D2 with
        | none => rfl
        | some o => rw [kp _ _ e] at hD2'; cases hD2'
      refine lc_list (K := K) (a := a) (xs := ns.map V.int) (fun i H2 => (∀ b o, H b = some o → H2 b = some o) ∧ H2 D1 = some (.lst ((greatF ns).map V.int)) ∧ H2 pa = some (.dK []) ∧ H2 D2 = some (.lst (((ns.take i).map absI).map V.int)))
        ⟨fun b o e => by rw [upd_ne (ne_of_none e hD2H), upd_ne (ne_of_none e hpH)]; exact kp b o e, by rw [upd_ne hD21.symm, upd_ne hDp]; exact hD, by rw [upd_ne hD2p.symm]; exact upd_same, upd_same⟩ (fun i H' _ h => Evl.ex_l h.1 hS) ?_ ?_
      · rintro i x H2 hx ⟨kp2, h1, h2, h3⟩
        rw [List.getElem?_map] at hx
        obtain ⟨cl, hci, rfl⟩ := Option.map_eq_some_iff.mp hx
        refine ⟨rfl, ?_⟩
        unfold tYes
        simp only [↓reduceIte]
        refine ⟨_, rfl, cl, rfl, _, h3, ?_, fun b o e => ?_, ?_, ?_, ?_⟩
        · rw [List.length_map, List.length_map]
          refine Nat.lt_of_le_of_lt ?_ (show 63 < sizeLine by decide +kernel)
          rw [List.length_take]; omega
        · rw [upd_ne (ne_of_none e hD2H)]; exact kp2 b o e
        · rw [upd_ne hD21.symm]; exact h1
        · rw [upd_ne hD2p.symm]; exact h2
        · rw [upd_same, List.take_add_one, hci, List.map_append, List.map_append]
          rfl
      · rintro H2 ⟨kp2, h1, h2, h3⟩
        rw [List.length_map, List.take_length] at h3
        refine ⟨h2, kvW ⟨pa, D1, D2⟩ (begunF ns), rfl, by show 4 ≤ 15; decide, ?_⟩
        rw [merge_w]
        exact k ⟨pa, D1, D2⟩ _ (fun b o e => by rw [upd_ne (ne_of_none e hpH)]; exact kp2 b o e) hpH hD1 hD2H ⟨upd_same, by rw [upd_ne hDp]; exact h1, by rw [upd_ne hD2p]; exact h3, hD21.symm⟩
end
end Iv

namespace Iv
open PySem L2 PyProof.Rows
open Evl (Ex)
/-! ### the draw as one of the evaluator's calls -/
def isDrw : D → Bool
  | .dict [(.dict [], .none)] => true
  | _ => false
def drawG (ds : List D) (w : DW) : Option (D × DW) := match ds with
  | [t, .int room] => if isDrw t = true ∧ 0 ≤ w.turn ∧ w.turn < 2 ^ 40 ∧ 0 < room ∧ room < 2 ^ 64 then some (.int (drawF w room).1, (drawF w room).2) else none
  | _ => none
def prim : Prim := fun x => if x = ("_law_draw" : Str) then some drawG else none
theorem isDrw_eq {d : D} (h : isDrw d = true) : d = drwTok := by
  unfold isDrw at h
  split at h
  · rfl
  · cases h
theorem R_drw {K : PySem.W.Frag} {sa : Addr} {F : Hp} {v : V} (h : R K sa F v drwTok) : v = .ref sa := by
  generalize hd : drwTok = d at h
  cases h with
  | drw => rfl
  | dic h1 h2 =>
    unfold drwTok at hd
    cases hd
    generalize hx : ([(PyData.dict [], PyData.none)] : List (D × D)) = ds at h2
    cases h2 with
    | nil => cases hx
    | cons a b =>
      rename_i kk _ _ _ _
      simp only [List.cons.injEq, Prod.mk.injEq] at hx
      obtain ⟨⟨hx, _⟩, _⟩ := hx
      cases kk <;> cases hx
  | scr h => unfold drwTok scrD at hd; cases hd
  | _ => unfold drwTok at hd; cases hd
section
variable {P : Program} {w : World} {K : PySem.W.Frag} {mg : Str → Option Value} {base : Heap}
theorem draw_hand {f : Addr} {fd : FuncData} (F : FnOk P w K mg base CX0 2 f fd ["state", "room"] spDraw) : FnOk P w K mg base CX0 2 f fd ["state", "room"] (spF K (fun _ => drawG) "_law_draw") := by
  have key : ∀ vs H (Q : VK) E, spF K (fun _ => drawG) "_law_draw" vs H Q E → spDraw vs H Q E := by
    intro vs H Q E ⟨wa, F, wd, ds, dd, w', e1, e2, e3, e4, e5, q⟩
    have e5 : drawG ds wd = some (dd, w') := e5
    unfold drawG at e5
    split at e5
    case h_2 => cases e5
    split at e5 <;> cases e5
    rename_i t room hc
    obtain ⟨c1, c2, c3, c4, c5⟩ := hc
    obtain rfl := isDrw_eq c1
    cases e4 with
    | cons r1 r2 =>
      cases r2 with
      | cons r2 r3 =>
        cases r3
        cases r2
        obtain rfl := R_drw r1
        refine ⟨wa, wd, room, rfl, e2, c2, c3, c4, c5, fun H' kp hW => q _ F H' (fun _ _ z => z) (fun b o z => kp b o (e1 b o z) fun i => by rw [e3 b i] at z; cases z) kp (fun _ _ z => .inl z) hW e3 (.int _)⟩
  exact ⟨fun vs H Q E h => F.len vs H Q E (key vs H Q E h), fun A outer s H args us vs Q E h1 h2 h3 h4 q => F.run A outer s H args us vs Q E h1 h2 h3 h4 (key vs H Q E q)⟩
theorem prim_some {x : Str} {g : List D → DW → Option (D × DW)} (h : prim x = some g) : x = "_law_draw" ∧ g = drawG := by
  unfold prim at h
  split at h
  · cases h; exact ⟨by assumption, rfl⟩
  · cases h
/-! ### the law -/
def spLaw (K : PySem.W.Frag) : Sp := fun vs H Q _ => ∃ (a : Addr) (ns : List Int), vs = [.ref a] ∧ SqL K H a (ns.map V.int) ∧ ns.length ≤ 63 ∧ ∀ H', Q (.bl true) H'
theorem ok_law {N : List Str} {k fu : Nat} {T : Str → Option Fn} {fns : List Str} {cs : List (Str × Int)} {ms : List St} {f fB : Addr} {fd fdB : FuncData} (F : Fun K "law" "law" sLaw f fd) (sc : scOk N ["script"] (defScope sLaw) = true)
    (FB : FnOk P w K mg base CX0 k fB fdB ["script"] (spBegun K)) (mb : mg "_law_begun" = some (.ref fB)) (kb : PySem.W.keepIn K (Value.ref fB) = true) (bb : L2.Binds K fdB ["script"] [])
    (h1 : N[1]? = some (Str.ofString "draws")) (hloc : List.lookup ("draws" : Str) (defScope sLaw).names = some NameKind.local) (h0 : N[0]? = some (Str.ofString "script")) (hs : List.lookup ("script" : Str) (defScope sLaw).names = some NameKind.local) (hgB : List.lookup ("_law_begun" : Str) (defScope sLaw).names = some NameKind.globalImplicit)
    {p1 p2 p3 p4 p5 : Pos} {rest : List Stmt} (hb : defBody sLaw = .Assign [.Name "draws" p1] (.Call (.Name "_law_begun" p2) [.Name "script" p3] [] p4) p5 :: rest) (hk : chkSs ms ⟨N, (defScope sLaw).names, none, fns, cs⟩ rest = true)
    (hbl : ∀ x, x ∈ blNames → mg x = none) (hcs : ∀ x n, cs.lookup x = some n → ∃ u, mg x = some u ∧ RelV (.int n) u)
    (hc : ∀ x, x ∈ fns → ∃ f fd ps, FnOk P w K mg base CX0 k f fd ps (spF K (callF prim T fu k) x) ∧ mg x = some (Value.ref f) ∧ PySem.W.keepIn K (Value.ref f) = true ∧ L2.Binds K fd ps [])
    (plain : ∀ ns : List Int, ns.length ≤ 63 → ∃ s', evSs (callF prim T fu k) fu ms ⟨([Ent.val (scrD ns)] ++ List.replicate (N.length - 1) Ent.no).set 1 (Ent.val drwTok), begunF ns⟩ = some (.ret (.bool true), s')) :
    FnOk P w K mg base CX0 (k + 1) f fd ["script"] (spLaw K) := by
  have sc' := scOk_ok sc
  refine F.ok sc' (fun vs H Q E h => ?_) (fun cdv A outer s H vs Q E hr h => ?_)
  · obtain ⟨_, _, rfl, _⟩ := h
    rfl
  · obtain ⟨a, ns, rfl, hS, hlen, q⟩ := h
    rw [hb]
    let X := (cxOf CX0 P w K mg base N "law" (defScope sLaw) f cdv A outer s H E).nox
    have P2 : PSs X rest (fun De σ H' => ∃ p, Fits p X k ⟨N, (defScope sLaw).names, none, fns, cs⟩ ∧ tS p (evSs p.Φ p.fu ms) De σ H') := by
      refine ⟨fun pins s σ H De I h => ?_⟩
      obtain ⟨p, ft, h⟩ := h
      exact (chkSs_ok PassesOwn.never ft ms hk).run pins s σ H De I h
    have pv0 : PE X (.Name "script" p3) (tVar 0) := pe_var h0 (.inl hs) (by decide +kernel) (by decide +kernel)
    refine ⟨_, pss_cons (ps_set (i := 1) sc'.nd h1 (Or.inl hloc) (pe_call FB hr hgB mb kb bb .nil pass0 (pa_cons pv0 pa_nil)) rfl (.inl rfl)) P2, ?_⟩
    refine ⟨_, rfl, a, ns, rfl, hS, hlen, fun wa H' kp f1 f2 f3 hW => ?_⟩
    obtain ⟨s', hev⟩ := plain ns hlen
    -- what is known of the script's list
    obtain ⟨F0, e0, hF0, hSF⟩ : ∃ F0 : Hp, Ex F0 H' ∧ (∀ b, InW wa b → F0 b = none) ∧ SqL K F0 a (ns.map V.int) := by
      rcases hS with hS | hS
      · refine ⟨fun b => if b = a then H b else none, fun b o z => ?_, fun b hb => ?_, .inl ?_⟩
        · simp only at z
          split at z
          · exact kp b o z
          · cases z
        · simp only
          split
          · rcases hb with rfl | rfl | rfl
            · exact f1
            · exact f2
            · exact f3
          · rfl
        · rcases hS with h | ⟨o, h⟩
          · exact .inl (by simp [h])
          · exact .inr ⟨o, by simp [h]⟩
      · exact ⟨fun _ => none, fun _ _ z => (by cases z), fun _ _ => rfl, .inr hS⟩
    let p : Pm := ⟨K, wa, H', F0, callF prim T fu k, fu⟩
    have fits : Fits p X k ⟨N, (defScope sLaw).names, none, fns, cs⟩ := ⟨rfl, sc'.nd, rfl, sc'.kind, rfl, rfl, hr, fun _ _ => rfl, hbl, fun x hx => ⟨hc x hx, hr⟩, hcs⟩
    have hN : 1 ≤ N.length := by
      have := (List.getElem?_eq_some_iff.mp h1).1
      omega
    have g0 := good_start (p := p) (F := F0) (H := H') (vs := [.ref a]) (ds := [scrD ns]) (w0 := begunF ns) (N := N) (n := N.length) rfl rfl e0 hW hF0 (.cons (.scr hSF) .nil) rfl hN
    have g1 := g0.setV' 1 (v := .ref wa.s) (d := drwTok) .drw
    refine ⟨p, fits, F0, _, .ret (.bool true), s', g1, hev, fun σ' F' H2 v x g' r => ?_⟩
    cases r
    exact q H2
end
end Iv

namespace Iv
open PySem L2
def fn_is_whole : Fn := ⟨1, 1, [
  .ret (.and (.isi .int (.var 0)) (.not (.isi .bool (.var 0))))]⟩
def fd_is_whole : FD := ⟨(Str.ofString "is_whole"), top 9, [(Str.ofString "value")], fn_is_whole⟩
def fn_is_piece : Fn := ⟨1, 2, [
  .ifs (.or (.not (.isi .tuple (.var 0))) (.or (.op .ne (.bf .len (.var 0)) (.cst (.int 2))) (.not (.bf .all (.lc [1] (.nm 1) (.sq (.var 0)) (.cst (.bool true)) (.call (Str.ofString "is_whole") (.cons (.var 1) .nil))))))) [.ret (.cst (.bool false))] [],
  .ret (.and (.chain .le .lt (.cst (.int 0)) (.idx (.var 0) (.cst (.int 0))) (.cst (.int 4))) (.chain .le .le (.cst (.int 1)) (.idx (.var 0) (.cst (.int 1))) (.cst (.int 1000000000000))))]⟩
def fd_is_piece : FD := ⟨(Str.ofString "is_piece"), top 10, [(Str.ofString "value"), (Str.ofString "own")], fn_is_piece⟩
def fn_many_colours : Fn := ⟨1, 3, [
  .ret (.op .add (.bf .maxL (.lc [1, 2] (.tp [(.nm 1), (.nm 2)]) (.sq (.var 0)) (.cst (.bool true)) (.var 1))) (.cst (.int 1)))]⟩
def fd_many_colours : FD := ⟨(Str.ofString "many_colours"), top 11, [(Str.ofString "row"), (Str.ofString "colour"), (Str.ofString "length")], fn_many_colours⟩
def fn_is_row : Fn := ⟨1, 4, [
  .ifs (.or (.not (.isi .tuple (.var 0))) (.or (.not (.chain .le .le (.cst (.int 1)) (.bf .len (.var 0)) (.cst (.int 16)))) (.not (.bf .all (.lc [3] (.nm 3) (.sq (.var 0)) (.cst (.bool true)) (.call (Str.ofString "is_piece") (.cons (.var 3) .nil))))))) [.ret (.cst (.bool false))] [],
  .ret (.op .eq (.bf .len (.dc [1, 2] (.tp [(.nm 1), (.nm 2)]) (.sq (.var 0)) (.cst (.bool true)) (.var 1) (.cst (.bool true)))) (.call (Str.ofString "many_colours") (.cons (.var 0) .nil)))]⟩
def fd_is_row : FD := ⟨(Str.ofString "is_row"), top 12, [(Str.ofString "value"), (Str.ofString "colour"), (Str.ofString "length"), (Str.ofString "own")], fn_is_row⟩
def fn_need_row : Fn := ⟨1, 1, [
  .ifs (.not (.call (Str.ofString "is_row") (.cons (.var 0) .nil))) [.fail] []]⟩
def fd_need_row : FD := ⟨(Str.ofString "need_row"), top 13, [(Str.ofString "row")], fn_need_row⟩
def fn_are_ascending : Fn := ⟨2, 5, [
  .ifs (.or (.not (.isi .tuple (.var 0))) (.not (.bf .all (.lc [4] (.nm 4) (.sq (.var 0)) (.cst (.bool true)) (.and (.call (Str.ofString "is_whole") (.cons (.var 4) .nil)) (.chain .le .le (.cst (.int 0)) (.var 4) (.var 1))))))) [.ret (.cst (.bool false))] [],
  .ret (.bf .all (.lc [2, 3] (.tp [(.nm 2), (.nm 3)]) (.zp (.var 0) (.slF (.var 0) (.cst (.int 1)))) (.cst (.bool true)) (.op .lt (.var 2) (.var 3))))]⟩
def fd_are_ascending : FD := ⟨(Str.ofString "are_ascending"), top 14, [(Str.ofString "value"), (Str.ofString "most"), (Str.ofString "one"), (Str.ofString "other"), (Str.ofString "own")], fn_are_ascending⟩
def fn_need_colours : Fn := ⟨2, 2, [
  .ifs (.not (.call (Str.ofString "are_ascending") (.cons (.var 1) (.cons (.op .sub (.call (Str.ofString "many_colours") (.cons (.var 0) .nil)) (.cst (.int 1))) .nil)))) [.fail] []]⟩
def fd_need_colours : FD := ⟨(Str.ofString "need_colours"), top 15, [(Str.ofString "row"), (Str.ofString "colours")], fn_need_colours⟩
def fn_need_ends : Fn := ⟨2, 2, [
  .ifs (.not (.call (Str.ofString "are_ascending") (.cons (.var 1) (.cons (.bf .len (.var 0)) .nil)))) [.fail] []]⟩
def fd_need_ends : FD := ⟨(Str.ofString "need_ends"), top 16, [(Str.ofString "row"), (Str.ofString "fixed")], fn_need_ends⟩
def fn_lengths_leaned : Fn := ⟨1, 7, [
  .par [(1, false), (2, false), (3, true)] (.cons (.cst (.int 1)) (.cons (.cst (.int 1)) (.cons (.lst .nil) .nil))),
  .fors (.nm 4) (.sq (.var 0)) [.asg 1 (.op .mul (.var 1) (.cst (.int 4)))],
  .fors (.tp [(.nm 5), (.nm 6)]) (.sq (.var 0)) [.app 3 (.op .add (.op .mul (.var 6) (.var 1)) (.var 2)), .asg 2 (.op .mul (.var 2) (.cst (.int 3)))],
  .ret (.bf .tuple (.var 3))]⟩
def fd_lengths_leaned : FD := ⟨(Str.ofString "lengths_leaned"), top 17, [(Str.ofString "row"), (Str.ofString "whole"), (Str.ofString "lean"), (Str.ofString "found"), (Str.ofString "piece"), (Str.ofString "colour"), (Str.ofString "length")], fn_lengths_leaned⟩
def fn_turned : Fn := ⟨1, 1, [
  .ex (.call (Str.ofString "need_row") (.cons (.var 0) .nil)),
  .ret (.rev (.var 0))]⟩
def fd_turned : FD := ⟨(Str.ofString "turned"), top 18, [(Str.ofString "row")], fn_turned⟩
def fn_numbers_of : Fn := ⟨2, 4, [
  .ret (.lc [2, 3] (.tp [(.nm 2), (.nm 3)]) (.en (.var 0)) (.op .eq (.idx (.var 3) (.cst (.int 0))) (.var 1)) (.var 2))]⟩
def fd_numbers_of : FD := ⟨(Str.ofString "numbers_of"), top 20, [(Str.ofString "row"), (Str.ofString "colour"), (Str.ofString "number"), (Str.ofString "piece")], fn_numbers_of⟩
def fn_sign_at : Fn := ⟨3, 5, [
  .asg 3 (.op .add (.lc [4] (.nm 4) (.sq (.var 0)) (.op .le (.var 4) (.var 2)) (.var 4)) (.lc [4] (.nm 4) (.sq (.var 1)) (.op .lt (.var 4) (.var 2)) (.var 4))),
  .ret (.ife (.op .eq (.op .mod (.bf .len (.var 3)) (.cst (.int 2))) (.cst (.int 0))) (.cst (.int 1)) (.neg (.cst (.int 1))))]⟩
def fd_sign_at : FD := ⟨(Str.ofString "sign_at"), top 22, [(Str.ofString "fixed"), (Str.ofString "choice"), (Str.ofString "number"), (Str.ofString "ahead"), (Str.ofString "own")], fn_sign_at⟩
def fn_rest_of : Fn := ⟨5, 8, [
  .par [(5, false), (6, false)] (.cons (.idx (.idx (.var 0) (.var 4)) (.cst (.int 0))) (.cons (.cst (.int 0)) .nil)),
  .fors (.nm 7) (.sq (.call (Str.ofString "numbers_of") (.cons (.var 0) (.cons (.var 5) .nil)))) [.ifs (.op .ne (.var 7) (.var 4)) [.asg 6 (.op .add (.var 6) (.op .mul (.call (Str.ofString "sign_at") (.cons (.var 2) (.cons (.var 3) (.cons (.var 7) .nil)))) (.idx (.var 1) (.var 7))))] []],
  .ret (.var 6)]⟩
def fd_rest_of : FD := ⟨(Str.ofString "rest_of"), top 23, [(Str.ofString "row"), (Str.ofString "lengths"), (Str.ofString "fixed"), (Str.ofString "choice"), (Str.ofString "chosen"), (Str.ofString "colour"), (Str.ofString "found"), (Str.ofString "number")], fn_rest_of⟩
def fn_is_right_choice : Fn := ⟨4, 5, [
  .ret (.bf .all (.lc [4] (.nm 4) (.sq (.var 3)) (.cst (.bool true)) (.op .lt (.bf .abs (.call (Str.ofString "rest_of") (.cons (.var 0) (.cons (.var 1) (.cons (.var 2) (.cons (.var 3) (.cons (.var 4) .nil))))))) (.idx (.var 1) (.var 4)))))]⟩
def fd_is_right_choice : FD := ⟨(Str.ofString "is_right_choice"), top 24, [(Str.ofString "row"), (Str.ofString "lengths"), (Str.ofString "fixed"), (Str.ofString "choice"), (Str.ofString "own")], fn_is_right_choice⟩
def fn_choices_of : Fn := ⟨2, 6, [
  .asg 2 (.lst (.cons (.tup .nil) .nil)),
  .fors (.nm 3) (.sq (.var 1)) [.asg 2 (.lc2 [4, 5] [5] (.nm 4) (.sq (.var 2)) (.cst (.bool true)) (.nm 5) (.sq (.call (Str.ofString "numbers_of") (.cons (.var 0) (.cons (.var 3) .nil)))) (.cst (.bool true)) (.op .add (.var 4) (.tup (.cons (.var 5) .nil))))],
  .ret (.bf .sorted (.lc [4] (.nm 4) (.sq (.var 2)) (.cst (.bool true)) (.bf .tuple (.bf .sorted (.var 4)))))]⟩
def fd_choices_of : FD := ⟨(Str.ofString "choices_of"), top 25, [(Str.ofString "row"), (Str.ofString "colours"), (Str.ofString "found"), (Str.ofString "colour"), (Str.ofString "own"), (Str.ofString "number")], fn_choices_of⟩
def fn_transversals_in : Fn := ⟨3, 5, [
  .asg 3 (.call (Str.ofString "lengths_leaned") (.cons (.var 0) .nil)),
  .ret (.bf .tuple (.lc [4] (.nm 4) (.sq (.call (Str.ofString "choices_of") (.cons (.var 0) (.cons (.var 1) .nil)))) (.call (Str.ofString "is_right_choice") (.cons (.var 0) (.cons (.var 3) (.cons (.var 2) (.cons (.var 4) .nil))))) (.var 4)))]⟩
def fd_transversals_in : FD := ⟨(Str.ofString "transversals_in"), top 26, [(Str.ofString "row"), (Str.ofString "colours"), (Str.ofString "fixed"), (Str.ofString "lengths"), (Str.ofString "own")], fn_transversals_in⟩
def fn_need_setting : Fn := ⟨3, 3, [
  .ex (.call (Str.ofString "need_row") (.cons (.var 0) .nil)),
  .ex (.call (Str.ofString "need_colours") (.cons (.var 0) (.cons (.var 1) .nil))),
  .ex (.call (Str.ofString "need_ends") (.cons (.var 0) (.cons (.var 2) .nil)))]⟩
def fd_need_setting : FD := ⟨(Str.ofString "need_setting"), top 27, [(Str.ofString "row"), (Str.ofString "colours"), (Str.ofString "fixed")], fn_need_setting⟩
def fn_transversals : Fn := ⟨3, 3, [
  .ex (.call (Str.ofString "need_setting") (.cons (.var 0) (.cons (.var 1) (.cons (.var 2) .nil)))),
  .ret (.call (Str.ofString "transversals_in") (.cons (.var 0) (.cons (.var 1) (.cons (.var 2) .nil))))]⟩
def fd_transversals : FD := ⟨(Str.ofString "transversals"), top 28, [(Str.ofString "row"), (Str.ofString "colours"), (Str.ofString "fixed")], fn_transversals⟩
def fn_colours_cut : Fn := ⟨2, 3, [
  .ret (.bf .tuple (.bf .sorted (.lc [2] (.nm 2) (.sq (.var 1)) (.cst (.bool true)) (.idx (.idx (.var 0) (.var 2)) (.cst (.int 0))))))]⟩
def fd_colours_cut : FD := ⟨(Str.ofString "colours_cut"), top 29, [(Str.ofString "row"), (Str.ofString "choice"), (Str.ofString "own")], fn_colours_cut⟩
def fn_is_choice_of : Fn := ⟨3, 4, [
  .ifs (.not (.call (Str.ofString "are_ascending") (.cons (.var 2) (.cons (.op .sub (.bf .len (.var 0)) (.cst (.int 1))) .nil)))) [.ret (.cst (.bool false))] [],
  .ifs (.op .lt (.bf .len (.dc [3] (.nm 3) (.sq (.var 2)) (.cst (.bool true)) (.idx (.idx (.var 0) (.var 3)) (.cst (.int 0))) (.cst (.bool true)))) (.bf .len (.var 2))) [.ret (.cst (.bool false))] [],
  .ret (.call (Str.ofString "is_right_choice") (.cons (.var 0) (.cons (.call (Str.ofString "lengths_leaned") (.cons (.var 0) .nil)) (.cons (.var 1) (.cons (.var 2) .nil)))))]⟩
def fd_is_choice_of : FD := ⟨(Str.ofString "is_choice_of"), top 30, [(Str.ofString "row"), (Str.ofString "fixed"), (Str.ofString "value"), (Str.ofString "own")], fn_is_choice_of⟩
def fn_is_transversal : Fn := ⟨4, 4, [
  .ex (.call (Str.ofString "need_setting") (.cons (.var 0) (.cons (.var 1) (.cons (.var 2) .nil)))),
  .ret (.and (.call (Str.ofString "is_choice_of") (.cons (.var 0) (.cons (.var 2) (.cons (.var 3) .nil)))) (.op .eq (.call (Str.ofString "colours_cut") (.cons (.var 0) (.cons (.var 3) .nil))) (.var 1)))]⟩
def fd_is_transversal : FD := ⟨(Str.ofString "is_transversal"), top 31, [(Str.ofString "row"), (Str.ofString "colours"), (Str.ofString "fixed"), (Str.ofString "value")], fn_is_transversal⟩
def fn_corners_in : Fn := ⟨2, 5, [
  .asgO 2 (.lst .nil),
  .fors (.nm 3) (.rg1 (.op .add (.bf .len (.var 0)) (.cst (.int 1)))) [.ext 2 (.lc [4] (.nm 4) (.sq (.call (Str.ofString "transversals_in") (.cons (.var 0) (.cons (.var 1) (.cons (.tup (.cons (.var 3) .nil)) .nil))))) (.cst (.bool true)) (.tup (.cons (.var 3) (.cons (.var 4) .nil))))],
  .ret (.bf .tuple (.var 2))]⟩
def fd_corners_in : FD := ⟨(Str.ofString "corners_in"), top 33, [(Str.ofString "row"), (Str.ofString "colours"), (Str.ofString "found"), (Str.ofString "end"), (Str.ofString "choice")], fn_corners_in⟩
def fn_corners_of : Fn := ⟨2, 2, [
  .ex (.call (Str.ofString "need_row") (.cons (.var 0) .nil)),
  .ex (.call (Str.ofString "need_colours") (.cons (.var 0) (.cons (.var 1) .nil))),
  .ret (.call (Str.ofString "corners_in") (.cons (.var 0) (.cons (.var 1) .nil)))]⟩
def fd_corners_of : FD := ⟨(Str.ofString "corners_of"), top 34, [(Str.ofString "row"), (Str.ofString "colours")], fn_corners_of⟩
def fn_law_st_sums : Fn := ⟨2, 7, [
  .par [(2, true), (3, true)] (.cons (.rep (.cons (.cst (.int 0)) .nil) (.call (Str.ofString "_law_many") (.cons (.var 0) .nil))) (.cons (.lst .nil) .nil)),
  .fors (.tp [(.tp [(.nm 5), (.nm 6)]), (.nm 4)]) (.zp (.var 0) (.var 1)) [.app 3 (.bf .tuple (.var 2)), .setI 2 (.var 5) (.op .add (.idx (.var 2) (.var 5)) (.var 4))],
  .ret (.op .add (.var 3) (.lst (.cons (.bf .tuple (.var 2)) .nil)))]⟩
def fd_law_st_sums : FD := ⟨(Str.ofString "_law_st_sums"), top 36, [(Str.ofString "row"), (Str.ofString "lengths"), (Str.ofString "here"), (Str.ofString "found"), (Str.ofString "length"), (Str.ofString "colour"), (Str.ofString "own")], fn_law_st_sums⟩
def fn_law_st_offsets : Fn := ⟨4, 18, [
  .asg 4 (.call (Str.ofString "_law_st_sums") (.cons (.var 0) (.cons (.var 1) .nil))),
  .asg 5 (.bf .sorted (.op .add (.lc [13] (.nm 13) (.sq (.var 2)) (.cst (.bool true)) (.tup (.cons (.var 13) (.cons (.cst (.int 0)) .nil)))) (.lc [14] (.nm 14) (.sq (.var 3)) (.cst (.bool true)) (.tup (.cons (.var 14) (.cons (.cst (.int 1)) .nil)))))),
  .asg 6 (.ife (.op .eq (.op .mod (.bf .int (.bf .len (.var 5))) (.cst (.int 2))) (.cst (.int 1))) (.cst (.int 1)) (.neg (.cst (.int 1)))),
  .asgO 7 (.disp .nil),
  .fors (.tp [(.nm 8), (.tp [(.nm 9), (.nm 10)])]) (.en (.var 5)) [.ifs (.op .eq (.var 10) (.cst (.int 1))) [.asg 11 (.idx (.idx (.var 0) (.var 9)) (.cst (.int 0))), .asg 12 (.bf .sum (.lc [15, 16, 17] (.tp [(.nm 15), (.tp [(.nm 16), (.nm 17)])]) (.en (.var 5)) (.cst (.bool true)) (.op .mul (.op .mul (.cst (.int 2)) (.idx (.idx (.var 4) (.var 16)) (.var 11))) (.ife (.op .eq (.op .mod (.bf .int (.var 15)) (.cst (.int 2))) (.cst (.int 0))) (.cst (.int 1)) (.neg (.cst (.int 1))))))), .setI 7 (.var 9) (.op .mul (.op .sub (.op .mul (.var 6) (.idx (.idx (.var 4) (.neg (.cst (.int 1)))) (.var 11))) (.var 12)) (.ife (.op .eq (.op .mod (.bf .int (.var 8)) (.cst (.int 2))) (.cst (.int 0))) (.cst (.int 1)) (.neg (.cst (.int 1)))))] []],
  .ret (.var 7)]⟩
def fd_law_st_offsets : FD := ⟨(Str.ofString "_law_st_offsets"), top 37, [(Str.ofString "row"), (Str.ofString "lengths"), (Str.ofString "fixed"), (Str.ofString "choice"), (Str.ofString "sums"), (Str.ofString "marks"), (Str.ofString "turn"), (Str.ofString "found"), (Str.ofString "spot"), (Str.ofString "mark"), (Str.ofString "kind"), (Str.ofString "colour"), (Str.ofString "whole"), (Str.ofString "end"), (Str.ofString "number"), (Str.ofString "place"), (Str.ofString "other"), (Str.ofString "own")], fn_law_st_offsets⟩
def fn_law_st_is : Fn := ⟨3, 6, [
  .asg 3 (.call (Str.ofString "_law_leaned") (.cons (.var 0) .nil)),
  .asg 4 (.call (Str.ofString "_law_st_offsets") (.cons (.var 0) (.cons (.var 3) (.cons (.var 1) (.cons (.var 2) .nil))))),
  .ret (.op .eq (.lc [5] (.nm 5) (.sq (.var 2)) (.not (.chain .lt .lt (.cst (.int 0)) (.idx (.var 4) (.var 5)) (.op .mul (.cst (.int 2)) (.idx (.var 3) (.var 5))))) (.cst (.int 1))) (.lst .nil))]⟩
def fd_law_st_is : FD := ⟨(Str.ofString "_law_st_is"), top 38, [(Str.ofString "row"), (Str.ofString "fixed"), (Str.ofString "choice"), (Str.ofString "leaned"), (Str.ofString "offsets"), (Str.ofString "number")], fn_law_st_is⟩
def fn_law_st_all : Fn := ⟨3, 4, [
  .ret (.bf .tuple (.lc [3] (.nm 3) (.sq (.call (Str.ofString "_law_choices") (.cons (.var 0) (.cons (.var 1) .nil)))) (.call (Str.ofString "_law_st_is") (.cons (.var 0) (.cons (.var 2) (.cons (.var 3) .nil)))) (.var 3)))]⟩
def fd_law_st_all : FD := ⟨(Str.ofString "_law_st_all"), top 39, [(Str.ofString "row"), (Str.ofString "colours"), (Str.ofString "fixed"), (Str.ofString "own")], fn_law_st_all⟩
def fn_law_st_row : Fn := ⟨3, 9, [
  .asg 3 (.op .add (.cst (.int 1)) (.call (Str.ofString "_law_draw") (.cons (.var 0) (.cons (.var 2) .nil)))),
  .par [(4, false), (5, false)] (.cons (.op .add (.var 3) (.call (Str.ofString "_law_draw") (.cons (.var 0) (.cons (.op .add (.op .sub (.var 1) (.var 3)) (.cst (.int 1))) .nil)))) (.cons (.call (Str.ofString "_law_draw") (.cons (.var 0) (.cons (.cst (.int 4)) .nil))) .nil)),
  .asg 6 (.lc [8] (.nm 8) (.rg1 (.var 4)) (.cst (.bool true)) (.ife (.op .lt (.var 8) (.var 3)) (.var 8) (.call (Str.ofString "_law_draw") (.cons (.var 0) (.cons (.var 3) .nil))))),
  .asg 6 (.ife (.op .eq (.var 5) (.cst (.int 0))) (.lc [8] (.nm 8) (.rg1 (.var 4)) (.cst (.bool true)) (.op .mod (.bf .int (.var 8)) (.var 3))) (.call (Str.ofString "_law_shuffled") (.cons (.var 0) (.cons (.var 6) .nil)))),
  .asg 7 (.call (Str.ofString "_law_pick") (.cons (.var 0) (.cons (.lst (.cons (.cst (.int 1)) (.cons (.cst (.int 2)) (.cons (.cst (.int 5)) (.cons (.cst (.int 20)) (.cons (.op .pow (.cst (.int 10)) (.cst (.int 6))) (.cons (.op .pow (.cst (.int 10)) (.cst (.int 12))) .nil))))))) .nil))),
  .ret (.bf .tuple (.lc [8] (.nm 8) (.sq (.var 6)) (.cst (.bool true)) (.tup (.cons (.var 8) (.cons (.op .add (.cst (.int 1)) (.call (Str.ofString "_law_draw") (.cons (.var 0) (.cons (.var 7) .nil)))) .nil)))))]⟩
def fd_law_st_row : FD := ⟨(Str.ofString "_law_st_row"), top 40, [(Str.ofString "draws"), (Str.ofString "pieces"), (Str.ofString "most"), (Str.ofString "many"), (Str.ofString "long"), (Str.ofString "way"), (Str.ofString "colours"), (Str.ofString "room"), (Str.ofString "own")], fn_law_st_row⟩
def fn_law_pick : Fn := ⟨2, 2, [
  .ret (.idx (.var 1) (.call (Str.ofString "_law_draw") (.cons (.var 0) (.cons (.bf .len (.var 1)) .nil))))]⟩
def fd_law_pick : FD := ⟨(Str.ofString "_law_pick"), top 44, [(Str.ofString "state"), (Str.ofString "some")], fn_law_pick⟩
def fn_law_shuffled : Fn := ⟨2, 4, [
  .par [(2, true), (3, true)] (.cons (.bf .list (.var 1)) (.cons (.lst .nil) .nil)),
  .whl (.op .ne (.var 2) (.lst .nil)) [.app 3 (.pop 2 (.call (Str.ofString "_law_draw") (.cons (.var 0) (.cons (.bf .len (.var 2)) .nil))))],
  .ret (.var 3)]⟩
def fd_law_shuffled : FD := ⟨(Str.ofString "_law_shuffled"), top 45, [(Str.ofString "state"), (Str.ofString "some"), (Str.ofString "left"), (Str.ofString "found")], fn_law_shuffled⟩
def fn_law_many : Fn := ⟨1, 3, [
  .ret (.op .add (.bf .maxL (.lc [1, 2] (.tp [(.nm 1), (.nm 2)]) (.sq (.var 0)) (.cst (.bool true)) (.var 1))) (.cst (.int 1)))]⟩
def fd_law_many : FD := ⟨(Str.ofString "_law_many"), top 46, [(Str.ofString "row"), (Str.ofString "colour"), (Str.ofString "length")], fn_law_many⟩
def fn_law_leaned : Fn := ⟨1, 7, [
  .par [(1, true), (2, false), (3, false)] (.cons (.lst .nil) (.cons (.cst (.int 1)) (.cons (.cst (.int 1)) .nil))),
  .fors (.nm 4) (.sq (.var 0)) [.asg 2 (.op .mul (.var 2) (.cst (.int 4)))],
  .fors (.tp [(.nm 5), (.nm 6)]) (.sq (.var 0)) [.app 1 (.op .add (.op .mul (.var 6) (.var 2)) (.var 3)), .asg 3 (.op .mul (.var 3) (.cst (.int 3)))],
  .ret (.var 1)]⟩
def fd_law_leaned : FD := ⟨(Str.ofString "_law_leaned"), top 47, [(Str.ofString "row"), (Str.ofString "found"), (Str.ofString "power"), (Str.ofString "lean"), (Str.ofString "own"), (Str.ofString "colour"), (Str.ofString "length")], fn_law_leaned⟩
def fn_law_choices : Fn := ⟨2, 7, [
  .asg 2 (.lst (.cons (.tup .nil) .nil)),
  .fors (.nm 3) (.sq (.var 1)) [.asg 4 (.lst .nil), .fors (.nm 5) (.sq (.var 2)) [.asg 4 (.op .add (.var 4) (.lc [6] (.nm 6) (.rg1 (.bf .len (.var 0))) (.op .eq (.idx (.idx (.var 0) (.var 6)) (.cst (.int 0))) (.var 3)) (.op .add (.var 5) (.tup (.cons (.var 6) .nil)))))], .asg 2 (.var 4)],
  .ret (.bf .sorted (.lc [5] (.nm 5) (.sq (.var 2)) (.cst (.bool true)) (.bf .tuple (.bf .sorted (.var 5)))))]⟩
def fd_law_choices : FD := ⟨(Str.ofString "_law_choices"), top 48, [(Str.ofString "row"), (Str.ofString "colours"), (Str.ofString "found"), (Str.ofString "colour"), (Str.ofString "later"), (Str.ofString "own"), (Str.ofString "number")], fn_law_choices⟩
def fn_law_plain : Fn := ⟨2, 7, [
  .fors (.nm 2) (.sq (.var 1)) [.asgO 3 (.disp (.cons (.cst (.int 0)) (.cst (.bool true)) .nil)), .fors (.tp [(.nm 4), (.nm 5)]) (.sq (.var 0)) [.ifs (.op .eq (.var 4) (.var 2)) [.asgO 3 (.bf .dict (.op .add (.lcD [6] (.nm 6) 3 (.cst (.bool true)) (.tup (.cons (.op .add (.var 6) (.var 5)) (.cons (.cst (.bool true)) .nil)))) (.lcD [6] (.nm 6) 3 (.cst (.bool true)) (.tup (.cons (.op .sub (.var 6) (.var 5)) (.cons (.cst (.bool true)) .nil))))))] []], .ifs (.op .isin (.cst (.int 0)) (.var 3)) [.ret (.cst (.bool false))] []],
  .ret (.cst (.bool true))]⟩
def fd_law_plain : FD := ⟨(Str.ofString "_law_plain"), top 49, [(Str.ofString "row"), (Str.ofString "colours"), (Str.ofString "colour"), (Str.ofString "sums"), (Str.ofString "own"), (Str.ofString "length"), (Str.ofString "some")], fn_law_plain⟩
def fn_law_other_way : Fn := ⟨2, 3, [
  .ret (.bf .tuple (.bf .sorted (.op .add (.lc [2] (.nm 2) (.sq (.var 0)) (.op .notin (.var 2) (.var 1)) (.var 2)) (.lc [2] (.nm 2) (.sq (.var 1)) (.op .notin (.var 2) (.var 0)) (.var 2)))))]⟩
def fd_law_other_way : FD := ⟨(Str.ofString "_law_other_way"), top 50, [(Str.ofString "fixed"), (Str.ofString "some"), (Str.ofString "own")], fn_law_other_way⟩
def fn_law_blocks : Fn := ⟨2, 6, [
  .asgO 2 (.lst .nil),
  .fors (.nm 3) (.rg1 (.bf .len (.var 0))) [.fors (.nm 4) (.rg2 (.op .add (.var 3) (.cst (.int 1))) (.op .add (.bf .len (.var 0)) (.cst (.int 1)))) [.ifs (.op .eq (.lc [5] (.nm 5) (.rg2 (.var 3) (.var 4)) (.op .isin (.idx (.idx (.var 0) (.var 5)) (.cst (.int 0))) (.var 1)) (.cst (.int 1))) (.lst .nil)) [.app 2 (.tup (.cons (.var 3) (.cons (.var 4) .nil)))] []]],
  .ret (.var 2)]⟩
def fd_law_blocks : FD := ⟨(Str.ofString "_law_blocks"), top 51, [(Str.ofString "row"), (Str.ofString "colours"), (Str.ofString "found"), (Str.ofString "begin"), (Str.ofString "end"), (Str.ofString "number")], fn_law_blocks⟩
def fn_law_goes : Fn := ⟨4, 15, [
  .par [(4, false), (5, false)] (.cons (.bf .len (.var 1)) (.cons (.call (Str.ofString "_law_st_all") (.cons (.var 1) (.cons (.var 2) (.cons (.var 3) .nil)))) .nil)),
  .ifs (.op .ne (.call (Str.ofString "transversals") (.cons (.var 1) (.cons (.var 2) (.cons (.var 3) .nil)))) (.var 5)) [.ret (.cst (.bool false))] [],
  .fors (.nm 6) (.sq (.op .add (.lst (.cons (.tup (.cons (.cst (.int 0)) .nil)) (.cons (.tup (.cons (.var 4) .nil)) (.cons (.tup (.cons (.cst (.int 0)) (.cons (.var 4) .nil))) .nil)))) (.slT (.call (Str.ofString "_law_shuffled") (.cons (.var 0) (.cons (.call (Str.ofString "_law_blocks") (.cons (.var 1) (.cons (.var 2) .nil))) .nil))) (.cst (.int 5))))) [.asg 7 (.call (Str.ofString "_law_other_way") (.cons (.var 3) (.cons (.var 6) .nil))), .ifs (.or (.op .ne (.call (Str.ofString "transversals") (.cons (.var 1) (.cons (.var 2) (.cons (.var 7) .nil)))) (.var 5)) (.op .ne (.call (Str.ofString "_law_st_all") (.cons (.var 1) (.cons (.var 2) (.cons (.var 7) .nil)))) (.var 5))) [.ret (.cst (.bool false))] [], .fors (.nm 8) (.sq (.slT (.var 5) (.cst (.int 3)))) [.ifs (.op .isnot (.call (Str.ofString "is_transversal") (.cons (.var 1) (.cons (.var 2) (.cons (.var 7) (.cons (.var 8) .nil))))) (.cst (.bool true))) [.ret (.cst (.bool false))] []]],
  .asg 9 (.call (Str.ofString "corners_of") (.cons (.var 1) (.cons (.var 2) .nil))),
  .fors (.tp [(.nm 10), (.tp [(.nm 11), (.nm 12)])]) (.en (.var 1)) [.ifs (.and (.op .notin (.var 11) (.var 2)) (.op .ne (.lc [13, 14] (.tp [(.nm 13), (.nm 14)]) (.sq (.var 9)) (.op .eq (.var 13) (.var 10)) (.var 14)) (.lc [13, 14] (.tp [(.nm 13), (.nm 14)]) (.sq (.var 9)) (.op .eq (.var 13) (.op .add (.var 10) (.cst (.int 1)))) (.var 14)))) [.ret (.cst (.bool false))] []],
  .ret (.call (Str.ofString "_law_turned_goes") (.cons (.var 1) (.cons (.var 2) (.cons (.var 3) (.cons (.var 5) .nil)))))]⟩
def fd_law_goes : FD := ⟨(Str.ofString "_law_goes"), top 52, [(Str.ofString "draws"), (Str.ofString "row"), (Str.ofString "colours"), (Str.ofString "fixed"), (Str.ofString "many"), (Str.ofString "due"), (Str.ofString "some"), (Str.ofString "later"), (Str.ofString "choice"), (Str.ofString "corners"), (Str.ofString "number"), (Str.ofString "colour"), (Str.ofString "length"), (Str.ofString "end"), (Str.ofString "own")], fn_law_goes⟩
def fn_law_turned_goes : Fn := ⟨4, 9, [
  .asg 4 (.bf .len (.var 0)),
  .ifs (.or (.op .ne (.call (Str.ofString "turned") (.cons (.var 0) .nil)) (.rev (.var 0))) (.not (.call (Str.ofString "_law_plain") (.cons (.var 0) (.cons (.var 1) .nil))))) [.ret (.op .eq (.call (Str.ofString "turned") (.cons (.var 0) .nil)) (.rev (.var 0)))] [],
  .asg 5 (.bf .tuple (.bf .sorted (.lc [7] (.nm 7) (.sq (.var 2)) (.cst (.bool true)) (.op .sub (.var 4) (.var 7))))),
  .asg 6 (.call (Str.ofString "transversals") (.cons (.rev (.var 0)) (.cons (.var 1) (.cons (.var 5) .nil)))),
  .ret (.op .eq (.var 6) (.bf .tuple (.bf .sorted (.lc [8] (.nm 8) (.sq (.var 3)) (.cst (.bool true)) (.bf .tuple (.bf .sorted (.lc [7] (.nm 7) (.sq (.var 8)) (.cst (.bool true)) (.op .sub (.op .sub (.var 4) (.cst (.int 1))) (.var 7)))))))))]⟩
def fd_law_turned_goes : FD := ⟨(Str.ofString "_law_turned_goes"), top 53, [(Str.ofString "row"), (Str.ofString "colours"), (Str.ofString "fixed"), (Str.ofString "due"), (Str.ofString "many"), (Str.ofString "mirrored"), (Str.ofString "told"), (Str.ofString "own"), (Str.ofString "choice")], fn_law_turned_goes⟩
def lawN : List Str := [(Str.ofString "script"), (Str.ofString "draws"), (Str.ofString "turn"), (Str.ofString "row"), (Str.ofString "many"), (Str.ofString "colours"), (Str.ofString "fixed")]
def lawB : List St := [
  .fors (.nm 2) (.rg1 (.op .add (.cst (.int 4)) (.mn2 (.bf .len (.var 0)) (.cst (.int 6))))) [.asg 3 (.call (Str.ofString "_law_st_row") (.cons (.var 1) (.cons (.cst (.int 9)) (.cons (.cst (.int 4)) .nil)))), .asg 4 (.call (Str.ofString "_law_many") (.cons (.var 3) .nil)), .asg 5 (.bf .tuple (.bf .sorted (.slT (.call (Str.ofString "_law_shuffled") (.cons (.var 1) (.cons (.lrg (.var 4)) .nil))) (.call (Str.ofString "_law_draw") (.cons (.var 1) (.cons (.op .add (.var 4) (.cst (.int 1))) .nil)))))), .asg 6 (.bf .tuple (.bf .sorted (.slT (.call (Str.ofString "_law_shuffled") (.cons (.var 1) (.cons (.lrg (.op .add (.bf .len (.var 3)) (.cst (.int 1)))) .nil))) (.call (Str.ofString "_law_draw") (.cons (.var 1) (.cons (.cst (.int 5)) .nil)))))), .ifs (.not (.call (Str.ofString "_law_goes") (.cons (.var 1) (.cons (.var 3) (.cons (.var 5) (.cons (.var 6) .nil)))))) [.ret (.cst (.bool false))] []],
  .ret (.cst (.bool true))]
def tb : List FD := [fd_is_whole, fd_is_piece, fd_many_colours, fd_is_row, fd_need_row, fd_are_ascending, fd_need_colours, fd_need_ends, fd_lengths_leaned, fd_turned, fd_numbers_of, fd_sign_at, fd_rest_of, fd_is_right_choice, fd_choices_of, fd_transversals_in, fd_need_setting, fd_transversals, fd_colours_cut, fd_is_choice_of, fd_is_transversal, fd_corners_in, fd_corners_of, fd_law_st_sums, fd_law_st_offsets, fd_law_st_is, fd_law_st_all, fd_law_st_row, fd_law_pick, fd_law_shuffled, fd_law_many, fd_law_leaned, fd_law_choices, fd_law_plain, fd_law_other_way, fd_law_blocks, fd_law_goes, fd_law_turned_goes]
def fns : List Str := [(Str.ofString "is_whole"), (Str.ofString "is_piece"), (Str.ofString "many_colours"), (Str.ofString "is_row"), (Str.ofString "need_row"), (Str.ofString "are_ascending"), (Str.ofString "need_colours"), (Str.ofString "need_ends"), (Str.ofString "lengths_leaned"), (Str.ofString "turned"), (Str.ofString "numbers_of"), (Str.ofString "sign_at"), (Str.ofString "rest_of"), (Str.ofString "is_right_choice"), (Str.ofString "choices_of"), (Str.ofString "transversals_in"), (Str.ofString "need_setting"), (Str.ofString "transversals"), (Str.ofString "colours_cut"), (Str.ofString "is_choice_of"), (Str.ofString "is_transversal"), (Str.ofString "corners_in"), (Str.ofString "corners_of"), (Str.ofString "_law_st_sums"), (Str.ofString "_law_st_offsets"), (Str.ofString "_law_st_is"), (Str.ofString "_law_st_all"), (Str.ofString "_law_st_row"), (Str.ofString "_law_pick"), (Str.ofString "_law_shuffled"), (Str.ofString "_law_many"), (Str.ofString "_law_leaned"), (Str.ofString "_law_choices"), (Str.ofString "_law_plain"), (Str.ofString "_law_other_way"), (Str.ofString "_law_blocks"), (Str.ofString "_law_goes"), (Str.ofString "_law_turned_goes"), (Str.ofString "_law_draw")]
def cs : List (Str × Int) := [((Str.ofString "MOST_PIECES"), 16), ((Str.ofString "MOST_COLOURS"), 4), ((Str.ofString "MOST_LENGTH"), 1000000000000)]
end Iv
namespace Iv
open PySem L2
theorem tb_ok : (tb.all fun d => d.ok fns cs) = true := by decide +kernel
theorem tb_nd : (tb.map (·.name)).Nodup := by decide +kernel
theorem tb_pr : ∀ d ∈ tb, prim d.name = none := by decide +kernel
theorem fns_in : ∀ x ∈ fns, (∃ g, prim x = some g) ∨ ∃ d ∈ tb, d.name = x := by
  have h : fns.all (fun x => decide (x = ("_law_draw" : Str)) || tb.any fun d => decide (d.name = x)) = true := by decide +kernel
  intro x hx
  have := List.all_eq_true.mp h x hx
  simp only [Bool.or_eq_true, decide_eq_true_eq] at this
  rcases this with h | h
  · exact .inl ⟨drawG, by unfold prim; rw [if_pos h]⟩
  · obtain ⟨d, hd, e⟩ := List.any_eq_true.mp h
    exact .inr ⟨d, hd, of_decide_eq_true e⟩
theorem law_chk : chkSs lawB ⟨lawN, (defScope sLaw).names, none, fns, cs⟩ (defBody sLaw).tail = true := by decide +kernel
theorem mem_of_lookup {α β : Type} [BEq α] [LawfulBEq α] {x : α} {y : β} : ∀ {l : List (α × β)}, l.lookup x = some y → Nonempty ((x, y) ∈ l)
  | [], h => by cases h
  | (a, b) :: l, h => by
    rw [List.lookup_cons] at h
    cases e : x == a with
    | true =>
      rw [e] at h
      simp only [Option.some.injEq] at h
      rw [eq_of_beq e, h]
      exact ⟨List.mem_cons_self ..⟩
    | false =>
      rw [e] at h
      obtain ⟨h⟩ := mem_of_lookup h
      exact ⟨List.mem_cons_of_mem _ h⟩
abbrev lvl : Nat := 40
abbrev fuel : Nat := 1000
end Iv

namespace Iv
open PySem
abbrev Φ (k : Nat) := callF prim (lookT tb) fuel k
theorem C_is_whole (k : Nat) (ds : List D) (w : DW) : Φ (k + 1) (Str.ofString "is_whole") ds w = runFn (Φ k) fuel fn_is_whole ds w := call_at (fn := fn_is_whole) (by decide +kernel) (by rfl)
theorem C_is_piece (k : Nat) (ds : List D) (w : DW) : Φ (k + 1) (Str.ofString "is_piece") ds w = runFn (Φ k) fuel fn_is_piece ds w := call_at (fn := fn_is_piece) (by decide +kernel) (by rfl)
theorem C_many_colours (k : Nat) (ds : List D) (w : DW) : Φ (k + 1) (Str.ofString "many_colours") ds w = runFn (Φ k) fuel fn_many_colours ds w := call_at (fn := fn_many_colours) (by decide +kernel) (by rfl)
theorem C_is_row (k : Nat) (ds : List D) (w : DW) : Φ (k + 1) (Str.ofString "is_row") ds w = runFn (Φ k) fuel fn_is_row ds w := call_at (fn := fn_is_row) (by decide +kernel) (by rfl)
theorem C_need_row (k : Nat) (ds : List D) (w : DW) : Φ (k + 1) (Str.ofString "need_row") ds w = runFn (Φ k) fuel fn_need_row ds w := call_at (fn := fn_need_row) (by decide +kernel) (by rfl)
theorem C_are_ascending (k : Nat) (ds : List D) (w : DW) : Φ (k + 1) (Str.ofString "are_ascending") ds w = runFn (Φ k) fuel fn_are_ascending ds w := call_at (fn := fn_are_ascending) (by decide +kernel) (by rfl)
theorem C_need_colours (k : Nat) (ds : List D) (w : DW) : Φ (k + 1) (Str.ofString "need_colours") ds w = runFn (Φ k) fuel fn_need_colours ds w := call_at (fn := fn_need_colours) (by decide +kernel) (by rfl)
theorem C_need_ends (k : Nat) (ds : List D) (w : DW) : Φ (k + 1) (Str.ofString "need_ends") ds w = runFn (Φ k) fuel fn_need_ends ds w := call_at (fn := fn_need_ends) (by decide +kernel) (by rfl)
theorem C_lengths_leaned (k : Nat) (ds : List D) (w : DW) : Φ (k + 1) (Str.ofString "lengths_leaned") ds w = runFn (Φ k) fuel fn_lengths_leaned ds w := call_at (fn := fn_lengths_leaned) (by decide +kernel) (by rfl)
theorem C_turned (k : Nat) (ds : List D) (w : DW) : Φ (k + 1) (Str.ofString "turned") ds w = runFn (Φ k) fuel fn_turned ds w := call_at (fn := fn_turned) (by decide +kernel) (by rfl)
theorem C_numbers_of (k : Nat) (ds : List D) (w : DW) : Φ (k + 1) (Str.ofString "numbers_of") ds w = runFn (Φ k) fuel fn_numbers_of ds w := call_at (fn := fn_numbers_of) (by decide +kernel) (by rfl)
theorem C_sign_at (k : Nat) (ds : List D) (w : DW) : Φ (k + 1) (Str.ofString "sign_at") ds w = runFn (Φ k) fuel fn_sign_at ds w := call_at (fn := fn_sign_at) (by decide +kernel) (by rfl)
theorem C_rest_of (k : Nat) (ds : List D) (w : DW) : Φ (k + 1) (Str.ofString "rest_of") ds w = runFn (Φ k) fuel fn_rest_of ds w := call_at (fn := fn_rest_of) (by decide +kernel) (by rfl)
theorem C_is_right_choice (k : Nat) (ds : List D) (w : DW) : Φ (k + 1) (Str.ofString "is_right_choice") ds w = runFn (Φ k) fuel fn_is_right_choice ds w := call_at (fn := fn_is_right_choice) (by decide +kernel) (by rfl)
theorem C_choices_of (k : Nat) (ds : List D) (w : DW) : Φ (k + 1) (Str.ofString "choices_of") ds w = runFn (Φ k) fuel fn_choices_of ds w := call_at (fn := fn_choices_of) (by decide +kernel) (by rfl)
theorem C_transversals_in (k : Nat) (ds : List D) (w : DW) : Φ (k + 1) (Str.ofString "transversals_in") ds w = runFn (Φ k) fuel fn_transversals_in ds w := call_at (fn := fn_transversals_in) (by decide +kernel) (by rfl)
theorem C_need_setting (k : Nat) (ds : List D) (w : DW) : Φ (k + 1) (Str.ofString "need_setting") ds w = runFn (Φ k) fuel fn_need_setting ds w := call_at (fn := fn_need_setting) (by decide +kernel) (by rfl)
theorem C_transversals (k : Nat) (ds : List D) (w : DW) : Φ (k + 1) (Str.ofString "transversals") ds w = runFn (Φ k) fuel fn_transversals ds w := call_at (fn := fn_transversals) (by decide +kernel) (by rfl)
theorem C_colours_cut (k : Nat) (ds : List D) (w : DW) : Φ (k + 1) (Str.ofString "colours_cut") ds w = runFn (Φ k) fuel fn_colours_cut ds w := call_at (fn := fn_colours_cut) (by decide +kernel) (by rfl)
theorem C_is_choice_of (k : Nat) (ds : List D) (w : DW) : Φ (k + 1) (Str.ofString "is_choice_of") ds w = runFn (Φ k) fuel fn_is_choice_of ds w := call_at (fn := fn_is_choice_of) (by decide +kernel) (by rfl)
theorem C_is_transversal (k : Nat) (ds : List D) (w : DW) : Φ (k + 1) (Str.ofString "is_transversal") ds w = runFn (Φ k) fuel fn_is_transversal ds w := call_at (fn := fn_is_transversal) (by decide +kernel) (by rfl)
theorem C_corners_in (k : Nat) (ds : List D) (w : DW) : Φ (k + 1) (Str.ofString "corners_in") ds w = runFn (Φ k) fuel fn_corners_in ds w := call_at (fn := fn_corners_in) (by decide +kernel) (by rfl)
theorem C_corners_of (k : Nat) (ds : List D) (w : DW) : Φ (k + 1) (Str.ofString "corners_of") ds w = runFn (Φ k) fuel fn_corners_of ds w := call_at (fn := fn_corners_of) (by decide +kernel) (by rfl)
theorem C_law_st_sums (k : Nat) (ds : List D) (w : DW) : Φ (k + 1) (Str.ofString "_law_st_sums") ds w = runFn (Φ k) fuel fn_law_st_sums ds w := call_at (fn := fn_law_st_sums) (by decide +kernel) (by rfl)
theorem C_law_st_offsets (k : Nat) (ds : List D) (w : DW) : Φ (k + 1) (Str.ofString "_law_st_offsets") ds w = runFn (Φ k) fuel fn_law_st_offsets ds w := call_at (fn := fn_law_st_offsets) (by decide +kernel) (by rfl)
theorem C_law_st_is (k : Nat) (ds : List D) (w : DW) : Φ (k + 1) (Str.ofString "_law_st_is") ds w = runFn (Φ k) fuel fn_law_st_is ds w := call_at (fn := fn_law_st_is) (by decide +kernel) (by rfl)
theorem C_law_st_all (k : Nat) (ds : List D) (w : DW) : Φ (k + 1) (Str.ofString "_law_st_all") ds w = runFn (Φ k) fuel fn_law_st_all ds w := call_at (fn := fn_law_st_all) (by decide +kernel) (by rfl)
theorem C_law_st_row (k : Nat) (ds : List D) (w : DW) : Φ (k + 1) (Str.ofString "_law_st_row") ds w = runFn (Φ k) fuel fn_law_st_row ds w := call_at (fn := fn_law_st_row) (by decide +kernel) (by rfl)
theorem C_law_pick (k : Nat) (ds : List D) (w : DW) : Φ (k + 1) (Str.ofString "_law_pick") ds w = runFn (Φ k) fuel fn_law_pick ds w := call_at (fn := fn_law_pick) (by decide +kernel) (by rfl)
theorem C_law_shuffled (k : Nat) (ds : List D) (w : DW) : Φ (k + 1) (Str.ofString "_law_shuffled") ds w = runFn (Φ k) fuel fn_law_shuffled ds w := call_at (fn := fn_law_shuffled) (by decide +kernel) (by rfl)
theorem C_law_many (k : Nat) (ds : List D) (w : DW) : Φ (k + 1) (Str.ofString "_law_many") ds w = runFn (Φ k) fuel fn_law_many ds w := call_at (fn := fn_law_many) (by decide +kernel) (by rfl)
theorem C_law_leaned (k : Nat) (ds : List D) (w : DW) : Φ (k + 1) (Str.ofString "_law_leaned") ds w = runFn (Φ k) fuel fn_law_leaned ds w := call_at (fn := fn_law_leaned) (by decide +kernel) (by rfl)
theorem C_law_choices (k : Nat) (ds : List D) (w : DW) : Φ (k + 1) (Str.ofString "_law_choices") ds w = runFn (Φ k) fuel fn_law_choices ds w := call_at (fn := fn_law_choices) (by decide +kernel) (by rfl)
theorem C_law_plain (k : Nat) (ds : List D) (w : DW) : Φ (k + 1) (Str.ofString "_law_plain") ds w = runFn (Φ k) fuel fn_law_plain ds w := call_at (fn := fn_law_plain) (by decide +kernel) (by rfl)
theorem C_law_other_way (k : Nat) (ds : List D) (w : DW) : Φ (k + 1) (Str.ofString "_law_other_way") ds w = runFn (Φ k) fuel fn_law_other_way ds w := call_at (fn := fn_law_other_way) (by decide +kernel) (by rfl)
theorem C_law_blocks (k : Nat) (ds : List D) (w : DW) : Φ (k + 1) (Str.ofString "_law_blocks") ds w = runFn (Φ k) fuel fn_law_blocks ds w := call_at (fn := fn_law_blocks) (by decide +kernel) (by rfl)
theorem C_law_goes (k : Nat) (ds : List D) (w : DW) : Φ (k + 1) (Str.ofString "_law_goes") ds w = runFn (Φ k) fuel fn_law_goes ds w := call_at (fn := fn_law_goes) (by decide +kernel) (by rfl)
theorem C_law_turned_goes (k : Nat) (ds : List D) (w : DW) : Φ (k + 1) (Str.ofString "_law_turned_goes") ds w = runFn (Φ k) fuel fn_law_turned_goes ds w := call_at (fn := fn_law_turned_goes) (by decide +kernel) (by rfl)
end Iv

/-! Draws, shuffled lots. -/
namespace Iv
open PySem
def drwOk (w : DW) (room : Int) : Prop := 0 ≤ w.turn ∧ w.turn < 2 ^ 40 ∧ 0 < room ∧ room < 2 ^ 64
theorem prim_drw : prim (Str.ofString "_law_draw") = some drawG := by unfold prim; rw [if_pos rfl]
theorem t_law_draw (k : Nat) (w : DW) (room : Int) (h : drwOk w room) : Φ (k + 2) (Str.ofString "_law_draw") [drwTok, .int room] w = some (.int (drawF w room).1, (drawF w room).2) := by
  simp only [Φ, callF, prim_drw]
  rw [if_pos (by omega)]
  unfold drawG
  simp only
  rw [if_pos ⟨rfl, h⟩]
/-- a lot shuffled -/
def shufN {α : Type} : Nat → List α → DW → List α × DW
  | 0, _, w => ([], w)
  | n + 1, l, w => match l[(drawF w l.length).1.toNat]? with
    | some a => let r := shufN n (l.eraseIdx (drawF w l.length).1.toNat) (drawF w l.length).2
      (a :: r.1, r.2)
    | none => ([], w)
def shufZ {α : Type} (l : List α) (w : DW) : List α × DW := shufN l.length l w
def shufOk {α : Type} (l : List α) (w : DW) : Prop := 0 ≤ w.turn ∧ w.turn + l.length ≤ 2 ^ 40 ∧ l.length ≤ 900
theorem draw_turn (w : DW) (room : Int) : w.turn ≤ (drawF w room).2.turn ∧ (drawF w room).2.turn ≤ w.turn + 1 := by
  unfold drawF
  simp only
  split
  · split <;> (first | omega | (simp only; omega))
  · first | omega | (simp only; omega)
theorem draw_range (w : DW) {room : Int} (h : 0 < room) : 0 ≤ (drawF w room).1 ∧ (drawF w room).1 < room := by
  unfold drawF
  simp only
  exact ⟨Int.emod_nonneg _ (by omega), Int.emod_lt_of_pos _ h⟩
theorem perm_erase {α : Type} : ∀ (l : List α) (i : Nat) (h : i < l.length), (l[i] :: l.eraseIdx i).Perm l
  | a :: l, 0, _ => .refl _
  | a :: l, i + 1, h => by
    simp only [List.getElem_cons_succ, List.eraseIdx_cons_succ]
    exact (List.Perm.swap _ _ _).trans (.cons _ (perm_erase l i (by simpa using h)))
theorem map_erase {α β : Type} (f : α → β) : ∀ (l : List α) (i : Nat), (l.map f).eraseIdx i = (l.eraseIdx i).map f
  | [], i => by simp
  | a :: l, 0 => rfl
  | a :: l, i + 1 => by simp only [List.map_cons, List.eraseIdx_cons_succ, map_erase f l i]
theorem shufN_perm {α : Type} : ∀ (n : Nat) (l : List α) (w : DW), l.length = n → (shufN n l w).1.Perm l
  | 0, l, w, h => by
    have : l = [] := List.length_eq_zero_iff.mp h
    subst this
    exact .refl _
  | n + 1, l, w, h => by
    have hr := draw_range w (room := l.length) (by omega)
    have hj : (drawF w l.length).1.toNat < l.length := by omega
    simp only [shufN, List.getElem?_eq_getElem hj]
    have := shufN_perm n (l.eraseIdx (drawF w l.length).1.toNat) (drawF w l.length).2 (by rw [List.length_eraseIdx, if_pos hj]; omega)
    exact (List.Perm.cons _ this).trans (perm_erase l _ hj)
theorem shufZ_perm {α : Type} (l : List α) (w : DW) : (shufZ l w).1.Perm l := shufN_perm _ _ _ rfl
theorem shufN_turn {α : Type} : ∀ (n : Nat) (l : List α) (w : DW), w.turn ≤ (shufN n l w).2.turn ∧ (shufN n l w).2.turn ≤ w.turn + n
  | 0, l, w => by simp [shufN]
  | n + 1, l, w => by
    have h1 := draw_turn w l.length
    simp only [shufN]
    split
    · have := shufN_turn n (l.eraseIdx (drawF w l.length).1.toNat) (drawF w l.length).2
      simp only
      omega
    · simp only; omega
theorem shufZ_turn {α : Type} (l : List α) (w : DW) : w.turn ≤ (shufZ l w).2.turn ∧ (shufZ l w).2.turn ≤ w.turn + l.length := shufN_turn _ _ _
theorem t_shuf {α : Type} [DecidableEq α] (c : Cod α) (hd : c.dp < 64) (k : Nat) (d : D) (l : List α) (w : DW) (hs : bf1 .list d = some (.list (l.map c.enc))) (h : shufOk l w) : Φ (k + 3) (Str.ofString "_law_shuffled") [drwTok, d] w = some (.list ((shufZ l w).1.map c.enc), (shufZ l w).2) := by
  refine (C_law_shuffled (k + 2) _ w).trans ?_
  have key : ∀ (n : Nat) (l : List α) (w : DW) (acc : List α) (m : Nat), l.length = n → n < m → 0 ≤ w.turn → w.turn + n ≤ 2 ^ 40 → acc.length + n ≤ 900 →
      whlGo (evE (Φ (k + 2)) (.op .ne (.var 2) (.lst .nil))) (evSs (Φ (k + 2)) fuel [.app 3 (.pop 2 (.call (Str.ofString "_law_draw") (.cons (.var 0) (.cons (.bf .len (.var 2)) .nil))))]) m ⟨[.val drwTok, .val d, .own (.list (l.map c.enc)), .own (.list (acc.map c.enc))], w⟩ =
        some (.nx, ⟨[.val drwTok, .val d, .own (.list []), .own (.list ((acc ++ (shufN n l w).1).map c.enc))], (shufN n l w).2⟩) := by
    intro n
    induction n with
    | zero =>
      intro l w acc m h1 h2 h3 h4 h5
      have : l = [] := List.length_eq_zero_iff.mp h1
      subst this
      obtain ⟨m, rfl⟩ : ∃ m', m = m' + 1 := ⟨m - 1, by omega⟩
      have e : Ev (Φ (k + 2)) (.op .ne (.var 2) (.lst .nil)) ⟨[.val drwTok, .val d, .own (.list []), .own (.list (acc.map c.enc))], w⟩ (.bool (!decide (([] : List α) = []))) ⟨[.val drwTok, .val d, .own (.list []), .own (.list (acc.map c.enc))], w⟩ :=
        ev_ne (cL c) (by simp only [cL]; omega) (x := []) (y := []) (e2_ve rfl rfl (show Ev _ _ _ (.list (List.map c.enc ([] : List α))) _ from ev_lst evs_nil (Nat.zero_le _)) rfl)
      simp only [Ev] at e
      simp only [whlGo, List.map_nil, e, decide_true, Bool.not_true, asB, shufN, List.append_nil]
    | succ n ih =>
      intro l w acc m h1 h2 h3 h4 h5
      obtain ⟨m, rfl⟩ : ∃ m', m = m' + 1 := ⟨m - 1, by omega⟩
      have hr := draw_range w (room := l.length) (by omega)
      have hj : (drawF w l.length).1.toNat < l.length := by omega
      have ht := draw_turn w l.length
      have hne : l ≠ [] := fun q => by subst q; simp at h1
      have e : Ev (Φ (k + 2)) (.op .ne (.var 2) (.lst .nil)) ⟨[.val drwTok, .val d, .own (.list (l.map c.enc)), .own (.list (acc.map c.enc))], w⟩ (.bool (!decide (l = []))) ⟨[.val drwTok, .val d, .own (.list (l.map c.enc)), .own (.list (acc.map c.enc))], w⟩ :=
        ev_ne (cL c) (by simp only [cL]; omega) (x := l) (y := []) (e2_ve rfl rfl (show Ev _ _ _ (.list (List.map c.enc ([] : List α))) _ from ev_lst evs_nil (Nat.zero_le _)) rfl)
      have e2 : Ev (Φ (k + 2)) (.call (Str.ofString "_law_draw") (.cons (.var 0) (.cons (.bf .len (.var 2)) .nil))) ⟨[.val drwTok, .val d, .own (.list (l.map c.enc)), .own (.list (acc.map c.enc))], w⟩ (.int (drawF w l.length).1) ⟨[.val drwTok, .val d, .own (.list (l.map c.enc)), .own (.list (acc.map c.enc))], (drawF w l.length).2⟩ :=
        ev_callW (evs_cons (ev_var rfl) (evs_cons (ev_lenL (f := c.enc) (pk_v rfl)) evs_nil)) (t_law_draw k w l.length ⟨h3, by omega, by omega, by omega⟩)
      have e3 : L2.ixN (l.map c.enc).length (drawF w l.length).1 = some (drawF w l.length).1.toNat := by
        unfold L2.ixN
        rw [List.length_map, if_pos hr.1, if_pos hr.2]
      have e4 : (l.map c.enc)[(drawF w l.length).1.toNat]? = some (c.enc l[(drawF w l.length).1.toNat]) := by
        rw [List.getElem?_map, List.getElem?_eq_getElem hj]; rfl
      have e5 : Ev (Φ (k + 2)) (.pop 2 (.call (Str.ofString "_law_draw") (.cons (.var 0) (.cons (.bf .len (.var 2)) .nil)))) ⟨[.val drwTok, .val d, .own (.list (l.map c.enc)), .own (.list (acc.map c.enc))], w⟩ (c.enc l[(drawF w l.length).1.toNat]) ⟨[.val drwTok, .val d, .own (.list ((l.eraseIdx (drawF w l.length).1.toNat).map c.enc)), .own (.list (acc.map c.enc))], (drawF w l.length).2⟩ := by
        rw [Ev, evE_pop]
        simp only [Ev] at e2
        simp only [S1.ownL, List.getElem?_cons_succ, List.getElem?_cons_zero, if_true, e2, Option.bind_some]
        rw [if_pos (by omega), e3]
        simp only [e4, S1.put, List.set_cons_succ, List.set_cons_zero, map_erase]
      have e6 : evSs (Φ (k + 2)) fuel [.app 3 (.pop 2 (.call (Str.ofString "_law_draw") (.cons (.var 0) (.cons (.bf .len (.var 2)) .nil))))] ⟨[.val drwTok, .val d, .own (.list (l.map c.enc)), .own (.list (acc.map c.enc))], w⟩ = some (.nx, ⟨[.val drwTok, .val d, .own (.list ((l.eraseIdx (drawF w l.length).1.toNat).map c.enc)), .own (.list ((acc ++ [l[(drawF w l.length).1.toNat]]).map c.enc))], (drawF w l.length).2⟩) := by
        have hacc : (acc.map c.enc).length < line := by rw [List.length_map]; unfold line; omega
        simp only [Ev] at e5
        simp only [evSs, evS_app, S1.ownL, List.getElem?_cons_succ, List.getElem?_cons_zero, if_true, e5, Option.bind_some, hacc, S1.put, List.set_cons_succ, List.set_cons_zero, List.map_append, List.map_cons, List.map_nil]
      have h6 := ih (l.eraseIdx (drawF w l.length).1.toNat) (drawF w l.length).2 (acc ++ [l[(drawF w l.length).1.toNat]]) m (by rw [List.length_eraseIdx, if_pos hj]; omega) (by omega) (by omega) (by omega) (by simp; omega)
      simp only [Ev] at e
      have hdn : decide (l = []) = false := decide_eq_false hne
      simp only [whlGo, e, hdn, Bool.not_false, asB, e6, h6, shufN, List.getElem?_eq_getElem hj, List.append_assoc, List.singleton_append]
  have hk := key l.length l w [] fuel rfl (by have := h.2.2; unfold fuel; omega) h.1 h.2.1 (by simpa using h.2.2)
  refine run_W (f := eL c.enc) rfl (s0 := ⟨[.val drwTok, .val d, .no, .no], w⟩) rfl ?_
  have e1 : Ev (Φ (k + 2)) (.bf .list (.var 1)) ⟨[.val drwTok, .val d, .no, .no], w⟩ (.list (l.map c.enc)) ⟨[.val drwTok, .val d, .no, .no], w⟩ := ev_bf (pk_v rfl) hs
  refine bl_next (s2 := ⟨[.val drwTok, .val d, .own (.list (l.map c.enc)), .own (.list [])], w⟩) ?_ (bl_next (s2 := ⟨[.val drwTok, .val d, .own (.list []), .own (.list ((shufZ l w).1.map c.enc))], (shufZ l w).2⟩) ?_ (bl_retW (f := eL c.enc) (x := shufZ l w) (ev_var rfl)))
  · have := evs_cons e1 (evs_cons (ev_lst (Φ := Φ (k + 2)) (s := ⟨[.val drwTok, .val d, .no, .no], w⟩) evs_nil (Nat.zero_le _)) evs_nil)
    rw [evS_par, this]; rfl
  · simp only [evS]
    simp only [List.map_nil, List.nil_append] at hk
    exact hk
end Iv

/-! Plain facts of lists: ranges, places, sorting. -/
namespace Iv
open PySem
/-! ### order of data -/
abbrev dle {α : Type} (f : α → D) (a b : α) : Bool := W.dataLe false id (f a) (f b)
theorem dle_eq {α : Type} (f : α → D) (a b : α) : dle f a b = !PyProof.Rows.lexLt PyProof.Rows.itemOrd (W.keyToks (f b)) (W.keyToks (f a)) := rfl
theorem dle_int (a b : Int) : dle eZ a b = decide (a ≤ b) := by
  rw [dle_eq]
  have := W.dataLt_int b a
  unfold W.dataLt at this
  rw [this]
  by_cases h : a ≤ b
  · simp [h]
  · simp [h]; omega
def ordD : PyProof.Rows.KeyOrd := PyProof.Rows.listOrd PyProof.Rows.itemOrd
theorem dle_tot {α : Type} (f : α → D) : W.TotalLe (dle f) := by
  have := W.sortLe_total (PyProof.Rows.listOrd PyProof.Rows.itemOrd) false fun a : α => W.keyToks (f a)
  exact this
/-- data that are told by their signs, whatever follows -/
def TokC {α : Type} (f : α → D) : Prop := ∀ a b l m, W.keyToks (f a) ++ l = W.keyToks (f b) ++ m → a = b ∧ l = m
theorem tokZ : TokC eZ := by
  intro a b l m h
  simp only [eZ, W.keyToks, List.cons_append, List.nil_append, List.cons.injEq, Sum.inl.injEq] at h
  exact h
theorem toksAll_inj {α : Type} {f : α → D} (hf : TokC f) : ∀ (a b : List α) (l m : List (Int ⊕ List Nat)), W.keyToksAll (a.map f) ++ l = W.keyToksAll (b.map f) ++ m → a = b ∧ l = m
  | [], [], l, m, h => by simpa [W.keyToksAll] using h
  | [], b :: bs, l, m, h => by simp [W.keyToksAll] at h
  | a :: as, [], l, m, h => by simp [W.keyToksAll] at h
  | a :: as, b :: bs, l, m, h => by
    simp only [List.map_cons, W.keyToksAll, List.cons_append, List.append_assoc, List.cons.injEq, true_and] at h
    obtain ⟨h1, h2⟩ := hf a b _ _ h
    obtain ⟨h3, h4⟩ := toksAll_inj hf as bs l m h2
    exact ⟨by rw [h1, h3], h4⟩
theorem tokT {α : Type} {f : α → D} (hf : TokC f) : TokC (eT f) := by
  intro a b l m h
  simp only [eT, W.keyToks] at h
  exact toksAll_inj hf a b l m h
theorem tokP {α β : Type} {f : α → D} {g : β → D} (hf : TokC f) (hg : TokC g) : TokC (eP f g) := by
  intro a b l m h
  simp only [eP, W.keyToks, W.keyToksAll, List.cons_append, List.append_assoc, List.nil_append, List.cons.injEq, true_and] at h
  obtain ⟨h1, h2⟩ := hf _ _ _ _ h
  simp only [List.cons.injEq, true_and] at h2
  obtain ⟨h3, h4⟩ := hg _ _ _ _ h2
  simp only [List.cons.injEq, true_and] at h4
  exact ⟨Prod.ext h1 h3, h4⟩
theorem dle_anti {α : Type} {f : α → D} (hf : TokC f) {a b : α} (h1 : dle f a b = true) (h2 : dle f b a = true) : a = b := by
  rw [dle_eq, Bool.not_eq_true'] at h1 h2
  have e := PyProof.Rows.KeyOrd.total (PyProof.Rows.listOrd PyProof.Rows.itemOrd) _ _ h1 h2
  exact (hf a b [] [] (by rw [List.append_nil, List.append_nil]; exact e.symm)).1
/-! ### sorting -/
theorem sortZ_perm {α : Type} (f : α → D) (l : List α) : (sortZ f l).Perm l := List.mergeSort_perm _ _
theorem mem_sortZ {α : Type} {f : α → D} {l : List α} {a : α} : a ∈ sortZ f l ↔ a ∈ l := (sortZ_perm f l).mem_iff
theorem sortZ_len {α : Type} (f : α → D) (l : List α) : (sortZ f l).length = l.length := (sortZ_perm f l).length_eq
theorem sortZ_pw {α : Type} (f : α → D) (l : List α) : (sortZ f l).Pairwise fun a b => dle f a b = true := W.sort_pairwise (dle_tot f) l
theorem perm_uniq {α : Type} {r : α → α → Bool} (anti : ∀ a b, r a b = true → r b a = true → a = b) : ∀ {l m : List α}, l.Pairwise (fun a b => r a b = true) → m.Pairwise (fun a b => r a b = true) → l.Perm m → l = m
  | [], m, _, _, p => (List.Perm.nil_eq p)
  | a :: l, [], _, _, p => by have := p.length_eq; simp at this
  | a :: l, b :: m, h1, h2, p => by
    rw [List.pairwise_cons] at h1 h2
    have e : a = b := by
      have ha : a ∈ b :: m := p.subset (List.mem_cons_self ..)
      have hb : b ∈ a :: l := p.symm.subset (List.mem_cons_self ..)
      rcases List.mem_cons.mp ha with h | ha
      · exact h
      · rcases List.mem_cons.mp hb with h | hb
        · exact h.symm
        · exact anti _ _ (h1.1 b hb) (h2.1 a ha)
    subst e
    rw [perm_uniq anti h1.2 h2.2 (List.Perm.cons_inv p)]
theorem sortZ_uniq {α : Type} {f : α → D} (hf : TokC f) {l m : List α} (hm : m.Pairwise fun a b => dle f a b = true) (p : m.Perm l) : sortZ f l = m :=
  perm_uniq (fun _ _ h1 h2 => dle_anti hf h1 h2) (sortZ_pw f l) hm ((sortZ_perm f l).trans p.symm)
theorem sortZ_congr {α : Type} {f : α → D} (hf : TokC f) {l m : List α} (p : l.Perm m) : sortZ f l = sortZ f m :=
  sortZ_uniq hf (sortZ_pw f m) ((sortZ_perm f m).trans p.symm)
theorem sortZ_int (l : List Int) : (sortZ eZ l).Pairwise (· ≤ ·) := (sortZ_pw eZ l).imp fun h => by rw [dle_int] at h; exact of_decide_eq_true h
theorem sortZ_asc {l : List Int} (h : l.Nodup) : (sortZ eZ l).Pairwise (· < ·) := by
  have h1 := sortZ_int l
  have h2 : (sortZ eZ l).Nodup := (sortZ_perm eZ l).nodup_iff.mpr h
  have := h1.and h2
  exact this.imp fun ⟨a, b⟩ => by omega
theorem asc_uniq {l m : List Int} (h1 : l.Pairwise (· < ·)) (h2 : m.Pairwise (· < ·)) (p : l.Perm m) : l = m :=
  perm_uniq (r := fun a b => decide (a < b)) (fun a b h h' => by simp at h h'; omega) (h1.imp fun h => by simpa using h) (h2.imp fun h => by simpa using h) p
theorem sortZ_of_asc {l : List Int} (h : l.Pairwise (· < ·)) : sortZ eZ l = l :=
  sortZ_uniq tokZ (h.imp fun h => by rw [dle_int]; simp; omega) (.refl _)
theorem asc_nodup {l : List Int} (h : l.Pairwise (· < ·)) : l.Nodup := h.imp fun h => by omega
theorem nodup_ext {l m : List Int} (h1 : l.Nodup) (h2 : m.Nodup) (h : ∀ a, a ∈ l ↔ a ∈ m) : l.Perm m := (List.perm_ext_iff_of_nodup h1 h2).mpr h
theorem asc_ext {l m : List Int} (h1 : l.Pairwise (· < ·)) (h2 : m.Pairwise (· < ·)) (h : ∀ a, a ∈ l ↔ a ∈ m) : l = m := asc_uniq h1 h2 (nodup_ext (asc_nodup h1) (asc_nodup h2) h)
/-! ### ranges -/
theorem mem_range {a b x : Int} : x ∈ rangeZ a b ↔ a ≤ x ∧ x < b := by
  unfold rangeZ
  simp only [List.mem_map, List.mem_range]
  constructor
  · rintro ⟨i, h, rfl⟩; omega
  · intro h; exact ⟨(x - a).toNat, by omega, by omega⟩
theorem rangeZ_len (a b : Int) : (rangeZ a b).length = (b - a).toNat := by simp [rangeZ]
theorem range_asc (a b : Int) : (rangeZ a b).Pairwise (· < ·) := by
  unfold rangeZ
  rw [List.pairwise_map]
  exact List.pairwise_lt_range.imp fun h => by omega
theorem range_split {a b c : Int} (h1 : a ≤ b) (h2 : b ≤ c) : rangeZ a c = rangeZ a b ++ rangeZ b c := by
  refine asc_ext (range_asc _ _) ?_ fun x => ?_
  · rw [List.pairwise_append]
    refine ⟨range_asc _ _, range_asc _ _, fun x hx y hy => ?_⟩
    rw [mem_range] at hx hy
    omega
  · rw [List.mem_append, mem_range, mem_range, mem_range]; omega
theorem range_one (a : Int) : rangeZ a (a + 1) = [a] := by
  refine asc_ext (range_asc _ _) (by simp) fun x => ?_
  rw [mem_range]; simp; omega
theorem range_nil {a b : Int} (h : b ≤ a) : rangeZ a b = [] := by
  apply List.eq_nil_iff_forall_not_mem.mpr
  intro x hx
  rw [mem_range] at hx; omega
theorem range_snoc {a b : Int} (h : a ≤ b) : rangeZ a (b + 1) = rangeZ a b ++ [b] := by rw [range_split h (by omega), range_one]
theorem range_cons {a b : Int} (h : a < b) : rangeZ a b = a :: rangeZ (a + 1) b := by rw [range_split (b := a + 1) (by omega) (by omega), range_one]; rfl
theorem rng_ok {a : Int} (h0 : -1000000 ≤ a) (h1 : a ≤ 1000000) : rngOk a = true := by
  unfold rngOk
  simp only [Bool.and_eq_true, decide_eq_true_eq]
  omega
/-! ### places -/
theorem ixN_in {n : Nat} {i : Int} (h0 : 0 ≤ i) (h1 : i < n) : L2.ixN n i = some i.toNat := by
  unfold L2.ixN; rw [if_pos h0, if_pos h1]
theorem atOk_in {α : Type} {xs : List α} {i : Int} (h0 : 0 ≤ i) (h1 : i < xs.length) : atOk xs i := by
  unfold atOk L2.atI
  rw [ixN_in h0 h1]
  simp; omega
theorem atZ_in {α : Type} [Inhabited α] {xs : List α} {i : Int} (h0 : 0 ≤ i) (h1 : i < xs.length) : atZ xs i = xs[i.toNat]'(by omega) := by
  unfold atZ L2.atI
  rw [ixN_in h0 h1]
  have : i.toNat < xs.length := by omega
  simp [List.getElem?_eq_getElem this]
theorem atZ_mem {α : Type} [Inhabited α] {xs : List α} {i : Int} (h0 : 0 ≤ i) (h1 : i < xs.length) : atZ xs i ∈ xs := by
  rw [atZ_in h0 h1]; exact List.getElem_mem _
theorem atZ_nat {α : Type} [Inhabited α] (xs : List α) (i : Nat) (h : i < xs.length) : atZ xs (i : Int) = xs[i] := by
  rw [atZ_in (by omega) (by omega)]; rfl
theorem atZ_cons0 {α : Type} [Inhabited α] (a : α) (l : List α) : atZ (a :: l) 0 = a := by
  rw [atZ_in (by omega) (by simp)]; rfl
theorem atZ_consS {α : Type} [Inhabited α] (a : α) (l : List α) {i : Int} (h0 : 0 < i) (h1 : i ≤ l.length) : atZ (a :: l) i = atZ l (i - 1) := by
  rw [atZ_in (by omega) (by simp; omega), atZ_in (by omega) (by omega)]
  obtain ⟨n, rfl⟩ : ∃ n : Nat, i = (n : Int) + 1 := ⟨(i - 1).toNat, by omega⟩
  have e1 : ((n : Int) + 1).toNat = n + 1 := by omega
  have e2 : ((n : Int) + 1 - 1).toNat = n := by omega
  simp only [e1, e2, List.getElem_cons_succ]
theorem atZ_append_l {α : Type} [Inhabited α] (a b : List α) {i : Int} (h0 : 0 ≤ i) (h1 : i < a.length) : atZ (a ++ b) i = atZ a i := by
  rw [atZ_in h0 (by simp; omega), atZ_in h0 h1, List.getElem_append_left]
theorem atZ_append_r {α : Type} [Inhabited α] (a b : List α) {i : Int} (h0 : (a.length : Int) ≤ i) (h1 : i < a.length + b.length) : atZ (a ++ b) i = atZ b (i - a.length) := by
  rw [atZ_in (by omega) (by simp; omega), atZ_in (by omega) (by omega), List.getElem_append_right (by omega)]
  congr 1; omega
theorem atZ_last {α : Type} [Inhabited α] (a : List α) (x : α) : atZ (a ++ [x]) (-1) = x := by
  have e : L2.ixN (a ++ [x]).length (-1) = some a.length := by
    unfold L2.ixN
    simp only [List.length_append, List.length_singleton]
    rw [if_neg (by omega), if_pos (by omega)]
    congr 1; omega
  unfold atZ L2.atI
  rw [e]
  simp
theorem atOk_last {α : Type} {a : List α} (h : a ≠ []) : atOk a (-1) := by
  unfold atOk L2.atI L2.ixN
  have : 0 < a.length := List.length_pos_iff.mpr h
  rw [if_neg (by omega), if_pos (by omega)]
  simp; omega
theorem atZ_map {α β : Type} [Inhabited α] [Inhabited β] (f : α → β) {xs : List α} {i : Int} (h0 : 0 ≤ i) (h1 : i < xs.length) : atZ (xs.map f) i = f (atZ xs i) := by
  rw [atZ_in h0 (by simpa using h1), atZ_in h0 h1, List.getElem_map]
theorem atZ_range {a b i : Int} (h0 : 0 ≤ i) (h1 : i < b - a) : atZ (rangeZ a b) i = a + i := by
  rw [atZ_in h0 (by rw [rangeZ_len]; omega)]
  simp [rangeZ]; omega
theorem list_ext_at {α : Type} [Inhabited α] {xs ys : List α} (hl : xs.length = ys.length) (h : ∀ i : Int, 0 ≤ i → i < xs.length → atZ xs i = atZ ys i) : xs = ys := by
  apply List.ext_getElem hl
  intro i h1 h2
  have := h i (by omega) (by omega)
  rw [atZ_nat _ _ h1, atZ_nat _ _ h2] at this
  exact this
theorem list_as_range {α : Type} [Inhabited α] (xs : List α) : xs = (rangeZ 0 xs.length).map (atZ xs) := by
  apply list_ext_at
  · simp [rangeZ_len]
  · intro i h0 h1
    rw [atZ_map (atZ xs) h0 (by rw [rangeZ_len]; omega), atZ_range h0 (by omega)]
    congr 1; omega
theorem enumZ_eq {α : Type} [Inhabited α] : ∀ (xs : List α) (k : Nat), enumZ k xs = (rangeZ 0 xs.length).map fun i => ((k : Int) + i, atZ xs i)
  | [], k => by simp [enumZ, range_nil]
  | x :: xs, k => by
    have hr : rangeZ 0 ((x :: xs).length : Int) = 0 :: rangeZ (0 + 1) ((x :: xs).length : Int) := range_cons (by simp only [List.length_cons]; omega)
    rw [enumZ, enumZ_eq xs (k + 1), hr]
    simp only [List.map_cons, Int.add_zero, atZ_cons0, List.cons.injEq, true_and]
    have : rangeZ (0 + 1) ((x :: xs).length : Int) = (rangeZ 0 (xs.length : Int)).map (· + 1) := by
      unfold rangeZ
      rw [List.map_map]
      have : (((x :: xs).length : Int) - (0 + 1)).toNat = ((xs.length : Int) - 0).toNat := by simp
      rw [this]
      apply List.map_congr_left
      intro i _
      simp only [Function.comp]; omega
    rw [this, List.map_map]
    apply List.map_congr_left
    intro i hi
    rw [mem_range] at hi
    simp only [Function.comp]
    rw [atZ_consS x xs (by omega) (by omega)]
    refine Prod.ext ?_ ?_
    · simp only; omega
    · simp only; congr 1; omega
theorem enumZ_len {α : Type} : ∀ (xs : List α) (k : Nat), (enumZ k xs).length = xs.length
  | [], _ => rfl
  | x :: xs, k => by simp [enumZ, enumZ_len xs (k + 1)]
theorem enum0 {α : Type} [Inhabited α] (xs : List α) : enumZ 0 xs = (rangeZ 0 xs.length).map fun i => (i, atZ xs i) := by
  rw [enumZ_eq]
  apply List.map_congr_left
  intro i _
  simp
theorem setZ_len {α : Type} (xs : List α) (i : Int) (v : α) : (setZ xs i v).length = xs.length := by
  unfold setZ
  split <;> simp
theorem atZ_set {α : Type} [Inhabited α] {xs : List α} {i j : Int} (v : α) (h0 : 0 ≤ i) (h1 : i < xs.length) (g0 : 0 ≤ j) (g1 : j < xs.length) : atZ (setZ xs i v) j = if i = j then v else atZ xs j := by
  rw [atZ_in g0 (by rw [setZ_len]; omega)]
  have hj : j.toNat < xs.length := by omega
  rw [atZ_in g0 g1]
  simp only [setZ, ixN_in h0 h1, List.getElem_set]
  by_cases h : i = j
  · rw [if_pos h, if_pos (by omega)]
  · rw [if_neg h, if_neg (by omega)]
theorem repZ_one {α : Type} (a : α) (n : Int) : repZ [a] n = List.replicate n.toNat a := by
  unfold repZ
  induction n.toNat with
  | zero => rfl
  | succ n ih => simp [List.replicate_succ, ih]
theorem atZ_rep {α : Type} [Inhabited α] (a : α) {n i : Int} (h0 : 0 ≤ i) (h1 : i < n) : atZ (repZ [a] n) i = a := by
  rw [repZ_one, atZ_in h0 (by simp; omega)]; simp
/-! ### slices -/
theorem cutZ_lo {α : Type} (xs : List α) {i : Int} (h : 0 ≤ i) : cutZ xs (some i) none = xs.drop i.toNat := by
  obtain ⟨n, rfl⟩ : ∃ n : Nat, i = n := ⟨i.toNat, by omega⟩
  unfold cutZ
  rw [HT.sIx_nat, HT.sIx_none]
  simp only [Int.toNat_natCast]
  have : xs.length - min n xs.length = (xs.drop (min n xs.length)).length := by simp
  rw [this, List.take_length]
  by_cases hn : n ≤ xs.length
  · rw [Nat.min_eq_left hn]
  · rw [Nat.min_eq_right (by omega), List.drop_eq_nil_of_le (Nat.le_refl _), List.drop_eq_nil_of_le (by omega)]
theorem cutZ_hi {α : Type} (xs : List α) {i : Int} (h : 0 ≤ i) : cutZ xs none (some i) = xs.take i.toNat := by
  obtain ⟨n, rfl⟩ : ∃ n : Nat, i = n := ⟨i.toNat, by omega⟩
  unfold cutZ
  rw [HT.sIx_nat, HT.sIx_none]
  simp only [Int.toNat_natCast, List.drop_zero, Nat.sub_zero]
  by_cases hn : n ≤ xs.length
  · rw [Nat.min_eq_left hn]
  · rw [Nat.min_eq_right (by omega), List.take_length, List.take_of_length_le (by omega)]
theorem cutZ_sub {α : Type} (xs : List α) (lo hi : Option Int) : (cutZ xs lo hi).Sublist xs := by
  unfold cutZ
  exact (List.take_sublist _ _).trans (List.drop_sublist _ _)
/-! ### abs, max -/
theorem absZ_eq (x : Int) : absZ x = (x.natAbs : Int) := by unfold absZ; split <;> omega
theorem foldl_max (l : List Int) (x : Int) : x ≤ l.foldl (fun m y => if m < y then y else m) x ∧ (∀ y ∈ l, y ≤ l.foldl (fun m y => if m < y then y else m) x) ∧ (l.foldl (fun m y => if m < y then y else m) x = x ∨ l.foldl (fun m y => if m < y then y else m) x ∈ l) := by
  induction l generalizing x with
  | nil => simp
  | cons a l ih =>
    simp only [List.foldl_cons]
    obtain ⟨h1, h2, h3⟩ := ih (if x < a then a else x)
    refine ⟨by
      by_cases hxy : x < a
      · simp only [if_pos hxy] at h1 ⊢; omega
      · simp only [if_neg hxy] at h1 ⊢; exact h1, ?_, ?_⟩
    · intro y hy
      rcases List.mem_cons.mp hy with rfl | hy
      · have h1 := h1
        by_cases hxy : x < y
        · simp only [if_pos hxy] at h1 ⊢; exact h1
        · simp only [if_neg hxy] at h1 ⊢; omega
      · exact h2 y hy
    · rcases h3 with h3 | h3
      · rw [h3]
        split
        · exact .inr (List.mem_cons_self ..)
        · exact .inl rfl
      · exact .inr (List.mem_cons_of_mem _ h3)
theorem maxZ_spec {l : List Int} (h : l ≠ []) : maxZ l ∈ l ∧ ∀ y ∈ l, y ≤ maxZ l := by
  cases l with
  | nil => exact absurd rfl h
  | cons x r =>
    unfold maxZ maxI
    simp only [Option.getD_some]
    obtain ⟨h1, h2, h3⟩ := foldl_max r x
    refine ⟨?_, ?_⟩
    · rcases h3 with h3 | h3
      · rw [h3]; exact List.mem_cons_self ..
      · exact List.mem_cons_of_mem _ h3
    · intro y hy
      rcases List.mem_cons.mp hy with rfl | hy
      · exact h1
      · exact h2 y hy
/-! ### dicts -/
theorem lookZ_put {α β : Type} [DecidableEq α] (k : α) (v : β) (l : List (α × β)) (x : α) : lookZ (putZ k v l) x = if k = x then some v else lookZ l x := by
  unfold putZ
  split
  · rename_i h
    unfold lookZ
    induction l with
    | nil => simp at h
    | cons p l ih =>
      simp only [List.map_cons, List.find?_cons]
      by_cases hp : p.1 = k
      · simp only [hp, if_true]
        by_cases hx : k = x
        · simp [hx]
        · simp only [hx, decide_false, if_false]
          by_cases ha : l.any (fun p => decide (p.1 = k)) = true
          · have := ih ha
            simpa [hx] using this
          · have e : l.map (fun p => if p.1 = k then (p.1, v) else p) = l := by
              have : ∀ q ∈ l, ¬ q.1 = k := by
                intro q hq hk
                exact ha (List.any_eq_true.mpr ⟨q, hq, by simp [hk]⟩)
              conv => rhs; rw [← List.map_id l]
              apply List.map_congr_left
              intro q hq
              simp [this q hq]
            rw [e]
      · simp only [hp, if_false]
        by_cases hx : p.1 = x
        · have : ¬ k = x := fun e => hp (by rw [hx, e])
          simp [hx, this]
        · have ha : l.any (fun p => decide (p.1 = k)) = true := by simpa [hp] using h
          simp only [hx, decide_false]
          exact ih ha
  · rename_i h
    unfold lookZ
    rw [List.find?_append]
    by_cases hx : k = x
    · subst hx
      have : l.find? (fun p => decide (p.1 = k)) = none := by
        rw [List.find?_eq_none]
        intro p hp hk
        exact h (List.any_eq_true.mpr ⟨p, hp, hk⟩)
      simp [this]
    · simp [hx]
theorem putZ_keys {α β : Type} [DecidableEq α] (k : α) (v : β) (l : List (α × β)) : (putZ k v l).map (·.1) = if k ∈ l.map (·.1) then l.map (·.1) else l.map (·.1) ++ [k] := by
  unfold putZ
  have e : l.any (fun p => decide (p.1 = k)) = decide (k ∈ l.map (·.1)) := by
    induction l with
    | nil => rfl
    | cons p l ih =>
      simp only [List.any_cons, ih, List.map_cons, List.mem_cons]
      rw [← Bool.decide_or]
      exact decide_eq_decide.mpr (by simp [eq_comm])
  rw [e]
  by_cases h : k ∈ l.map (·.1)
  · rw [if_pos (by simpa using h), if_pos h, List.map_map]
    apply List.map_congr_left
    intro p _
    simp only [Function.comp]
    split <;> rfl
  · rw [if_neg (by simpa using h), if_neg h, List.map_append]; rfl
theorem putZ_len {α β : Type} [DecidableEq α] (k : α) (v : β) (l : List (α × β)) : (putZ k v l).length ≤ l.length + 1 := by
  unfold putZ
  split <;> simp
/-! ### folds -/
theorem foldl_app {α β : Type} (g : α → List β) : ∀ (l : List α) (a : List β), l.foldl (fun st x => st ++ g x) a = a ++ l.flatMap g
  | [], a => by simp
  | x :: l, a => by simp [foldl_app g l]
theorem foldl_sum {α : Type} (g : α → Int) : ∀ (l : List α) (a : Int), l.foldl (fun st x => st + g x) a = a + (l.map g).sum
  | [], a => by simp
  | x :: l, a => by simp only [List.foldl_cons, foldl_sum g l, List.map_cons, List.sum_cons]; omega
theorem sum_map_add {α : Type} (f g : α → Int) : ∀ l : List α, (l.map fun x => f x + g x).sum = (l.map f).sum + (l.map g).sum
  | [] => rfl
  | x :: l => by simp only [List.map_cons, List.sum_cons, sum_map_add f g l]; omega
theorem sum_map_mul {α : Type} (c : Int) (f : α → Int) : ∀ l : List α, (l.map fun x => c * f x).sum = c * (l.map f).sum
  | [] => by simp
  | x :: l => by simp only [List.map_cons, List.sum_cons, sum_map_mul c f l, Int.mul_add]
theorem sum_map_neg {α : Type} (f : α → Int) : ∀ l : List α, (l.map fun x => -f x).sum = -(l.map f).sum
  | [] => rfl
  | x :: l => by simp only [List.map_cons, List.sum_cons, sum_map_neg f l]; omega
theorem sum_map_zero {α : Type} : ∀ l : List α, (l.map fun _ => (0 : Int)).sum = 0
  | [] => rfl
  | x :: l => by simp only [List.map_cons, List.sum_cons, sum_map_zero l]; rfl
theorem sum_swap {α β : Type} (f : α → β → Int) (l : List α) (m : List β) : (l.map fun x => (m.map fun y => f x y).sum).sum = (m.map fun y => (l.map fun x => f x y).sum).sum := by
  induction l with
  | nil => simp [sum_map_zero]
  | cons a l ih => simp only [List.map_cons, List.sum_cons, ih, sum_map_add]
theorem sum_filter {α : Type} (p : α → Bool) (f : α → Int) : ∀ l : List α, ((l.filter p).map f).sum = (l.map fun x => if p x = true then f x else 0).sum
  | [] => rfl
  | x :: l => by
    simp only [List.filter_cons, List.map_cons, List.sum_cons]
    split
    · simp only [List.map_cons, List.sum_cons, sum_filter p f l]
    · rw [sum_filter p f l]; omega
theorem sum_perm {l m : List Int} (p : l.Perm m) : l.sum = m.sum := by
  induction p with
  | nil => rfl
  | cons x _ ih => simp only [List.sum_cons, ih]
  | swap x y l => simp only [List.sum_cons]; omega
  | trans _ _ h1 h2 => exact h1.trans h2
theorem sum_congr {α : Type} {f g : α → Int} {l : List α} (h : ∀ a ∈ l, f a = g a) : (l.map f).sum = (l.map g).sum := by rw [List.map_congr_left h]
end Iv

/-! Rows, signs, rests, choices: plain mathematics. -/
namespace Iv
open PySem
abbrev Row := List (Int × Int)
def col (r : Row) (i : Int) : Int := (atZ r i).1
def len (r : Row) (i : Int) : Int := (atZ r i).2
def rng (r : Row) : List Int := rangeZ 0 r.length
def nums (r : Row) (c : Int) : List Int := (rng r).filter fun i => decide (col r i = c)
theorem mem_rng {r : Row} {i : Int} : i ∈ rng r ↔ 0 ≤ i ∧ i < r.length := mem_range
theorem mem_nums {r : Row} {c i : Int} : i ∈ nums r c ↔ (0 ≤ i ∧ i < r.length) ∧ col r i = c := by
  unfold nums
  rw [List.mem_filter, mem_rng]; simp
theorem nums_asc (r : Row) (c : Int) : (nums r c).Pairwise (· < ·) := (range_asc _ _).filter _
theorem nums_len (r : Row) (c : Int) : (nums r c).length ≤ r.length := by
  unfold nums rng
  refine Nat.le_trans (List.length_filter_le _ _) ?_
  rw [rangeZ_len]; omega
/-! ### signs -/
def sg (k : Nat) : Int := if k % 2 = 0 then 1 else -1
theorem sg_add (a b : Nat) : sg (a + b) = sg a * sg b := by
  unfold sg
  rcases Nat.mod_two_eq_zero_or_one a with h | h <;> rcases Nat.mod_two_eq_zero_or_one b with g | g <;> simp [Nat.add_mod, h, g]
theorem sg_succ (a : Nat) : sg (a + 1) = -sg a := by rw [sg_add]; simp [sg]
theorem sg_pm (a : Nat) : sg a = 1 ∨ sg a = -1 := by unfold sg; split <;> simp
theorem sg_sq (a : Nat) : sg a * sg a = 1 := by rcases sg_pm a with h | h <;> rw [h] <;> rfl
theorem sg_two (a : Nat) : sg (2 * a) = 1 := by unfold sg; simp
theorem sg_sub {a b : Nat} (h : b ≤ a) : sg (a - b) = sg a * sg b := by
  have := sg_add (a - b) b
  rw [Nat.sub_add_cancel h] at this
  rw [this, Int.mul_assoc, sg_sq, Int.mul_one]
def cLe (l : List Int) (n : Int) : Nat := (l.filter fun o => decide (o ≤ n)).length
def cLt (l : List Int) (n : Int) : Nat := (l.filter fun o => decide (o < n)).length
def sgn (fx ch : List Int) (n : Int) : Int := sg (cLe fx n + cLt ch n)
theorem cLe_perm {l m : List Int} (h : l.Perm m) (n : Int) : cLe l n = cLe m n := (h.filter _).length_eq
theorem cLt_perm {l m : List Int} (h : l.Perm m) (n : Int) : cLt l n = cLt m n := (h.filter _).length_eq
theorem cLe_app (l m : List Int) (n : Int) : cLe (l ++ m) n = cLe l n + cLe m n := by simp [cLe]
theorem cLt_app (l m : List Int) (n : Int) : cLt (l ++ m) n = cLt l n + cLt m n := by simp [cLt]
theorem cLe_cons (a : Int) (l : List Int) (n : Int) : cLe (a :: l) n = (if a ≤ n then 1 else 0) + cLe l n := by
  unfold cLe
  rw [List.filter_cons]
  split <;> rename_i h
  · simp only [decide_eq_true_eq] at h; simp [h]; omega
  · simp only [decide_eq_true_eq] at h; simp [h]
theorem cLt_cons (a : Int) (l : List Int) (n : Int) : cLt (a :: l) n = (if a < n then 1 else 0) + cLt l n := by
  unfold cLt
  rw [List.filter_cons]
  split <;> rename_i h
  · simp only [decide_eq_true_eq] at h; simp [h]; omega
  · simp only [decide_eq_true_eq] at h; simp [h]
theorem cLe_nil (n : Int) : cLe [] n = 0 := rfl
theorem cLt_nil (n : Int) : cLt [] n = 0 := rfl
theorem cLe_of_notin {l : List Int} {n : Int} (h : n ∉ l) : cLe l n = cLt l n := by
  unfold cLe cLt
  congr 1
  apply List.filter_congr
  intro o ho
  have : o ≠ n := fun e => h (e ▸ ho)
  exact decide_eq_decide.mpr (by omega)
theorem cLe_of_in {l : List Int} {n : Int} (hn : l.Nodup) (h : n ∈ l) : cLe l n = cLt l n + 1 := by
  induction l with
  | nil => simp at h
  | cons a l ih =>
    rw [cLe_cons, cLt_cons]
    rw [List.nodup_cons] at hn
    by_cases e : a = n
    · subst e
      rw [if_pos (Int.le_refl _), if_neg (by omega), cLe_of_notin hn.1]; omega
    · have h' : n ∈ l := by
        rcases List.mem_cons.mp h with h | h
        · exact absurd h.symm e
        · exact h
      rw [ih hn.2 h']
      by_cases h1 : a ≤ n
      · rw [if_pos h1, if_pos (by omega)]; omega
      · rw [if_neg h1, if_neg (by omega)]; omega
/-! ### rests -/
def restM (r : Row) (ls fx ch : List Int) (j : Int) : Int := (((nums r (col r j)).filter fun n => !decide (n = j)).map fun n => sgn fx ch n * atZ ls n).sum
def rightM (r : Row) (ls fx ch : List Int) : Bool := ch.all fun j => decide (-atZ ls j < restM r ls fx ch j ∧ restM r ls fx ch j < atZ ls j)
theorem right_iff {r : Row} {ls fx ch : List Int} : rightM r ls fx ch = true ↔ ∀ j ∈ ch, -atZ ls j < restM r ls fx ch j ∧ restM r ls fx ch j < atZ ls j := by
  unfold rightM
  simp [List.all_eq_true]
theorem rest_flip {r : Row} {ls fx fx' ch : List Int} {j ε : Int} (h : ∀ n ∈ nums r (col r j), n ≠ j → sgn fx' ch n = ε * sgn fx ch n) : restM r ls fx' ch j = ε * restM r ls fx ch j := by
  unfold restM
  rw [← sum_map_mul]
  apply sum_congr
  intro n hn
  rw [List.mem_filter] at hn
  rw [h n hn.1 (by simpa using hn.2), Int.mul_assoc]
theorem right_flip {r : Row} {ls fx fx' ch : List Int} {ε : Int} (he : ε = 1 ∨ ε = -1) (h : ∀ j ∈ ch, ∀ n ∈ nums r (col r j), n ≠ j → sgn fx' ch n = ε * sgn fx ch n) : rightM r ls fx' ch = rightM r ls fx ch := by
  apply Bool.eq_iff_iff.mpr
  rw [right_iff, right_iff]
  apply forall_congr'
  intro j
  apply forall_congr'
  intro hj
  rw [rest_flip (h j hj)]
  rcases he with rfl | rfl <;> omega
/-! ### ends put or left out -/
def togg (fx some : List Int) : List Int := sortZ eZ ((fx.filter fun a => !decide (a ∈ some)) ++ (some.filter fun a => !decide (a ∈ fx)))
theorem togg_asc {fx some : List Int} (h1 : fx.Nodup) (h2 : some.Nodup) : (togg fx some).Pairwise (· < ·) := by
  apply sortZ_asc
  rw [List.nodup_append]
  refine ⟨h1.filter _, h2.filter _, ?_⟩
  intro a ha b hb e
  subst e
  rw [List.mem_filter] at ha hb
  simp at ha hb
  exact hb.2 ha.1
theorem mem_togg {fx some : List Int} {a : Int} : a ∈ togg fx some ↔ (a ∈ fx ∧ a ∉ some) ∨ (a ∈ some ∧ a ∉ fx) := by
  unfold togg
  rw [mem_sortZ, List.mem_append, List.mem_filter, List.mem_filter]
  simp
theorem cLe_split (l : List Int) (p : Int → Bool) (n : Int) : cLe l n = cLe (l.filter p) n + cLe (l.filter fun a => !p a) n := by
  induction l with
  | nil => rfl
  | cons a l ih =>
    rw [List.filter_cons, List.filter_cons, cLe_cons, ih]
    cases hp : p a with
    | true => simp only [if_true, Bool.not_true, Bool.false_eq_true, if_false, cLe_cons]; omega
    | false => simp only [if_true, Bool.not_false, Bool.false_eq_true, if_false, cLe_cons]; omega
theorem sg_togg {fx some : List Int} (h1 : fx.Nodup) (h2 : some.Nodup) (n : Int) : sg (cLe (togg fx some) n) = sg (cLe fx n) * sg (cLe some n) := by
  have e1 : cLe (togg fx some) n = cLe (fx.filter fun a => !decide (a ∈ some)) n + cLe (some.filter fun a => !decide (a ∈ fx)) n := by
    unfold togg
    rw [cLe_perm (sortZ_perm _ _), cLe_app]
  have e2 := cLe_split fx (fun a => decide (a ∈ some)) n
  have e3 := cLe_split some (fun a => decide (a ∈ fx)) n
  have e4 : cLe (fx.filter fun a => decide (a ∈ some)) n = cLe (some.filter fun a => decide (a ∈ fx)) n := by
    apply cLe_perm
    apply nodup_ext (h1.filter _) (h2.filter _)
    intro a
    rw [List.mem_filter, List.mem_filter]
    simp [and_comm]
  rw [← sg_add, e1, e2, e3, e4]
  have : ∀ a b c : Nat, sg (b + c) = sg (a + b + (a + c)) := by
    intro a b c
    have : a + b + (a + c) = 2 * a + (b + c) := by omega
    rw [this, sg_add (2 * a), sg_two, Int.one_mul]
  exact this _ _ _
theorem sgn_togg {fx some : List Int} (h1 : fx.Nodup) (h2 : some.Nodup) (ch : List Int) (n : Int) : sgn (togg fx some) ch n = sg (cLe some n) * sgn fx ch n := by
  unfold sgn
  rw [sg_add, sg_add, sg_togg h1 h2, Int.mul_comm (sg (cLe fx n)), Int.mul_assoc]
/-! ### choices -/
def rawStep (r : Row) (found : List (List Int)) (c : Int) : List (List Int) := found.flatMap fun o => (nums r c).map fun n => o ++ [n]
def rawM (r : Row) (cs : List Int) : List (List Int) := cs.foldl (rawStep r) [[]]
def chsM (r : Row) (cs : List Int) : List (List Int) := sortZ (eT eZ) ((rawM r cs).map (sortZ eZ))
/-- an ascending tuple of one piece of each of some colours -/
structure IsCh (r : Row) (cs ch : List Int) : Prop where
  asc : ch.Pairwise (· < ·)
  rng : ∀ j ∈ ch, 0 ≤ j ∧ j < r.length
  cut : (ch.map (col r)).Perm cs
theorem mem_rawG {r : Row} : ∀ {cs : List Int} {acc : List (List Int)} {o : List Int}, o ∈ cs.foldl (rawStep r) acc ↔ ∃ p ∈ acc, ∃ q, o = p ++ q ∧ q.map (col r) = cs ∧ ∀ j ∈ q, 0 ≤ j ∧ j < r.length
  | [], acc, o => by
    simp only [List.foldl_nil, List.map_eq_nil_iff]
    constructor
    · intro h; exact ⟨o, h, [], by simp, rfl, by simp⟩
    · rintro ⟨p, hp, q, rfl, rfl, _⟩; simpa using hp
  | c :: cs, acc, o => by
    rw [List.foldl_cons, mem_rawG]
    constructor
    · rintro ⟨p, hp, q, rfl, h1, h2⟩
      unfold rawStep at hp
      rw [List.mem_flatMap] at hp
      obtain ⟨p0, hp0, hp⟩ := hp
      obtain ⟨n, hn, rfl⟩ := List.mem_map.mp hp
      rw [mem_nums] at hn
      refine ⟨p0, hp0, n :: q, by simp, by simp [hn.2, h1], ?_⟩
      intro j hj
      rcases List.mem_cons.mp hj with rfl | hj
      · exact hn.1
      · exact h2 j hj
    · rintro ⟨p, hp, q, rfl, h1, h2⟩
      cases q with
      | nil => simp at h1
      | cons n q =>
        simp only [List.map_cons, List.cons.injEq] at h1
        refine ⟨p ++ [n], ?_, q, by simp, h1.2, fun j hj => h2 j (List.mem_cons_of_mem _ hj)⟩
        unfold rawStep
        rw [List.mem_flatMap]
        exact ⟨p, hp, List.mem_map.mpr ⟨n, mem_nums.mpr ⟨h2 n (List.mem_cons_self ..), h1.1⟩, rfl⟩⟩
theorem mem_raw {r : Row} {cs o : List Int} : o ∈ rawM r cs ↔ o.map (col r) = cs ∧ ∀ j ∈ o, 0 ≤ j ∧ j < r.length := by
  unfold rawM
  rw [mem_rawG]
  constructor
  · rintro ⟨p, hp, q, rfl, h1, h2⟩
    rw [List.mem_singleton] at hp
    subst hp
    simpa using ⟨h1, h2⟩
  · rintro ⟨h1, h2⟩
    exact ⟨[], List.mem_singleton.mpr rfl, o, rfl, h1, h2⟩
theorem raw_nodup (r : Row) : ∀ (cs : List Int) (acc : List (List Int)), acc.Nodup → (cs.foldl (rawStep r) acc).Nodup
  | [], acc, h => h
  | c :: cs, acc, h => by
    rw [List.foldl_cons]
    apply raw_nodup r cs
    unfold rawStep List.Nodup
    rw [List.pairwise_flatMap]
    refine ⟨fun o _ => ?_, ?_⟩
    · rw [List.pairwise_map]
      exact (nums_asc r c).imp fun hlt e => by
        have := List.append_cancel_left e
        simp at this; omega
    · exact h.imp fun hne x hx y hy e => by
        obtain ⟨n, _, rfl⟩ := List.mem_map.mp hx
        obtain ⟨n', _, rfl⟩ := List.mem_map.mp hy
        exact hne (List.append_inj_left' e rfl)
theorem raw_len (r : Row) : ∀ (cs : List Int) (acc : List (List Int)), (cs.foldl (rawStep r) acc).length ≤ acc.length * r.length ^ cs.length
  | [], acc => by simp
  | c :: cs, acc => by
    rw [List.foldl_cons]
    refine Nat.le_trans (raw_len r cs _) ?_
    have : (rawStep r acc c).length ≤ acc.length * r.length := by
      unfold rawStep
      induction acc with
      | nil => simp
      | cons a acc ih =>
        rw [List.flatMap_cons, List.length_append, List.length_map, List.length_cons, Nat.add_mul, Nat.one_mul]
        have := nums_len r c
        omega
    rw [List.length_cons, Nat.pow_succ, Nat.mul_comm (r.length ^ cs.length), ← Nat.mul_assoc]
    exact Nat.mul_le_mul_right _ this
theorem inj_lists {f : Int → Int} : ∀ {o o' : List Int}, o.map f = o'.map f → (o.map f).Nodup → (∀ x ∈ o', x ∈ o) → o = o'
  | [], [], _, _, _ => rfl
  | [], b :: l', h, _, _ => by simp at h
  | a :: l, [], h, _, _ => by simp at h
  | a :: l, b :: l', h, hn, hs => by
    simp only [List.map_cons, List.cons.injEq] at h
    simp only [List.map_cons, List.nodup_cons] at hn
    have hb : b = a := by
      rcases List.mem_cons.mp (hs b (List.mem_cons_self ..)) with e | hb
      · exact e
      · exact absurd (h.1 ▸ List.mem_map_of_mem hb) hn.1
    subst hb
    rw [inj_lists h.2 hn.2 fun x hx => ?_]
    rcases List.mem_cons.mp (hs x (List.mem_cons_of_mem _ hx)) with e | h'
    · subst e
      exact absurd (h.2 ▸ List.mem_map_of_mem hx) hn.1
    · exact h'
theorem chs_nodup {r : Row} {cs : List Int} (hc : cs.Nodup) : (chsM r cs).Nodup := by
  unfold chsM
  rw [(sortZ_perm _ _).nodup_iff]
  unfold List.Nodup
  rw [List.pairwise_map]
  refine (raw_nodup r cs [[]] (by simp)).imp_of_mem fun {o o'} ho ho' hne e => hne ?_
  obtain ⟨h1, _⟩ := mem_raw.mp ho
  obtain ⟨h2, _⟩ := mem_raw.mp ho'
  refine inj_lists (f := col r) (h1.trans h2.symm) (h1 ▸ hc) fun x hx => ?_
  exact mem_sortZ.mp (e ▸ mem_sortZ.mpr hx)
theorem IsCh.cols {r : Row} {cs ch : List Int} (h : IsCh r cs ch) (hc : cs.Nodup) : (ch.map (col r)).Nodup := h.cut.nodup_iff.mpr hc
theorem col_inj {r : Row} {ch : List Int} (h : (ch.map (col r)).Nodup) {i j : Int} (hi : i ∈ ch) (hj : j ∈ ch) (e : col r i = col r j) : i = j := by
  induction ch with
  | nil => simp at hi
  | cons a l ih =>
    simp only [List.map_cons, List.nodup_cons] at h
    rcases List.mem_cons.mp hi with h1 | h1 <;> rcases List.mem_cons.mp hj with h2 | h2
    · rw [h1, h2]
    · exact absurd (show col r a ∈ l.map (col r) from h1 ▸ e ▸ List.mem_map_of_mem h2) h.1
    · exact absurd (show col r a ∈ l.map (col r) from h2 ▸ e ▸ List.mem_map_of_mem h1) h.1
    · exact ih h.2 h1 h2
theorem mem_chs {r : Row} {cs ch : List Int} (hc : cs.Nodup) : ch ∈ chsM r cs ↔ IsCh r cs ch := by
  unfold chsM
  rw [mem_sortZ, List.mem_map]
  constructor
  · rintro ⟨o, ho, rfl⟩
    obtain ⟨h1, h2⟩ := mem_raw.mp ho
    have hn : o.Nodup := by
      have : (o.map (col r)).Nodup := h1 ▸ hc
      exact List.Pairwise.of_map (col r) (fun a b h e => h (by rw [e])) this
    refine ⟨sortZ_asc hn, fun j hj => h2 j (mem_sortZ.mp hj), ?_⟩
    rw [← h1]
    exact (sortZ_perm eZ o).map _
  · intro h
    -- order the pieces by the colours
    obtain ⟨o, ho1, ho2⟩ : ∃ o : List Int, o.map (col r) = cs ∧ ∀ x, x ∈ o ↔ x ∈ ch := by
      have hmem : ∀ c ∈ cs, ∃ x ∈ ch, col r x = c := fun c hc => by
        have := h.cut.symm.subset hc
        obtain ⟨x, hx, e⟩ := List.mem_map.mp this
        exact ⟨x, hx, e⟩
      have hsub : ∀ x ∈ ch, col r x ∈ cs := fun x hx => h.cut.subset (List.mem_map_of_mem hx)
      have hinj : ∀ x ∈ ch, ∀ y ∈ ch, col r x = col r y → x = y := fun x hx y hy => col_inj (h.cols hc) hx hy
      refine ⟨cs.map fun c => (ch.find? fun x => decide (col r x = c)).getD 0, ?_, ?_⟩
      · rw [List.map_map]
        conv => rhs; rw [← List.map_id cs]
        apply List.map_congr_left
        intro c hc
        simp only [Function.comp, id]
        obtain ⟨x, hx, e⟩ := hmem c hc
        cases hf : ch.find? fun x => decide (col r x = c) with
        | none => exact absurd (List.find?_eq_none.mp hf x hx) (by simp [e])
        | some y => simpa using List.find?_some hf
      · intro x
        rw [List.mem_map]
        constructor
        · rintro ⟨c, hc, rfl⟩
          obtain ⟨y, hy, e⟩ := hmem c hc
          cases hf : ch.find? fun x => decide (col r x = c) with
          | none => exact absurd (List.find?_eq_none.mp hf y hy) (by simp [e])
          | some z => simpa using List.mem_of_find?_eq_some hf
        · intro hx
          refine ⟨col r x, hsub x hx, ?_⟩
          cases hf : ch.find? fun y => decide (col r y = col r x) with
          | none => exact absurd (List.find?_eq_none.mp hf x hx) (by simp)
          | some z =>
            simp only [Option.getD_some]
            exact hinj z (List.mem_of_find?_eq_some hf) x hx (by simpa using List.find?_some hf)
    refine ⟨o, mem_raw.mpr ⟨ho1, fun j hj => h.rng j ((ho2 j).mp hj)⟩, ?_⟩
    have hn : o.Nodup := List.Pairwise.of_map (col r) (fun a b h e => h (by rw [e])) (show (o.map (col r)).Nodup from ho1 ▸ hc)
    exact asc_ext (sortZ_asc hn) h.asc fun x => by rw [mem_sortZ, ho2]
theorem IsCh.len {r : Row} {cs ch : List Int} (h : IsCh r cs ch) : ch.length = cs.length := by
  have := h.cut.length_eq
  rwa [List.length_map] at this
/-- a piece of a chosen one's colour, another one, is not chosen -/
theorem IsCh.other {r : Row} {cs ch : List Int} (h : IsCh r cs ch) (hc : cs.Nodup) {j n : Int} (hj : j ∈ ch) (hn : n ∈ nums r (col r j)) (hne : n ≠ j) : n ∉ ch := fun hm =>
  hne (col_inj (h.cols hc) hm hj (mem_nums.mp hn).2)
/-! ### transversals -/
def leanedM (r : Row) : List Int := (rng r).map fun i => len r i * 4 ^ r.length + 3 ^ i.toNat
def transM (r : Row) (cs fx : List Int) : List (List Int) := (chsM r cs).filter fun ch => rightM r (leanedM r) fx ch
theorem mem_trans {r : Row} {cs fx ch : List Int} (hc : cs.Nodup) : ch ∈ transM r cs fx ↔ IsCh r cs ch ∧ rightM r (leanedM r) fx ch = true := by
  unfold transM
  rw [List.mem_filter, mem_chs hc]
theorem trans_nodup {r : Row} {cs fx : List Int} (hc : cs.Nodup) : (transM r cs fx).Nodup := (chs_nodup hc).filter _
theorem trans_pw {r : Row} {cs fx : List Int} : (transM r cs fx).Pairwise fun a b => dle (eT eZ) a b = true := (sortZ_pw _ _).filter _
theorem trans_togg {r : Row} {cs fx some : List Int} (hc : cs.Nodup) (h1 : fx.Nodup) (h2 : some.Nodup) {ε : Int} (he : ε = 1 ∨ ε = -1) (h : ∀ n : Int, 0 ≤ n → n < r.length → col r n ∈ cs → sg (cLe some n) = ε) : transM r cs (togg fx some) = transM r cs fx := by
  unfold transM
  apply List.filter_congr
  intro ch hch
  rw [mem_chs hc] at hch
  refine right_flip he fun j hj n hn _ => ?_
  rw [sgn_togg h1 h2, h n (mem_nums.mp hn).1.1 (mem_nums.mp hn).1.2]
  rw [(mem_nums.mp hn).2]
  exact hch.cut.subset (List.mem_map_of_mem hj)
end Iv

/-! Sums by turns; leaned lengths; rows turned about. -/
namespace Iv
open PySem
theorem sum_split {f : Int → Int} : ∀ {l : List Int} {j : Int}, l.Nodup → j ∈ l → (l.map f).sum = f j + ((l.filter fun n => !decide (n = j)).map f).sum
  | [], j, _, h => by simp at h
  | a :: l, j, hn, h => by
    rw [List.nodup_cons] at hn
    by_cases e : a = j
    · subst e
      have : (a :: l).filter (fun n => !decide (n = a)) = l := by
        rw [List.filter_cons]
        simp only [decide_true, Bool.not_true, Bool.false_eq_true, if_false]
        rw [List.filter_eq_self]
        intro x hx
        simp
        intro e; exact hn.1 (e ▸ hx)
      rw [this, List.map_cons, List.sum_cons]
    · have hj : j ∈ l := by
        rcases List.mem_cons.mp h with h | h
        · exact absurd h.symm e
        · exact h
      rw [List.filter_cons]
      simp only [e, decide_false, Bool.not_false, if_true, List.map_cons, List.sum_cons, sum_split hn.2 hj]
      omega
/-! ### sums by turns -/
def altZ {α : Type} (f : α → Int) : List α → Int
  | [] => 0
  | x :: l => f x - altZ f l
theorem alt_enum {α : Type} (f : α → Int) (s : Int → Int) (hs : ∀ k : Nat, s (k : Int) = sg k) : ∀ (l : List α) (k : Nat), ((enumZ k l).map fun a => f a.2 * s a.1).sum = sg k * altZ f l
  | [], k => by simp [enumZ, altZ]
  | x :: l, k => by
    simp only [enumZ, List.map_cons, List.sum_cons, alt_enum f s hs l (k + 1), altZ, hs, sg_succ, Int.mul_sub, Int.neg_mul]
    rw [Int.mul_comm (f x)]; omega
theorem alt_sum {α β : Type} (g : β → α → Int) (m : List β) : ∀ l : List α, altZ (fun x => (m.map fun y => g y x).sum) l = (m.map fun y => altZ (g y) l).sum
  | [] => by simp [altZ, sum_map_zero]
  | x :: l => by
    simp only [altZ, alt_sum g m l]
    have : (m.map fun y => g y x - altZ (g y) l).sum = (m.map fun y => g y x).sum - (m.map fun y => altZ (g y) l).sum := by
      have := sum_map_add (fun y => g y x) (fun y => -altZ (g y) l) m
      rw [sum_map_neg] at this
      simpa [Int.sub_eq_add_neg] using this
    rw [this]
theorem alt_mul {α : Type} (c : Int) (f : α → Int) : ∀ l : List α, altZ (fun x => c * f x) l = c * altZ f l
  | [] => by simp [altZ]
  | x :: l => by simp only [altZ, alt_mul c f l, Int.mul_sub]
theorem alt_step (n : Int) : ∀ l : List (Int × Int), l.Pairwise (fun a b => a.1 ≤ b.1) → 2 * altZ (fun x => if n < x.1 then 1 else 0) l = sg (cLe (l.map (·.1)) n) - sg l.length
  | [], _ => by simp [altZ, cLe, sg]
  | x :: l, h => by
    rw [List.pairwise_cons] at h
    have ih := alt_step n l h.2
    simp only [altZ, Int.mul_sub, ih, List.map_cons, cLe_cons, List.length_cons, sg_succ]
    by_cases hx : n < x.1
    · have h0 : cLe (l.map (·.1)) n = 0 := by
        unfold cLe
        rw [List.length_eq_zero_iff, List.filter_eq_nil_iff]
        intro o ho
        obtain ⟨y, hy, rfl⟩ := List.mem_map.mp ho
        have := h.1 y hy
        simp; omega
      rw [if_pos hx, if_neg (by omega), h0]
      simp [sg]; omega
    · rw [if_neg hx, if_pos (by omega), Nat.add_comm, sg_succ]; omega
/-- how much of a colour lies ahead of an end -/
def preS (r : Row) (ls : List Int) (c e : Int) : Int := ((nums r c).map fun n => atZ ls n * (if n < e then 1 else 0)).sum
def marksM (fx ch : List Int) : List (Int × Int) := sortZ (eP eZ eZ) ((fx.map fun a => (a, (0 : Int))) ++ (ch.map fun a => (a, (1 : Int))))
theorem dle_pair (a b : Int × Int) : dle (eP eZ eZ) a b = true ↔ a.1 < b.1 ∨ (a.1 = b.1 ∧ a.2 ≤ b.2) := by
  have key : ∀ x y : Int, PyProof.Rows.itemLt (.inl x) (.inl y) = decide (x < y) := fun x y => rfl
  rw [dle_eq]
  simp only [eP, eZ, W.keyToks, W.keyToksAll, List.cons_append, List.nil_append, Bool.not_eq_true', PyProof.Rows.lexLt, key]
  by_cases h1 : a.1 < b.1 <;> by_cases h2 : b.1 < a.1 <;> by_cases h3 : a.2 < b.2 <;> by_cases h4 : b.2 < a.2 <;> simp [h1, h2, h3, h4] <;> omega
theorem marks_perm (fx ch : List Int) : (marksM fx ch).Perm ((fx.map fun a => (a, (0 : Int))) ++ (ch.map fun a => (a, (1 : Int)))) := sortZ_perm _ _
theorem marks_len (fx ch : List Int) : (marksM fx ch).length = fx.length + ch.length := by rw [(marks_perm fx ch).length_eq]; simp
theorem marks_pw (fx ch : List Int) : (marksM fx ch).Pairwise fun a b => a.1 < b.1 ∨ (a.1 = b.1 ∧ a.2 ≤ b.2) := (sortZ_pw _ _).imp fun h => (dle_pair _ _).mp h
theorem marks_cLe (fx ch : List Int) (n : Int) : cLe ((marksM fx ch).map (·.1)) n = cLe fx n + cLe ch n := by
  rw [cLe_perm ((marks_perm fx ch).map _), List.map_append, cLe_app]
  simp [List.map_map, Function.comp_def]
theorem alt_pre (r : Row) (ls fx ch : List Int) (c : Int) : altZ (fun x : Int × Int => 2 * preS r ls c x.1) (marksM fx ch) = ((nums r c).map fun n => atZ ls n * (sg (cLe fx n + cLe ch n) - sg (fx.length + ch.length))).sum := by
  have e : (fun x : Int × Int => 2 * preS r ls c x.1) = fun x => ((nums r c).map fun n => (2 * atZ ls n) * (if n < x.1 then 1 else 0)).sum := by
    funext x
    unfold preS
    rw [← sum_map_mul]
    apply sum_congr
    intro n _
    rw [Int.mul_assoc]
  rw [e, alt_sum (fun n (x : Int × Int) => (2 * atZ ls n) * (if n < x.1 then 1 else 0))]
  apply sum_congr
  intro n _
  have h := alt_step n (marksM fx ch) ((marks_pw fx ch).imp fun h => by omega)
  rw [marks_cLe, marks_len] at h
  rw [alt_mul, ← h, Int.mul_comm 2, Int.mul_assoc]
/-- what the sums by turns tell: how far the cut is behind the piece's beginning -/
def offM (r : Row) (ls fx ch : List Int) (j : Int) : Int := atZ ls j - sgn fx ch j * restM r ls fx ch j
theorem off_eq {r : Row} {ls fx ch : List Int} {j : Int} (hn : ch.Nodup) (hc : (ch.map (col r)).Nodup) (hj : j ∈ ch) (hr : 0 ≤ j ∧ j < r.length) :
    (-sg (fx.length + ch.length) * ((nums r (col r j)).map fun n => atZ ls n).sum - altZ (fun x : Int × Int => 2 * preS r ls (col r j) x.1) (marksM fx ch)) * sgn fx ch j = offM r ls fx ch j := by
  rw [alt_pre]
  have e1 : ((nums r (col r j)).map fun n => atZ ls n * (sg (cLe fx n + cLe ch n) - sg (fx.length + ch.length))).sum = ((nums r (col r j)).map fun n => atZ ls n * sg (cLe fx n + cLe ch n)).sum + -sg (fx.length + ch.length) * ((nums r (col r j)).map fun n => atZ ls n).sum := by
    rw [← sum_map_mul, ← sum_map_add]
    apply sum_congr
    intro n _
    rw [Int.mul_sub, Int.neg_mul, Int.mul_comm (sg (fx.length + ch.length))]; omega
  rw [e1]
  have hjm : j ∈ nums r (col r j) := mem_nums.mpr ⟨hr, rfl⟩
  rw [sum_split (f := fun n => atZ ls n * sg (cLe fx n + cLe ch n)) (asc_nodup (nums_asc r _)) hjm]
  have e2 : (((nums r (col r j)).filter fun n => !decide (n = j)).map fun n => atZ ls n * sg (cLe fx n + cLe ch n)).sum = restM r ls fx ch j := by
    unfold restM
    apply sum_congr
    intro n h
    rw [List.mem_filter] at h
    have hne : n ≠ j := by simpa using h.2
    have hnc : n ∉ ch := fun hm => hne (col_inj hc hm hj (mem_nums.mp h.1).2)
    rw [cLe_of_notin hnc, Int.mul_comm]; rfl
  rw [e2]
  have e3 : sg (cLe fx j + cLe ch j) = -sgn fx ch j := by
    rw [cLe_of_in hn hj, ← Nat.add_assoc, sg_succ]; rfl
  rw [e3]
  have e4 : sgn fx ch j * sgn fx ch j = 1 := sg_sq _
  unfold offM
  generalize restM r ls fx ch j = R
  generalize atZ ls j = A
  generalize -sg (fx.length + ch.length) * ((nums r (col r j)).map fun n => atZ ls n).sum = B
  generalize sgn fx ch j = s at e4
  have : (B - (A * -s + R + B)) = A * s - R := by
    rw [Int.mul_neg]; omega
  rw [this, Int.sub_mul, Int.mul_assoc, e4, Int.mul_one, Int.mul_comm R]
theorem off_right {r : Row} {ls fx ch : List Int} {j : Int} : (0 < offM r ls fx ch j ∧ offM r ls fx ch j < 2 * atZ ls j) ↔ (-atZ ls j < restM r ls fx ch j ∧ restM r ls fx ch j < atZ ls j) := by
  unfold offM
  rcases sg_pm (cLe fx j + cLt ch j) with h | h
  · have : sgn fx ch j = 1 := h
    rw [this]; omega
  · have : sgn fx ch j = -1 := h
    rw [this]; omega
/-- the place of a chosen piece among the marks -/
theorem marks_spot {fx ch A B : List (Int × Int)} {f c : List Int} {j : Int} (hf : f.Nodup) (hc : c.Nodup) (h : marksM f c = A ++ (j, 1) :: B) : A.length = cLe f j + cLt c j := by
  have hp := marks_pw f c
  rw [h, List.pairwise_append, List.pairwise_cons] at hp
  have hd : (marksM f c).Nodup := by
    rw [(marks_perm f c).nodup_iff, List.nodup_append]
    refine ⟨?_, ?_, ?_⟩
    · unfold List.Nodup; rw [List.pairwise_map]; exact hf.imp fun hne e => hne (by simpa using e)
    · unfold List.Nodup; rw [List.pairwise_map]; exact hc.imp fun hne e => hne (by simpa using e)
    · intro x hx y hy e
      obtain ⟨a, _, rfl⟩ := List.mem_map.mp hx
      obtain ⟨b, _, rfl⟩ := List.mem_map.mp hy
      simp at e
  rw [h, List.nodup_append, List.nodup_cons] at hd
  let p : Int × Int → Bool := fun x => decide (x.1 < j ∨ (x.1 = j ∧ x.2 < 1))
  have e1 : ((marksM f c).filter p).length = cLe f j + cLt c j := by
    rw [((marks_perm f c).filter p).length_eq, List.filter_append, List.length_append]
    congr 1
    · rw [List.filter_map, List.length_map]
      unfold cLe
      congr 1
      apply List.filter_congr
      intro a _
      exact decide_eq_decide.mpr (by simp only; omega)
    · rw [List.filter_map, List.length_map]
      unfold cLt
      congr 1
      apply List.filter_congr
      intro a _
      simp [p]
  have e2 : (marksM f c).filter p = A := by
    rw [h, List.filter_append, List.filter_cons]
    have hA : A.filter p = A := by
      rw [List.filter_eq_self]
      intro x hx
      have h1 := hp.2.2 x hx (j, 1) (List.mem_cons_self ..)
      have h2 : x ≠ (j, 1) := fun e => hd.2.2 x hx (j, 1) (List.mem_cons_self ..) e
      have h3 : x.1 = j → x.2 ≠ 1 := fun e1 e2 => h2 (Prod.ext e1 e2)
      simp only [p, decide_eq_true_eq]
      simp only at h1
      omega
    have hB : B.filter p = [] := by
      rw [List.filter_eq_nil_iff]
      intro x hx
      have h1 := hp.2.1.1 x hx
      have h2 : x ≠ (j, 1) := fun e => hd.2.1.1 (e ▸ hx)
      simp only [p, decide_eq_true_eq]
      simp only at h1
      omega
    rw [hA, hB]
    simp [p]
  rw [← e1, e2]
/-! ### leaned lengths -/
theorem leaned_len (r : Row) : (leanedM r).length = r.length := by simp [leanedM, rng, rangeZ_len]
theorem leaned_at {r : Row} {i : Int} (h0 : 0 ≤ i) (h1 : i < r.length) : atZ (leanedM r) i = len r i * 4 ^ r.length + 3 ^ i.toNat := by
  unfold leanedM rng
  rw [atZ_map (fun i => len r i * 4 ^ r.length + 3 ^ i.toNat) h0 (by rw [rangeZ_len]; omega), atZ_range h0 (by omega)]
  simp
def lensM (r : Row) : List Int := r.map (·.2)
theorem lens_at {r : Row} {i : Int} (h0 : 0 ≤ i) (h1 : i < r.length) : atZ (lensM r) i = len r i := by
  unfold lensM
  rw [atZ_map (fun x : Int × Int => x.2) h0 h1]; rfl
theorem lens_len (r : Row) : (lensM r).length = r.length := by simp [lensM]
/-- sums of powers of 3, each + or - or left out -/
theorem three_lt {a : Int → Int} : ∀ m : Nat, (∀ n : Int, 0 ≤ n → n < m → -(3 ^ n.toNat) ≤ a n ∧ a n ≤ 3 ^ n.toNat) → 2 * ((rangeZ 0 m).map a).sum < 3 ^ m ∧ -(3 ^ m) < 2 * ((rangeZ 0 m).map a).sum
  | 0, _ => by simp [range_nil]
  | m + 1, h => by
    obtain ⟨h1, h2⟩ := three_lt m fun n h0 h1 => h n h0 (by omega)
    obtain ⟨h3, h4⟩ := h m (by omega) (by omega)
    have : rangeZ 0 ((m + 1 : Nat) : Int) = rangeZ 0 (m : Int) ++ [(m : Int)] := by
      rw [show ((m + 1 : Nat) : Int) = (m : Int) + 1 by omega]
      exact range_snoc (by omega)
    rw [this, List.map_append, List.sum_append, Int.pow_succ]
    simp only [List.map_cons, List.map_nil, List.sum_cons, List.sum_nil, Int.toNat_natCast] at h3 h4 ⊢
    omega
theorem three_four (m : Nat) : (3 : Int) ^ m ≤ 4 ^ m := by
  induction m with
  | zero => simp
  | succ m ih =>
    rw [Int.pow_succ, Int.pow_succ]
    have : (0 : Int) < 3 ^ m := Int.pow_pos (by omega)
    omega
/-- a sum of a colour's pieces, each with a sign -/
def sumS (r : Row) (ls : List Int) (c : Int) (s : Int → Int) : Int := ((nums r c).map fun n => s n * atZ ls n).sum
theorem sumS_lean (r : Row) (c : Int) (s : Int → Int) : sumS r (leanedM r) c s = 4 ^ r.length * sumS r (lensM r) c s + ((rangeZ 0 r.length).map fun n => if col r n = c then s n * 3 ^ n.toNat else 0).sum := by
  unfold sumS
  have e : ((rangeZ 0 r.length).map fun n => if col r n = c then s n * 3 ^ n.toNat else 0).sum = ((nums r c).map fun n => s n * 3 ^ n.toNat).sum := by
    unfold nums
    rw [sum_filter]
    apply sum_congr
    intro n _
    simp
  rw [e, ← sum_map_mul, ← sum_map_add]
  apply sum_congr
  intro n hn
  obtain ⟨⟨h0, h1⟩, _⟩ := mem_nums.mp hn
  rw [leaned_at h0 h1, lens_at h0 h1, Int.mul_add, ← Int.mul_assoc, Int.mul_comm (4 ^ r.length)]
theorem lean_small (r : Row) (c : Int) {s : Int → Int} (hs : ∀ n, s n = 1 ∨ s n = -1) : ((rangeZ 0 r.length).map fun n => if col r n = c then s n * 3 ^ n.toNat else 0).sum < 4 ^ r.length ∧ -(4 ^ r.length) < ((rangeZ 0 r.length).map fun n => if col r n = c then s n * 3 ^ n.toNat else 0).sum := by
  have h := three_lt (a := fun n => if col r n = c then s n * 3 ^ n.toNat else 0) r.length fun n _ _ => by
    have hp : (0 : Int) < 3 ^ n.toNat := Int.pow_pos (by omega)
    by_cases hcn : col r n = c
    · rw [if_pos hcn]
      rcases hs n with e | e <;> rw [e] <;> omega
    · rw [if_neg hcn]; omega
  have := three_four r.length
  have h3 : (0 : Int) < 3 ^ r.length := Int.pow_pos (by omega)
  omega
/-- a sum of leaned lengths has the sign of the sum of the lengths, if this is not 0 -/
theorem lean_sign (r : Row) (c : Int) {s : Int → Int} (hs : ∀ n, s n = 1 ∨ s n = -1) (h0 : sumS r (lensM r) c s ≠ 0) : 0 < sumS r (leanedM r) c s ↔ 0 < sumS r (lensM r) c s := by
  obtain ⟨h1, h2⟩ := lean_small r c hs
  rw [sumS_lean]
  have h4 : (0 : Int) < 4 ^ r.length := Int.pow_pos (by omega)
  generalize ((rangeZ 0 r.length).map fun n => if col r n = c then s n * 3 ^ n.toNat else 0).sum = Q at h1 h2
  generalize sumS r (lensM r) c s = P at h0
  generalize (4 : Int) ^ r.length = M at h1 h2 h4
  constructor
  · intro h
    by_cases hp : 0 < P
    · exact hp
    · have : M * P ≤ M * (-1) := Int.mul_le_mul_of_nonneg_left (by omega) (by omega)
      omega
  · intro h
    have : M * 1 ≤ M * P := Int.mul_le_mul_of_nonneg_left (by omega) (by omega)
    omega
theorem sumS_neg (r : Row) (ls : List Int) (c : Int) (s : Int → Int) : sumS r ls c (fun n => -s n) = -sumS r ls c s := by
  unfold sumS
  rw [← sum_map_neg]
  apply sum_congr
  intro n _
  rw [Int.neg_mul]
theorem lean_sign' (r : Row) (c : Int) {s : Int → Int} (hs : ∀ n, s n = 1 ∨ s n = -1) (h0 : sumS r (lensM r) c s ≠ 0) : sumS r (leanedM r) c s < 0 ↔ sumS r (lensM r) c s < 0 := by
  have := lean_sign r c (s := fun n => -s n) (fun n => by rcases hs n with h | h <;> simp [h]) (by rw [sumS_neg]; omega)
  rw [sumS_neg, sumS_neg] at this
  omega
/-- a rest and the chosen piece, + or - -/
theorem rest_sum {r : Row} {ls fx ch : List Int} {j : Int} (hr : 0 ≤ j ∧ j < r.length) (e : Int) : restM r ls fx ch j + e * atZ ls j = sumS r ls (col r j) fun n => if n = j then e else sgn fx ch n := by
  unfold sumS
  rw [sum_split (f := fun n => (if n = j then e else sgn fx ch n) * atZ ls n) (asc_nodup (nums_asc r _)) (mem_nums.mpr ⟨hr, rfl⟩)]
  simp only [if_true]
  have : (((nums r (col r j)).filter fun n => !decide (n = j)).map fun n => (if n = j then e else sgn fx ch n) * atZ ls n).sum = restM r ls fx ch j := by
    unfold restM
    apply sum_congr
    intro n h
    rw [List.mem_filter] at h
    have : n ≠ j := by simpa using h.2
    rw [if_neg this]
  rw [this]; omega
def plainM (r : Row) (cs : List Int) : Prop := ∀ c ∈ cs, ∀ s : Int → Int, (∀ n, s n = 1 ∨ s n = -1) → sumS r (lensM r) c s ≠ 0
theorem right_plain {r : Row} {cs fx ch : List Int} (hp : plainM r cs) (h : IsCh r cs ch) : rightM r (leanedM r) fx ch = rightM r (lensM r) fx ch := by
  apply Bool.eq_iff_iff.mpr
  rw [right_iff, right_iff]
  apply forall_congr'
  intro j
  apply forall_congr'
  intro hj
  have hr := h.rng j hj
  have hc : col r j ∈ cs := h.cut.subset (List.mem_map_of_mem hj)
  have k1 := rest_sum (r := r) (ls := leanedM r) (fx := fx) (ch := ch) hr 1
  have k2 := rest_sum (r := r) (ls := leanedM r) (fx := fx) (ch := ch) hr (-1)
  have k3 := rest_sum (r := r) (ls := lensM r) (fx := fx) (ch := ch) hr 1
  have k4 := rest_sum (r := r) (ls := lensM r) (fx := fx) (ch := ch) hr (-1)
  have s1 : ∀ n : Int, (if n = j then (1 : Int) else sgn fx ch n) = 1 ∨ (if n = j then (1 : Int) else sgn fx ch n) = -1 := fun n => by
    split
    · exact .inl rfl
    · exact sg_pm _
  have s2 : ∀ n : Int, (if n = j then (-1 : Int) else sgn fx ch n) = 1 ∨ (if n = j then (-1 : Int) else sgn fx ch n) = -1 := fun n => by
    split
    · exact .inr rfl
    · exact sg_pm _
  have g1 := lean_sign r (col r j) s1 (hp _ hc _ s1)
  have g2 := lean_sign' r (col r j) s2 (hp _ hc _ s2)
  rw [← k1, ← k3] at g1
  rw [← k2, ← k4] at g2
  omega
/-! ### turned about -/
theorem rev_at {r : Row} {i : Int} (h0 : 0 ≤ i) (h1 : i < r.length) : atZ r.reverse i = atZ r (r.length - 1 - i) := by
  rw [atZ_in h0 (by simpa using h1), atZ_in (by omega) (by omega), List.getElem_reverse]
  congr 1; omega
theorem rev_col {r : Row} {i : Int} (h0 : 0 ≤ i) (h1 : i < r.length) : col r.reverse i = col r (r.length - 1 - i) := by
  unfold col; rw [rev_at h0 h1]
theorem rev_len {r : Row} {i : Int} (h0 : 0 ≤ i) (h1 : i < r.length) : len r.reverse i = len r (r.length - 1 - i) := by
  unfold len; rw [rev_at h0 h1]
def mirr (m : Int) (l : List Int) : List Int := sortZ eZ (l.map fun a => m - a)
theorem mem_mirr {m : Int} {l : List Int} {a : Int} : a ∈ mirr m l ↔ m - a ∈ l := by
  unfold mirr
  rw [mem_sortZ, List.mem_map]
  constructor
  · rintro ⟨b, h, rfl⟩
    have : m - (m - b) = b := by omega
    rw [this]; exact h
  · intro h; exact ⟨m - a, h, by omega⟩
theorem mirr_asc {m : Int} {l : List Int} (h : l.Nodup) : (mirr m l).Pairwise (· < ·) := by
  apply sortZ_asc
  unfold List.Nodup
  rw [List.pairwise_map]
  exact h.imp fun hne e => hne (by omega)
theorem mirr_mirr {m : Int} {l : List Int} (h : l.Pairwise (· < ·)) : mirr m (mirr m l) = l :=
  asc_ext (mirr_asc (asc_nodup (mirr_asc (asc_nodup h)))) h fun a => by
    rw [mem_mirr, mem_mirr]
    have : m - (m - a) = a := by omega
    rw [this]
theorem mirr_len (m : Int) (l : List Int) : (mirr m l).length = l.length := by unfold mirr; rw [sortZ_len, List.length_map]
theorem cLe_add (l : List Int) (n : Int) : cLe l n + (l.filter fun o => decide (n < o)).length = l.length := by
  induction l with
  | nil => rfl
  | cons a l ih =>
    rw [cLe_cons, List.filter_cons, List.length_cons]
    by_cases h : a ≤ n
    · rw [if_pos h, if_neg (by simp; omega)]; omega
    · rw [if_neg h, if_pos (by simp; omega), List.length_cons]; omega
theorem mirr_cLe (m : Int) (l : List Int) (n : Int) : cLe (mirr m l) n = (l.filter fun o => decide (m - n ≤ o)).length := by
  unfold mirr
  rw [cLe_perm (sortZ_perm _ _)]
  unfold cLe
  rw [List.filter_map, List.length_map]
  congr 1
  apply List.filter_congr
  intro a _
  simp; omega
theorem mirr_cLt (m : Int) (l : List Int) (n : Int) : cLt (mirr m l) n = (l.filter fun o => decide (m - n < o)).length := by
  unfold mirr
  rw [cLt_perm (sortZ_perm _ _)]
  unfold cLt
  rw [List.filter_map, List.length_map]
  congr 1
  apply List.filter_congr
  intro a _
  simp; omega
theorem mirr_ch {r : Row} {cs ch : List Int} (h : IsCh r cs ch) : IsCh r.reverse cs (mirr (r.length - 1) ch) := by
  refine ⟨mirr_asc (asc_nodup h.asc), fun j hj => ?_, ?_⟩
  · rw [mem_mirr] at hj
    have := h.rng _ hj
    rw [List.length_reverse]; omega
  · refine ((sortZ_perm eZ _).map _).trans ?_
    rw [List.map_map]
    have : ch.map (col r.reverse ∘ fun a => (r.length : Int) - 1 - a) = ch.map (col r) := by
      apply List.map_congr_left
      intro a ha
      have := h.rng a ha
      simp only [Function.comp]
      rw [rev_col (by omega) (by omega)]
      congr 1; omega
    rw [this]
    exact h.cut
theorem nums_rev (r : Row) (c : Int) : (nums r.reverse c).Perm ((nums r c).map fun n => (r.length : Int) - 1 - n) := by
  apply nodup_ext (asc_nodup (nums_asc _ _))
  · unfold List.Nodup
    rw [List.pairwise_map]
    exact (nums_asc r c).imp fun h e => by omega
  · intro a
    rw [mem_nums, List.mem_map, List.length_reverse]
    constructor
    · rintro ⟨h, e⟩
      rw [rev_col h.1 h.2] at e
      exact ⟨r.length - 1 - a, mem_nums.mpr ⟨by omega, e⟩, by omega⟩
    · rintro ⟨n, hn, rfl⟩
      obtain ⟨h, e⟩ := mem_nums.mp hn
      refine ⟨by omega, ?_⟩
      rw [rev_col (by omega) (by omega), ← e]
      congr 1; omega
theorem right_rev {r : Row} {cs fx ch : List Int} (hc : cs.Nodup) (h : IsCh r cs ch) : rightM r.reverse (lensM r.reverse) (mirr r.length fx) (mirr (r.length - 1) ch) = rightM r (lensM r) fx ch := by
  apply Bool.eq_iff_iff.mpr
  rw [right_iff, right_iff]
  have key : ∀ j ∈ ch, restM r.reverse (lensM r.reverse) (mirr r.length fx) (mirr (r.length - 1) ch) (r.length - 1 - j) = sg (fx.length + ch.length) * restM r (lensM r) fx ch j := by
    intro j hj
    have hr := h.rng j hj
    unfold restM
    have e0 : col r.reverse (r.length - 1 - j) = col r j := by
      rw [rev_col (by omega) (by omega)]; congr 1; omega
    rw [e0, ← sum_map_mul]
    have p := ((nums_rev r (col r j)).filter fun n => !decide (n = r.length - 1 - j)).map fun n => sgn (mirr r.length fx) (mirr (r.length - 1) ch) n * atZ (lensM r.reverse) n
    rw [sum_perm p, List.filter_map, List.map_map]
    have e1 : (nums r (col r j)).filter ((fun n => !decide (n = (r.length : Int) - 1 - j)) ∘ fun n => (r.length : Int) - 1 - n) = (nums r (col r j)).filter fun n => !decide (n = j) := by
      apply List.filter_congr
      intro n _
      simp only [Function.comp]
      congr 1
      exact decide_eq_decide.mpr (by omega)
    rw [e1]
    apply sum_congr
    intro n hn
    rw [List.mem_filter] at hn
    have hne : n ≠ j := by simpa using hn.2
    have hnr := (mem_nums.mp hn.1).1
    have hnc := h.other hc hj hn.1 hne
    simp only [Function.comp]
    rw [lens_at (by omega) (by rw [List.length_reverse]; omega), lens_at hnr.1 hnr.2, rev_len (by omega) (by omega), ← Int.mul_assoc]
    have e2 : (r.length : Int) - 1 - (r.length - 1 - n) = n := by omega
    rw [e2]
    congr 1
    unfold sgn
    rw [mirr_cLe, mirr_cLt, ← sg_add]
    have a1 : (fx.filter fun o => decide ((r.length : Int) - (r.length - 1 - n) ≤ o)).length = (fx.filter fun o => decide (n < o)).length := by
      congr 1
      apply List.filter_congr
      intro o _
      exact decide_eq_decide.mpr (by omega)
    have a2 : (ch.filter fun o => decide ((r.length : Int) - 1 - (r.length - 1 - n) < o)).length = (ch.filter fun o => decide (n < o)).length := by rw [e2]
    rw [a1, a2]
    have b1 := cLe_add fx n
    have b2 := cLe_add ch n
    rw [cLe_of_notin hnc] at b2
    generalize (fx.filter fun o => decide (n < o)).length = x at b1
    generalize (ch.filter fun o => decide (n < o)).length = y at b2
    have : fx.length + ch.length + (cLe fx n + cLt ch n) = 2 * (cLe fx n + cLt ch n) + (x + y) := by omega
    rw [this, sg_add (2 * _), sg_two, Int.one_mul]
  constructor
  · intro hh j hj
    have hr := h.rng j hj
    have := hh (r.length - 1 - j) (mem_mirr.mpr (by
      have : (r.length : Int) - 1 - (r.length - 1 - j) = j := by omega
      rw [this]; exact hj))
    rw [key j hj, lens_at (by omega) (by rw [List.length_reverse]; omega), rev_len (by omega) (by omega)] at this
    have e2 : (r.length : Int) - 1 - (r.length - 1 - j) = j := by omega
    rw [e2] at this
    rw [lens_at hr.1 hr.2]
    rcases sg_pm (fx.length + ch.length) with e | e <;> rw [e] at this <;> omega
  · intro hh k hk
    rw [mem_mirr] at hk
    have hr := h.rng _ hk
    have := hh _ hk
    have kk := key _ hk
    have e2 : (r.length : Int) - 1 - (r.length - 1 - k) = k := by omega
    rw [e2] at kk
    rw [kk, lens_at (by omega) (by rw [List.length_reverse]; omega), rev_len (by omega) (by omega)]
    rw [lens_at hr.1 hr.2] at this
    rcases sg_pm (fx.length + ch.length) with e | e <;> rw [e] <;> omega
theorem plain_rev {r : Row} {cs : List Int} (hp : plainM r cs) : plainM r.reverse cs := by
  intro c hc s hs h0
  refine hp c hc (fun n => s (r.length - 1 - n)) (fun n => hs _) ?_
  rw [← h0]
  unfold sumS
  rw [sum_perm ((nums_rev r c).map fun n => s n * atZ (lensM r.reverse) n), List.map_map]
  apply sum_congr
  intro n hn
  obtain ⟨h, _⟩ := mem_nums.mp hn
  simp only [Function.comp]
  rw [lens_at h.1 h.2, lens_at (by omega) (by rw [List.length_reverse]; omega), rev_len (by omega) (by omega)]
  congr 2; omega
theorem trans_rev {r : Row} {cs fx : List Int} (hc : cs.Nodup) (hp : plainM r cs) (hf : fx.Pairwise (· < ·)) : transM r.reverse cs (mirr r.length fx) = sortZ (eT eZ) ((transM r cs fx).map (mirr (r.length - 1))) := by
  symm
  refine sortZ_uniq (tokT tokZ) trans_pw ?_
  refine (List.perm_ext_iff_of_nodup (trans_nodup hc) ?_).mpr fun x => ?_
  · unfold List.Nodup
    rw [List.pairwise_map]
    refine (trans_nodup hc).imp_of_mem fun {a b} ha hb hne e => hne ?_
    have h1 := ((mem_trans hc).mp ha).1.asc
    have h2 := ((mem_trans hc).mp hb).1.asc
    rw [← mirr_mirr h1 (m := r.length - 1), e, mirr_mirr h2]
  · rw [mem_trans hc, List.mem_map]
    have hp' := plain_rev hp
    constructor
    · rintro ⟨h1, h2⟩
      have h3 := mirr_ch h1
      rw [List.reverse_reverse, List.length_reverse] at h3
      refine ⟨mirr (r.length - 1) x, (mem_trans hc).mpr ⟨h3, ?_⟩, mirr_mirr h1.asc⟩
      rw [right_plain hp h3, ← right_rev hc h3, mirr_mirr h1.asc, ← right_plain hp' h1]
      exact h2
    · rintro ⟨ch, h, rfl⟩
      obtain ⟨h1, h2⟩ := (mem_trans hc).mp h
      refine ⟨mirr_ch h1, ?_⟩
      rw [right_plain hp' (mirr_ch h1), right_rev hc h1, ← right_plain hp h1]
      exact h2
end Iv

namespace Iv
open PySem
def s_law_pick (w : DW) (p_some : (List Int)) : (Int × DW) := ((atZ p_some (drawF w (p_some.length : Int)).1), (drawF w (p_some.length : Int)).2)
def k_law_pick (w : DW) (p_some : (List Int)) : Prop := (((drwOk w (p_some.length : Int)))) ∧ (atOk p_some (drawF w (p_some.length : Int)).1)
theorem t_law_pick (k : Nat) (p_some : (List Int)) (w : DW) (h : k_law_pick w p_some) : Φ (k + 3) (Str.ofString "_law_pick") [(drwTok), (.list (List.map eZ p_some))] w = some (.int (s_law_pick w p_some).1, (s_law_pick w p_some).2) :=
  (C_law_pick (k + 2) _ w).trans (run_W (f := eZ) rfl (s0 := ⟨[.val (drwTok), .val (.list (List.map eZ p_some))], w⟩) rfl
    (bl_retW (f := eZ) (x := ((atZ p_some (drawF w (p_some.length : Int)).1), (drawF w (p_some.length : Int)).2)) (ev_idxL (f := eZ) (e2_ve rfl rfl (ev_callW (evs_cons (ev_var rfl) (evs_cons (ev_lenL (f := eZ) (pk_v rfl)) evs_nil)) (t_law_draw (k + 0) _ _ h.1)) rfl) h.2)))
def s_law_st_row (w : DW) (p_pieces : Int) (p_most : Int) : ((List (Int × Int)) × DW) := (leT (((1 : Int) + (drawF w p_most).1), (drawF w p_most).2) fun (many_1 : (Int × DW)) => (leT ((many_1.1 + (drawF many_1.2 ((p_pieces - many_1.1) + (1 : Int))).1), (drawF (drawF many_1.2 ((p_pieces - many_1.1) + (1 : Int))).2 (4 : Int)).1, (drawF (drawF many_1.2 ((p_pieces - many_1.1) + (1 : Int))).2 (4 : Int)).2) fun (y3 : (Int × Int × DW)) => (leT ((mapW (fun (a6 : Int) (w7 : DW) => ((cond (decide (a6 < many_1.1)) (a6, w7) ((drawF w7 many_1.1).1, (drawF w7 many_1.1).2)).1, (cond (decide (a6 < many_1.1)) (a6, w7) ((drawF w7 many_1.1).1, (drawF w7 many_1.1).2)).2)) (rangeZ 0 y3.1) y3.2.2).1, (mapW (fun (a6 : Int) (w7 : DW) => ((cond (decide (a6 < many_1.1)) (a6, w7) ((drawF w7 many_1.1).1, (drawF w7 many_1.1).2)).1, (cond (decide (a6 < many_1.1)) (a6, w7) ((drawF w7 many_1.1).1, (drawF w7 many_1.1).2)).2)) (rangeZ 0 y3.1) y3.2.2).2) fun (colours_8 : ((List Int) × DW)) => (leT ((cond (decide (y3.2.1 = (0 : Int))) ((List.map (fun (a10 : Int) => (a10 % many_1.1)) (rangeZ 0 y3.1)), colours_8.2) ((shufZ colours_8.1 colours_8.2).1, (shufZ colours_8.1 colours_8.2).2)).1, (cond (decide (y3.2.1 = (0 : Int))) ((List.map (fun (a10 : Int) => (a10 % many_1.1)) (rangeZ 0 y3.1)), colours_8.2) ((shufZ colours_8.1 colours_8.2).1, (shufZ colours_8.1 colours_8.2).2)).2) fun (colours_11 : ((List Int) × DW)) => (leT ((s_law_pick colours_11.2 ([(1 : Int), (2 : Int), (5 : Int), (20 : Int), (1000000 : Int), (1000000000000 : Int)] : (List Int))).1, (s_law_pick colours_11.2 ([(1 : Int), (2 : Int), (5 : Int), (20 : Int), (1000000 : Int), (1000000000000 : Int)] : (List Int))).2) fun (room_13 : (Int × DW)) => ((mapW (fun (a15 : Int) (w16 : DW) => ((a15, ((1 : Int) + (drawF w16 room_13.1).1)), (drawF w16 room_13.1).2)) colours_11.1 room_13.2).1, (mapW (fun (a15 : Int) (w16 : DW) => ((a15, ((1 : Int) + (drawF w16 room_13.1).1)), (drawF w16 room_13.1).2)) colours_11.1 room_13.2).2))))))
def k_law_st_row (w : DW) (p_pieces : Int) (p_most : Int) : Prop := (((drwOk w p_most))) ∧ (leT (((1 : Int) + (drawF w p_most).1), (drawF w p_most).2) fun (many_1 : (Int × DW)) => (((drwOk many_1.2 ((p_pieces - many_1.1) + (1 : Int))))) ∧ ((drwOk (drawF many_1.2 ((p_pieces - many_1.1) + (1 : Int))).2 (4 : Int))) ∧ (leT ((many_1.1 + (drawF many_1.2 ((p_pieces - many_1.1) + (1 : Int))).1), (drawF (drawF many_1.2 ((p_pieces - many_1.1) + (1 : Int))).2 (4 : Int)).1, (drawF (drawF many_1.2 ((p_pieces - many_1.1) + (1 : Int))).2 (4 : Int)).2) fun (y3 : (Int × Int × DW)) => (((rngOk y3.1 = true)) ∧ ((rangeZ 0 y3.1).length ≤ line) ∧ (mapWOk (fun (a6 : Int) (w7 : DW) => ((cond (decide (a6 < many_1.1)) (a6, w7) ((drawF w7 many_1.1).1, (drawF w7 many_1.1).2)).1, (cond (decide (a6 < many_1.1)) (a6, w7) ((drawF w7 many_1.1).1, (drawF w7 many_1.1).2)).2)) (fun (a6 : Int) (w7 : DW) => ((decide (a6 < many_1.1)) = false → ((drwOk w7 many_1.1)))) (rangeZ 0 y3.1) y3.2.2)) ∧ (leT ((mapW (fun (a6 : Int) (w7 : DW) => ((cond (decide (a6 < many_1.1)) (a6, w7) ((drawF w7 many_1.1).1, (drawF w7 many_1.1).2)).1, (cond (decide (a6 < many_1.1)) (a6, w7) ((drawF w7 many_1.1).1, (drawF w7 many_1.1).2)).2)) (rangeZ 0 y3.1) y3.2.2).1, (mapW (fun (a6 : Int) (w7 : DW) => ((cond (decide (a6 < many_1.1)) (a6, w7) ((drawF w7 many_1.1).1, (drawF w7 many_1.1).2)).1, (cond (decide (a6 < many_1.1)) (a6, w7) ((drawF w7 many_1.1).1, (drawF w7 many_1.1).2)).2)) (rangeZ 0 y3.1) y3.2.2).2) fun (colours_8 : ((List Int) × DW)) => (((decide (y3.2.1 = (0 : Int))) = true → (((rngOk y3.1 = true)) ∧ ((rangeZ 0 y3.1).length ≤ line) ∧ (∀ a10 ∈ (rangeZ 0 y3.1), (0 < many_1.1)))) ∧ ((decide (y3.2.1 = (0 : Int))) = false → ((shufOk colours_8.1 colours_8.2)))) ∧ (leT ((cond (decide (y3.2.1 = (0 : Int))) ((List.map (fun (a10 : Int) => (a10 % many_1.1)) (rangeZ 0 y3.1)), colours_8.2) ((shufZ colours_8.1 colours_8.2).1, (shufZ colours_8.1 colours_8.2).2)).1, (cond (decide (y3.2.1 = (0 : Int))) ((List.map (fun (a10 : Int) => (a10 % many_1.1)) (rangeZ 0 y3.1)), colours_8.2) ((shufZ colours_8.1 colours_8.2).1, (shufZ colours_8.1 colours_8.2).2)).2) fun (colours_11 : ((List Int) × DW)) => ((k_law_pick colours_11.2 ([(1 : Int), (2 : Int), (5 : Int), (20 : Int), (1000000 : Int), (1000000000000 : Int)] : (List Int)))) ∧ (leT ((s_law_pick colours_11.2 ([(1 : Int), (2 : Int), (5 : Int), (20 : Int), (1000000 : Int), (1000000000000 : Int)] : (List Int))).1, (s_law_pick colours_11.2 ([(1 : Int), (2 : Int), (5 : Int), (20 : Int), (1000000 : Int), (1000000000000 : Int)] : (List Int))).2) fun (room_13 : (Int × DW)) => (colours_11.1.length ≤ line) ∧ (mapWOk (fun (a15 : Int) (w16 : DW) => ((a15, ((1 : Int) + (drawF w16 room_13.1).1)), (drawF w16 room_13.1).2)) (fun (a15 : Int) (w16 : DW) => (((drwOk w16 room_13.1)))) colours_11.1 room_13.2))))))
theorem t_law_st_row (k : Nat) (p_pieces : Int) (p_most : Int) (w : DW) (h : k_law_st_row w p_pieces p_most) : Φ (k + 4) (Str.ofString "_law_st_row") [(drwTok), (.int p_pieces), (.int p_most)] w = some (.tuple (List.map (eP eZ eZ) (s_law_st_row w p_pieces p_most).1), (s_law_st_row w p_pieces p_most).2) :=
  (C_law_st_row (k + 3) _ w).trans (run_W (f := (eT (eP eZ eZ))) rfl (s0 := ⟨[.val (drwTok), .val (.int p_pieces), .val (.int p_most), .no, .no, .no, .no, .no, .no], w⟩) rfl
    (bl_asgW (f := eZ) (x := (((1 : Int) + (drawF w p_most).1), (drawF w p_most).2)) (ok := (fun (many_1 : (Int × DW)) => (((drwOk many_1.2 ((p_pieces - many_1.1) + (1 : Int))))) ∧ ((drwOk (drawF many_1.2 ((p_pieces - many_1.1) + (1 : Int))).2 (4 : Int))) ∧ (leT ((many_1.1 + (drawF many_1.2 ((p_pieces - many_1.1) + (1 : Int))).1), (drawF (drawF many_1.2 ((p_pieces - many_1.1) + (1 : Int))).2 (4 : Int)).1, (drawF (drawF many_1.2 ((p_pieces - many_1.1) + (1 : Int))).2 (4 : Int)).2) fun (y3 : (Int × Int × DW)) => (((rngOk y3.1 = true)) ∧ ((rangeZ 0 y3.1).length ≤ line) ∧ (mapWOk (fun (a6 : Int) (w7 : DW) => ((cond (decide (a6 < many_1.1)) (a6, w7) ((drawF w7 many_1.1).1, (drawF w7 many_1.1).2)).1, (cond (decide (a6 < many_1.1)) (a6, w7) ((drawF w7 many_1.1).1, (drawF w7 many_1.1).2)).2)) (fun (a6 : Int) (w7 : DW) => ((decide (a6 < many_1.1)) = false → ((drwOk w7 many_1.1)))) (rangeZ 0 y3.1) y3.2.2)) ∧ (leT ((mapW (fun (a6 : Int) (w7 : DW) => ((cond (decide (a6 < many_1.1)) (a6, w7) ((drawF w7 many_1.1).1, (drawF w7 many_1.1).2)).1, (cond (decide (a6 < many_1.1)) (a6, w7) ((drawF w7 many_1.1).1, (drawF w7 many_1.1).2)).2)) (rangeZ 0 y3.1) y3.2.2).1, (mapW (fun (a6 : Int) (w7 : DW) => ((cond (decide (a6 < many_1.1)) (a6, w7) ((drawF w7 many_1.1).1, (drawF w7 many_1.1).2)).1, (cond (decide (a6 < many_1.1)) (a6, w7) ((drawF w7 many_1.1).1, (drawF w7 many_1.1).2)).2)) (rangeZ 0 y3.1) y3.2.2).2) fun (colours_8 : ((List Int) × DW)) => (((decide (y3.2.1 = (0 : Int))) = true → (((rngOk y3.1 = true)) ∧ ((rangeZ 0 y3.1).length ≤ line) ∧ (∀ a10 ∈ (rangeZ 0 y3.1), (0 < many_1.1)))) ∧ ((decide (y3.2.1 = (0 : Int))) = false → ((shufOk colours_8.1 colours_8.2)))) ∧ (leT ((cond (decide (y3.2.1 = (0 : Int))) ((List.map (fun (a10 : Int) => (a10 % many_1.1)) (rangeZ 0 y3.1)), colours_8.2) ((shufZ colours_8.1 colours_8.2).1, (shufZ colours_8.1 colours_8.2).2)).1, (cond (decide (y3.2.1 = (0 : Int))) ((List.map (fun (a10 : Int) => (a10 % many_1.1)) (rangeZ 0 y3.1)), colours_8.2) ((shufZ colours_8.1 colours_8.2).1, (shufZ colours_8.1 colours_8.2).2)).2) fun (colours_11 : ((List Int) × DW)) => ((k_law_pick colours_11.2 ([(1 : Int), (2 : Int), (5 : Int), (20 : Int), (1000000 : Int), (1000000000000 : Int)] : (List Int)))) ∧ (leT ((s_law_pick colours_11.2 ([(1 : Int), (2 : Int), (5 : Int), (20 : Int), (1000000 : Int), (1000000000000 : Int)] : (List Int))).1, (s_law_pick colours_11.2 ([(1 : Int), (2 : Int), (5 : Int), (20 : Int), (1000000 : Int), (1000000000000 : Int)] : (List Int))).2) fun (room_13 : (Int × DW)) => (colours_11.1.length ≤ line) ∧ (mapWOk (fun (a15 : Int) (w16 : DW) => ((a15, ((1 : Int) + (drawF w16 room_13.1).1)), (drawF w16 room_13.1).2)) (fun (a15 : Int) (w16 : DW) => (((drwOk w16 room_13.1)))) colours_11.1 room_13.2))))))) (r := [.val (drwTok), .val (.int p_pieces), .val (.int p_most), .no, .no, .no, .no, .no, .no]) (fun z2 => [.val (drwTok), .val (.int p_pieces), .val (.int p_most), .val (.int z2), .no, .no, .no, .no, .no]) (ev_addI (e2_ee rfl rfl ev_cst (ev_callW (evs_cons (ev_var rfl) (evs_cons (ev_var rfl) evs_nil)) (t_law_draw (k + 1) _ _ h.1)))) h.2 (fun _ => rfl) (fun many_1 h17 => (bl_par2W (f := eZ) (f' := eZ) (x := ((many_1.1 + (drawF many_1.2 ((p_pieces - many_1.1) + (1 : Int))).1), (drawF (drawF many_1.2 ((p_pieces - many_1.1) + (1 : Int))).2 (4 : Int)).1, (drawF (drawF many_1.2 ((p_pieces - many_1.1) + (1 : Int))).2 (4 : Int)).2)) (ok := (fun (y3 : (Int × Int × DW)) => (((rngOk y3.1 = true)) ∧ ((rangeZ 0 y3.1).length ≤ line) ∧ (mapWOk (fun (a6 : Int) (w7 : DW) => ((cond (decide (a6 < many_1.1)) (a6, w7) ((drawF w7 many_1.1).1, (drawF w7 many_1.1).2)).1, (cond (decide (a6 < many_1.1)) (a6, w7) ((drawF w7 many_1.1).1, (drawF w7 many_1.1).2)).2)) (fun (a6 : Int) (w7 : DW) => ((decide (a6 < many_1.1)) = false → ((drwOk w7 many_1.1)))) (rangeZ 0 y3.1) y3.2.2)) ∧ (leT ((mapW (fun (a6 : Int) (w7 : DW) => ((cond (decide (a6 < many_1.1)) (a6, w7) ((drawF w7 many_1.1).1, (drawF w7 many_1.1).2)).1, (cond (decide (a6 < many_1.1)) (a6, w7) ((drawF w7 many_1.1).1, (drawF w7 many_1.1).2)).2)) (rangeZ 0 y3.1) y3.2.2).1, (mapW (fun (a6 : Int) (w7 : DW) => ((cond (decide (a6 < many_1.1)) (a6, w7) ((drawF w7 many_1.1).1, (drawF w7 many_1.1).2)).1, (cond (decide (a6 < many_1.1)) (a6, w7) ((drawF w7 many_1.1).1, (drawF w7 many_1.1).2)).2)) (rangeZ 0 y3.1) y3.2.2).2) fun (colours_8 : ((List Int) × DW)) => (((decide (y3.2.1 = (0 : Int))) = true → (((rngOk y3.1 = true)) ∧ ((rangeZ 0 y3.1).length ≤ line) ∧ (∀ a10 ∈ (rangeZ 0 y3.1), (0 < many_1.1)))) ∧ ((decide (y3.2.1 = (0 : Int))) = false → ((shufOk colours_8.1 colours_8.2)))) ∧ (leT ((cond (decide (y3.2.1 = (0 : Int))) ((List.map (fun (a10 : Int) => (a10 % many_1.1)) (rangeZ 0 y3.1)), colours_8.2) ((shufZ colours_8.1 colours_8.2).1, (shufZ colours_8.1 colours_8.2).2)).1, (cond (decide (y3.2.1 = (0 : Int))) ((List.map (fun (a10 : Int) => (a10 % many_1.1)) (rangeZ 0 y3.1)), colours_8.2) ((shufZ colours_8.1 colours_8.2).1, (shufZ colours_8.1 colours_8.2).2)).2) fun (colours_11 : ((List Int) × DW)) => ((k_law_pick colours_11.2 ([(1 : Int), (2 : Int), (5 : Int), (20 : Int), (1000000 : Int), (1000000000000 : Int)] : (List Int)))) ∧ (leT ((s_law_pick colours_11.2 ([(1 : Int), (2 : Int), (5 : Int), (20 : Int), (1000000 : Int), (1000000000000 : Int)] : (List Int))).1, (s_law_pick colours_11.2 ([(1 : Int), (2 : Int), (5 : Int), (20 : Int), (1000000 : Int), (1000000000000 : Int)] : (List Int))).2) fun (room_13 : (Int × DW)) => (colours_11.1.length ≤ line) ∧ (mapWOk (fun (a15 : Int) (w16 : DW) => ((a15, ((1 : Int) + (drawF w16 room_13.1).1)), (drawF w16 room_13.1).2)) (fun (a15 : Int) (w16 : DW) => (((drwOk w16 room_13.1)))) colours_11.1 room_13.2)))))) (r := [.val (drwTok), .val (.int p_pieces), .val (.int p_most), .val (.int many_1.1), .no, .no, .no, .no, .no]) (fun z4 z5 => [.val (drwTok), .val (.int p_pieces), .val (.int p_most), .val (.int many_1.1), .val (.int z4), .val (.int z5), .no, .no, .no]) (evs_cons (ev_addI (e2_ve rfl rfl (ev_callW (evs_cons (ev_var rfl) (evs_cons (ev_addI (e2_ee rfl rfl (ev_subI (e2_vv rfl rfl)) ev_cst)) evs_nil)) (t_law_draw (k + 1) _ _ h17.1)) rfl)) (evs_cons (ev_callW (evs_cons (ev_var rfl) (evs_cons ev_cst evs_nil)) (t_law_draw (k + 1) _ _ h17.2.1)) evs_nil)) h17.2.2 (fun _ _ => rfl) (fun y3 h18 => (bl_asgW (f := (eL eZ)) (x := ((mapW (fun (a6 : Int) (w7 : DW) => ((cond (decide (a6 < many_1.1)) (a6, w7) ((drawF w7 many_1.1).1, (drawF w7 many_1.1).2)).1, (cond (decide (a6 < many_1.1)) (a6, w7) ((drawF w7 many_1.1).1, (drawF w7 many_1.1).2)).2)) (rangeZ 0 y3.1) y3.2.2).1, (mapW (fun (a6 : Int) (w7 : DW) => ((cond (decide (a6 < many_1.1)) (a6, w7) ((drawF w7 many_1.1).1, (drawF w7 many_1.1).2)).1, (cond (decide (a6 < many_1.1)) (a6, w7) ((drawF w7 many_1.1).1, (drawF w7 many_1.1).2)).2)) (rangeZ 0 y3.1) y3.2.2).2)) (ok := (fun (colours_8 : ((List Int) × DW)) => (((decide (y3.2.1 = (0 : Int))) = true → (((rngOk y3.1 = true)) ∧ ((rangeZ 0 y3.1).length ≤ line) ∧ (∀ a10 ∈ (rangeZ 0 y3.1), (0 < many_1.1)))) ∧ ((decide (y3.2.1 = (0 : Int))) = false → ((shufOk colours_8.1 colours_8.2)))) ∧ (leT ((cond (decide (y3.2.1 = (0 : Int))) ((List.map (fun (a10 : Int) => (a10 % many_1.1)) (rangeZ 0 y3.1)), colours_8.2) ((shufZ colours_8.1 colours_8.2).1, (shufZ colours_8.1 colours_8.2).2)).1, (cond (decide (y3.2.1 = (0 : Int))) ((List.map (fun (a10 : Int) => (a10 % many_1.1)) (rangeZ 0 y3.1)), colours_8.2) ((shufZ colours_8.1 colours_8.2).1, (shufZ colours_8.1 colours_8.2).2)).2) fun (colours_11 : ((List Int) × DW)) => ((k_law_pick colours_11.2 ([(1 : Int), (2 : Int), (5 : Int), (20 : Int), (1000000 : Int), (1000000000000 : Int)] : (List Int)))) ∧ (leT ((s_law_pick colours_11.2 ([(1 : Int), (2 : Int), (5 : Int), (20 : Int), (1000000 : Int), (1000000000000 : Int)] : (List Int))).1, (s_law_pick colours_11.2 ([(1 : Int), (2 : Int), (5 : Int), (20 : Int), (1000000 : Int), (1000000000000 : Int)] : (List Int))).2) fun (room_13 : (Int × DW)) => (colours_11.1.length ≤ line) ∧ (mapWOk (fun (a15 : Int) (w16 : DW) => ((a15, ((1 : Int) + (drawF w16 room_13.1).1)), (drawF w16 room_13.1).2)) (fun (a15 : Int) (w16 : DW) => (((drwOk w16 room_13.1)))) colours_11.1 room_13.2))))) (r := [.val (drwTok), .val (.int p_pieces), .val (.int p_most), .val (.int many_1.1), .val (.int y3.1), .val (.int y3.2.1), .no, .no, .no]) (fun z9 => [.val (drwTok), .val (.int p_pieces), .val (.int p_most), .val (.int many_1.1), .val (.int y3.1), .val (.int y3.2.1), .val (.list (List.map eZ z9)), .no, .no]) (ev_lcW (f := eZ) (fun (a6 : Int) (w7 : DW) => ((cond (decide (a6 < many_1.1)) (a6, w7) ((drawF w7 many_1.1).1, (drawF w7 many_1.1).2)).1, (cond (decide (a6 < many_1.1)) (a6, w7) ((drawF w7 many_1.1).1, (drawF w7 many_1.1).2)).2)) (fun (a6 : Int) (w7 : DW) => ((decide (a6 < many_1.1)) = false → ((drwOk w7 many_1.1)))) (it_rg1 (ev_var rfl) h18.1.1) rfl h18.1.2.1 h18.1.2.2 (fun (a6 : Int) w7 h20 => ⟨[.val (drwTok), .val (.int p_pieces), .val (.int p_most), .val (.int many_1.1), .val (.int y3.1), .val (.int y3.2.1), .no, .no, .val (.int a6)], rfl, rfl, (ev_ifeW (f := eZ) (u := (a6, w7)) (v := ((drawF w7 many_1.1).1, (drawF w7 many_1.1).2)) (ev_lt (e2_vv rfl rfl)) (fun h21 => (ev_var rfl)) (fun h21 => (ev_callW (evs_cons (ev_var rfl) (evs_cons (ev_var rfl) evs_nil)) (t_law_draw (k + 1) _ _ (h20 h21)))))⟩)) h18.2 (fun _ => rfl) (fun colours_8 h19 => (bl_asgW (f := (eL eZ)) (x := ((cond (decide (y3.2.1 = (0 : Int))) ((List.map (fun (a10 : Int) => (a10 % many_1.1)) (rangeZ 0 y3.1)), colours_8.2) ((shufZ colours_8.1 colours_8.2).1, (shufZ colours_8.1 colours_8.2).2)).1, (cond (decide (y3.2.1 = (0 : Int))) ((List.map (fun (a10 : Int) => (a10 % many_1.1)) (rangeZ 0 y3.1)), colours_8.2) ((shufZ colours_8.1 colours_8.2).1, (shufZ colours_8.1 colours_8.2).2)).2)) (ok := (fun (colours_11 : ((List Int) × DW)) => ((k_law_pick colours_11.2 ([(1 : Int), (2 : Int), (5 : Int), (20 : Int), (1000000 : Int), (1000000000000 : Int)] : (List Int)))) ∧ (leT ((s_law_pick colours_11.2 ([(1 : Int), (2 : Int), (5 : Int), (20 : Int), (1000000 : Int), (1000000000000 : Int)] : (List Int))).1, (s_law_pick colours_11.2 ([(1 : Int), (2 : Int), (5 : Int), (20 : Int), (1000000 : Int), (1000000000000 : Int)] : (List Int))).2) fun (room_13 : (Int × DW)) => (colours_11.1.length ≤ line) ∧ (mapWOk (fun (a15 : Int) (w16 : DW) => ((a15, ((1 : Int) + (drawF w16 room_13.1).1)), (drawF w16 room_13.1).2)) (fun (a15 : Int) (w16 : DW) => (((drwOk w16 room_13.1)))) colours_11.1 room_13.2)))) (r := [.val (drwTok), .val (.int p_pieces), .val (.int p_most), .val (.int many_1.1), .val (.int y3.1), .val (.int y3.2.1), .val (.list (List.map eZ colours_8.1)), .no, .no]) (fun z12 => [.val (drwTok), .val (.int p_pieces), .val (.int p_most), .val (.int many_1.1), .val (.int y3.1), .val (.int y3.2.1), .val (.list (List.map eZ z12)), .no, .no]) (ev_ifeW (f := (eL eZ)) (u := ((List.map (fun (a10 : Int) => (a10 % many_1.1)) (rangeZ 0 y3.1)), colours_8.2)) (v := ((shufZ colours_8.1 colours_8.2).1, (shufZ colours_8.1 colours_8.2).2)) (ev_eq cZ (by decide) (e2_ve rfl rfl ev_cst rfl)) (fun h23 => (ev_lcq (f := eZ) (fun (a10 : Int) => (a10 % many_1.1)) (fun (a10 : Int) => (0 < many_1.1)) (it_rg1 (ev_var rfl) (h19.1.1 h23).1) rfl (h19.1.1 h23).2.1 (h19.1.1 h23).2.2 (fun (a10 : Int) h24 => ⟨[.val (drwTok), .val (.int p_pieces), .val (.int p_most), .val (.int many_1.1), .val (.int y3.1), .val (.int y3.2.1), .val (.list (List.map eZ colours_8.1)), .no, .val (.int a10)], rfl, rfl, (ev_modI (e2_ev rfl (ev_int (pk_v rfl)) rfl) h24)⟩))) (fun h23 => (ev_callW (evs_cons (ev_var rfl) (evs_cons (ev_var rfl) evs_nil)) (t_shuf cZ (by decide) (k + 0) _ colours_8.1 _ rfl (h19.1.2 h23))))) h19.2 (fun _ => rfl) (fun colours_11 h22 => (bl_asgW (f := eZ) (x := ((s_law_pick colours_11.2 ([(1 : Int), (2 : Int), (5 : Int), (20 : Int), (1000000 : Int), (1000000000000 : Int)] : (List Int))).1, (s_law_pick colours_11.2 ([(1 : Int), (2 : Int), (5 : Int), (20 : Int), (1000000 : Int), (1000000000000 : Int)] : (List Int))).2)) (ok := (fun (room_13 : (Int × DW)) => (colours_11.1.length ≤ line) ∧ (mapWOk (fun (a15 : Int) (w16 : DW) => ((a15, ((1 : Int) + (drawF w16 room_13.1).1)), (drawF w16 room_13.1).2)) (fun (a15 : Int) (w16 : DW) => (((drwOk w16 room_13.1)))) colours_11.1 room_13.2))) (r := [.val (drwTok), .val (.int p_pieces), .val (.int p_most), .val (.int many_1.1), .val (.int y3.1), .val (.int y3.2.1), .val (.list (List.map eZ colours_11.1)), .no, .no]) (fun z14 => [.val (drwTok), .val (.int p_pieces), .val (.int p_most), .val (.int many_1.1), .val (.int y3.1), .val (.int y3.2.1), .val (.list (List.map eZ colours_11.1)), .val (.int z14), .no]) (ev_callW (evs_cons (ev_var rfl) (evs_cons (show Ev _ _ _ (.list (List.map eZ ([(1 : Int), (2 : Int), (5 : Int), (20 : Int), (1000000 : Int), (1000000000000 : Int)] : (List Int)))) _ from ev_lst (evs_cons ev_cst (evs_cons ev_cst (evs_cons ev_cst (evs_cons ev_cst (evs_cons (ev_powC (x := 10) (y := 6) (z := 1000000) (e2_ee rfl rfl ev_cst ev_cst) (by decide +kernel) (by decide +kernel)) (evs_cons (ev_powC (x := 10) (y := 12) (z := 1000000000000) (e2_ee rfl rfl ev_cst ev_cst) (by decide +kernel) (by decide +kernel)) evs_nil)))))) (by simp only [List.length_cons, List.length_nil, List.length_map]; decide)) evs_nil)) (t_law_pick (k + 0) (([(1 : Int), (2 : Int), (5 : Int), (20 : Int), (1000000 : Int), (1000000000000 : Int)] : (List Int))) _ h22.1)) h22.2 (fun _ => rfl) (fun room_13 h25 => (bl_retW (f := (eT (eP eZ eZ))) (x := ((mapW (fun (a15 : Int) (w16 : DW) => ((a15, ((1 : Int) + (drawF w16 room_13.1).1)), (drawF w16 room_13.1).2)) colours_11.1 room_13.2).1, (mapW (fun (a15 : Int) (w16 : DW) => ((a15, ((1 : Int) + (drawF w16 room_13.1).1)), (drawF w16 room_13.1).2)) colours_11.1 room_13.2).2)) (ev_tupL (f := (eP eZ eZ)) (pk_e rfl (ev_lcW (f := (eP eZ eZ)) (fun (a15 : Int) (w16 : DW) => ((a15, ((1 : Int) + (drawF w16 room_13.1).1)), (drawF w16 room_13.1).2)) (fun (a15 : Int) (w16 : DW) => (((drwOk w16 room_13.1)))) (it_sqL (f := eZ) (xs := colours_11.1) (ev_var rfl)) rfl h25.1 h25.2 (fun (a15 : Int) w16 h26 => ⟨[.val (drwTok), .val (.int p_pieces), .val (.int p_most), .val (.int many_1.1), .val (.int y3.1), .val (.int y3.2.1), .val (.list (List.map eZ colours_11.1)), .val (.int room_13.1), .val (.int a15)], rfl, rfl, (ev_tup (evs_cons (ev_var rfl) (evs_cons (ev_addI (e2_ee rfl rfl ev_cst (ev_callW (evs_cons (ev_var rfl) (evs_cons (ev_var rfl) evs_nil)) (t_law_draw (k + 1) _ _ h26)))) evs_nil)) (by simp only [List.length_cons, List.length_nil, List.length_map]; decide))⟩))))))))))))))))
def s_law_many (p_row : (List (Int × Int))) : Int := ((maxZ (List.map (fun (a1 : (Int × Int)) => a1.1) p_row)) + (1 : Int))
def k_law_many (p_row : (List (Int × Int))) : Prop := (((p_row.length ≤ line)) ∧ ((List.map (fun (a1 : (Int × Int)) => a1.1) p_row) ≠ []))
theorem t_law_many (k : Nat) (p_row : (List (Int × Int))) (w : DW) (h : k_law_many p_row) : Φ (k + 1) (Str.ofString "_law_many") [(.tuple (List.map (eP eZ eZ) p_row))] w = some (.int (s_law_many p_row), w) :=
  (C_law_many (k + 0) _ w).trans (run_R (f := eZ) rfl (s0 := ⟨[.val (.tuple (List.map (eP eZ eZ) p_row)), .no, .no], w⟩) rfl
    (bl_ret (f := eZ) (ev_addI (e2_ee rfl rfl (ev_maxL (pk_e rfl (ev_lcq (f := eZ) (fun (a1 : (Int × Int)) => a1.1) (fun (_ : (Int × Int)) => True) (it_sqT (f := (eP eZ eZ)) (xs := p_row) (ev_var rfl)) rfl h.1 (fun _ _ => trivial) (fun (a1 : (Int × Int)) h2 => ⟨[.val (.tuple (List.map (eP eZ eZ) p_row)), .val (.int a1.1), .val (.int a1.2)], rfl, rfl, (ev_var rfl)⟩))) h.2) ev_cst)) rfl))
def s_law_choices_l2 (p_row : (List (Int × Int))) (a2 : Int) (st8 : ((List (List Int)))) (a7 : (List Int)) : ((List (List Int))) := (leT (st8 ++ (List.map (fun (a11 : Int) => (a7 ++ ([a11] : (List Int)))) (List.filter (fun (a11 : Int) => (decide ((atZ p_row a11).1 = a2))) (rangeZ 0 (p_row.length : Int))))) fun (later_12 : (List (List Int))) => (later_12))
def k_law_choices_l2 (p_row : (List (Int × Int))) (a2 : Int) (st8 : ((List (List Int)))) (a7 : (List Int)) : Prop := (((((rngOk (p_row.length : Int) = true)) ∧ ((rangeZ 0 (p_row.length : Int)).length ≤ line) ∧ (∀ a11 ∈ (rangeZ 0 (p_row.length : Int)), ((((atOk p_row a11)))) ∧ ((decide ((atZ p_row a11).1 = a2)) = true → ((a7.length + ([a11] : (List Int)).length ≤ line)))))) ∧ (st8.length + (List.map (fun (a11 : Int) => (a7 ++ ([a11] : (List Int)))) (List.filter (fun (a11 : Int) => (decide ((atZ p_row a11).1 = a2))) (rangeZ 0 (p_row.length : Int)))).length ≤ line))
def s_law_choices_l1 (p_row : (List (Int × Int))) (st3 : ((List (List Int)))) (a2 : Int) : ((List (List Int))) := (leT ([] : (List (List Int))) fun (later_6 : (List (List Int))) => (leT (List.foldl (s_law_choices_l2 p_row a2) ((later_6) : ((List (List Int)))) st3) fun (st8 : ((List (List Int)))) => (leT st8 fun (found_13 : (List (List Int))) => (found_13))))
def k_law_choices_l1 (p_row : (List (Int × Int))) (st3 : ((List (List Int)))) (a2 : Int) : Prop := (leT ([] : (List (List Int))) fun (later_6 : (List (List Int))) => (forOk (s_law_choices_l2 p_row a2) (k_law_choices_l2 p_row a2) ((later_6) : ((List (List Int)))) st3))
def s_law_choices (p_row : (List (Int × Int))) (p_colours : (List Int)) : (List (List Int)) := (leT ([([] : (List Int))] : (List (List Int))) fun (found_1 : (List (List Int))) => (leT (List.foldl (s_law_choices_l1 p_row) ((found_1) : ((List (List Int)))) p_colours) fun (st3 : ((List (List Int)))) => (sortZ (eT eZ) (List.map (fun (a14 : (List Int)) => (sortZ eZ a14)) st3))))
def k_law_choices (p_row : (List (Int × Int))) (p_colours : (List Int)) : Prop := (leT ([([] : (List Int))] : (List (List Int))) fun (found_1 : (List (List Int))) => (forOk (s_law_choices_l1 p_row) (k_law_choices_l1 p_row) ((found_1) : ((List (List Int)))) p_colours) ∧ (leT (List.foldl (s_law_choices_l1 p_row) ((found_1) : ((List (List Int)))) p_colours) fun (st3 : ((List (List Int)))) => ((st3.length ≤ line)) ∧ (sortOk (List.map (eT eZ) (List.map (fun (a14 : (List Int)) => (sortZ eZ a14)) st3)) = true)))
theorem t_law_choices (k : Nat) (p_row : (List (Int × Int))) (p_colours : (List Int)) (w : DW) (h : k_law_choices p_row p_colours) : Φ (k + 1) (Str.ofString "_law_choices") [(.tuple (List.map (eP eZ eZ) p_row)), (.tuple (List.map eZ p_colours))] w = some (.list (List.map (eT eZ) (s_law_choices p_row p_colours)), w) :=
  (C_law_choices (k + 0) _ w).trans (run_R (f := (eL (eT eZ))) rfl (s0 := ⟨[.val (.tuple (List.map (eP eZ eZ) p_row)), .val (.tuple (List.map eZ p_colours)), .no, .no, .no, .no, .no], w⟩) rfl
    (bl_asg (f := (eL (eT eZ))) (x := ([([] : (List Int))] : (List (List Int)))) (ok := (fun (found_1 : (List (List Int))) => (forOk (s_law_choices_l1 p_row) (k_law_choices_l1 p_row) ((found_1) : ((List (List Int)))) p_colours) ∧ (leT (List.foldl (s_law_choices_l1 p_row) ((found_1) : ((List (List Int)))) p_colours) fun (st3 : ((List (List Int)))) => ((st3.length ≤ line)) ∧ (sortOk (List.map (eT eZ) (List.map (fun (a14 : (List Int)) => (sortZ eZ a14)) st3)) = true)))) (fun found_1 => ⟨[.val (.tuple (List.map (eP eZ eZ) p_row)), .val (.tuple (List.map eZ p_colours)), .val (.list (List.map (eT eZ) found_1)), .no, .no, .no, .no], w⟩) (show Ev _ _ _ (.list (List.map (eT eZ) ([([] : (List Int))] : (List (List Int))))) _ from ev_lst (evs_cons (show Ev _ _ _ (.tuple (List.map eZ ([] : (List Int)))) _ from ev_tup evs_nil (by simp only [List.length_cons, List.length_nil, List.length_map]; decide)) evs_nil) (by simp only [List.length_cons, List.length_nil, List.length_map]; decide)) h (fun _ => rfl) (fun found_1 h15 => (bl_fors (F := eZ) (xs := p_colours) (st0 := ((found_1) : ((List (List Int))))) (step := (s_law_choices_l1 p_row)) (okb := (k_law_choices_l1 p_row)) (ok := (fun (st3 : ((List (List Int)))) => ((st3.length ≤ line)) ∧ (sortOk (List.map (eT eZ) (List.map (fun (a14 : (List Int)) => (sortZ eZ a14)) st3)) = true))) (fun (j4 : (Ent × Ent × Ent)) => noO j4.1 = true ∧ noO j4.2.1 = true ∧ noO j4.2.2 = true) (fun (st3 : ((List (List Int)))) (j4 : (Ent × Ent × Ent)) => (⟨[.val (.tuple (List.map (eP eZ eZ) p_row)), .val (.tuple (List.map eZ p_colours)), .val (.list (List.map (eT eZ) st3)), j4.1, j4.2.1, j4.2.2, .no], w⟩ : S1)) (.no, .no, .no) ⟨rfl, rfl, rfl⟩ rfl (it_sqT (f := eZ) (xs := p_colours) (ev_var rfl)) h15.1 h15.2 (fun (st3 : ((List (List Int)))) (j4 : (Ent × Ent × Ent)) (a2 : Int) h16 n5 => ⟨[.val (.tuple (List.map (eP eZ eZ) p_row)), .val (.tuple (List.map eZ p_colours)), .val (.list (List.map (eT eZ) st3)), .val (.int a2), j4.2.1, j4.2.2, .no], rfl, (bl_asg (f := (eL (eT eZ))) (x := ([] : (List (List Int)))) (ok := (fun (later_6 : (List (List Int))) => (forOk (s_law_choices_l2 p_row a2) (k_law_choices_l2 p_row a2) ((later_6) : ((List (List Int)))) st3))) (fun later_6 => ⟨[.val (.tuple (List.map (eP eZ eZ) p_row)), .val (.tuple (List.map eZ p_colours)), .val (.list (List.map (eT eZ) st3)), .val (.int a2), .val (.list (List.map (eT eZ) later_6)), j4.2.2, .no], w⟩) (show Ev _ _ _ (.list (List.map (eT eZ) ([] : (List (List Int))))) _ from ev_lst evs_nil (by simp only [List.length_cons, List.length_nil, List.length_map]; decide)) h16 (fun _ => rfl) (fun later_6 h18 => (bl_fors (F := (eT eZ)) (xs := st3) (st0 := ((later_6) : ((List (List Int))))) (step := (s_law_choices_l2 p_row a2)) (okb := (k_law_choices_l2 p_row a2)) (ok := (fun (_ : ((List (List Int)))) => True)) (fun (j9 : (Ent)) => noO j9 = true) (fun (st8 : ((List (List Int)))) (j9 : (Ent)) => (⟨[.val (.tuple (List.map (eP eZ eZ) p_row)), .val (.tuple (List.map eZ p_colours)), .val (.list (List.map (eT eZ) st3)), .val (.int a2), .val (.list (List.map (eT eZ) st8)), j9, .no], w⟩ : S1)) (j4.2.2) n5.2.2 rfl (it_sqL (f := (eT eZ)) (xs := st3) (ev_var rfl)) h18 trivial (fun (st8 : ((List (List Int)))) (j9 : (Ent)) (a7 : (List Int)) h19 n10 => ⟨[.val (.tuple (List.map (eP eZ eZ) p_row)), .val (.tuple (List.map eZ p_colours)), .val (.list (List.map (eT eZ) st3)), .val (.int a2), .val (.list (List.map (eT eZ) st8)), .val (.tuple (List.map eZ a7)), .no], rfl, (bl_asg (f := (eL (eT eZ))) (x := (st8 ++ (List.map (fun (a11 : Int) => (a7 ++ ([a11] : (List Int)))) (List.filter (fun (a11 : Int) => (decide ((atZ p_row a11).1 = a2))) (rangeZ 0 (p_row.length : Int)))))) (ok := (fun (_ : (List (List Int))) => True)) (fun later_12 => ⟨[.val (.tuple (List.map (eP eZ eZ) p_row)), .val (.tuple (List.map eZ p_colours)), .val (.list (List.map (eT eZ) st3)), .val (.int a2), .val (.list (List.map (eT eZ) later_12)), .val (.tuple (List.map eZ a7)), .no], w⟩) (ev_addL (x := st8) (y := (List.map (fun (a11 : Int) => (a7 ++ ([a11] : (List Int)))) (List.filter (fun (a11 : Int) => (decide ((atZ p_row a11).1 = a2))) (rangeZ 0 (p_row.length : Int))))) (f := (eT eZ)) (e2_ve rfl rfl (ev_lcp (f := (eT eZ)) (fun (a11 : Int) => (decide ((atZ p_row a11).1 = a2))) (fun (a11 : Int) => (a7 ++ ([a11] : (List Int)))) (fun (a11 : Int) => (((atOk p_row a11)))) (fun (a11 : Int) => (a7.length + ([a11] : (List Int)).length ≤ line)) (it_rg1 (ev_lenT (f := (eP eZ eZ)) (pk_v rfl)) h19.1.1) rfl h19.1.2.1 h19.1.2.2 (fun (a11 : Int) h22 => ⟨[.val (.tuple (List.map (eP eZ eZ) p_row)), .val (.tuple (List.map eZ p_colours)), .val (.list (List.map (eT eZ) st3)), .val (.int a2), .val (.list (List.map (eT eZ) st8)), .val (.tuple (List.map eZ a7)), .val (.int a11)], rfl, rfl, (ev_eq cZ (by decide) (e2_ev rfl (ev_fst (e2_ee rfl rfl (ev_idxT (f := (eP eZ eZ)) (e2_vv rfl rfl) h22) ev_cst)) rfl)), fun h23 => (ev_addT (x := a7) (y := ([a11] : (List Int))) (f := eZ) (e2_ve rfl rfl (show Ev _ _ _ (.tuple (List.map eZ ([a11] : (List Int)))) _ from ev_tup (evs_cons (ev_var rfl) evs_nil) (by simp only [List.length_cons, List.length_nil, List.length_map]; decide)) rfl) h23)⟩)) rfl) h19.2) trivial (fun _ => rfl) (fun later_12 h21 => (bl_nilL ⟨(.val (.tuple (List.map eZ a7))), rfl, rfl⟩)))⟩) (fun st8 j9 h20 n10 => (bl_asg (f := (eL (eT eZ))) (x := st8) (ok := (fun (_ : (List (List Int))) => True)) (fun found_13 => ⟨[.val (.tuple (List.map (eP eZ eZ) p_row)), .val (.tuple (List.map eZ p_colours)), .val (.list (List.map (eT eZ) found_13)), .val (.int a2), .val (.list (List.map (eT eZ) st8)), j9, .no], w⟩) (ev_var rfl) trivial (fun _ => rfl) (fun found_13 h24 => (bl_nilL ⟨(.val (.int a2), .val (.list (List.map (eT eZ) st8)), j9), ⟨rfl, rfl, n10⟩, rfl⟩)))))))⟩) (fun st3 j4 h17 n5 => (bl_ret (f := (eL (eT eZ))) (ev_sortL (f := (eT eZ)) (pk_e rfl (ev_lcq (f := (eT eZ)) (fun (a14 : (List Int)) => (sortZ eZ a14)) (fun (_ : (List Int)) => True) (it_sqL (f := (eT eZ)) (xs := st3) (ev_var rfl)) (noOwn_cons rfl n5.2.2 noOwn_nil) h17.1 (fun _ _ => trivial) (fun (a14 : (List Int)) h25 => ⟨[.val (.tuple (List.map (eP eZ eZ) p_row)), .val (.tuple (List.map eZ p_colours)), .val (.list (List.map (eT eZ) st3)), j4.1, j4.2.1, .val (.tuple (List.map eZ a14)), .no], rfl, rfl, (ev_tupL (f := eZ) (pk_e rfl (ev_sortT (f := eZ) (pk_v rfl) (sortOk_int _))))⟩))) h17.2) rfl))))))
def s_law_leaned_l1  (st5 : (Int)) (a4 : (Int × Int)) : (Int) := (leT (st5 * (4 : Int)) fun (power_8 : Int) => (power_8))
def s_law_leaned_l2 (st5 : (Int)) (st10 : ((List Int) × Int)) (a9 : (Int × Int)) : ((List Int) × Int) := (leT (st10.1 ++ [((a9.2 * st5) + st10.2)]) fun (found_13 : (List Int)) => (leT (st10.2 * (3 : Int)) fun (lean_14 : Int) => (found_13, lean_14)))
def k_law_leaned_l2 (st5 : (Int)) (st10 : ((List Int) × Int)) (a9 : (Int × Int)) : Prop := (((mulOk a9.2 st5))) ∧ (st10.1.length < line)
def s_law_leaned (p_row : (List (Int × Int))) : (List Int) := (leT ([] : (List Int)) fun (found_1 : (List Int)) => (leT (1 : Int) fun (power_2 : Int) => (leT (1 : Int) fun (lean_3 : Int) => (leT (List.foldl s_law_leaned_l1 ((power_2) : (Int)) p_row) fun (st5 : (Int)) => (leT (List.foldl (s_law_leaned_l2 st5) ((found_1, lean_3) : ((List Int) × Int)) p_row) fun (st10 : ((List Int) × Int)) => st10.1)))))
def k_law_leaned (p_row : (List (Int × Int))) : Prop := ((leT ([] : (List Int)) fun (found_1 : (List Int)) => (leT (1 : Int) fun (power_2 : Int) => (leT (1 : Int) fun (lean_3 : Int) => (leT (List.foldl s_law_leaned_l1 ((power_2) : (Int)) p_row) fun (st5 : (Int)) => (forOk (s_law_leaned_l2 st5) (k_law_leaned_l2 st5) ((found_1, lean_3) : ((List Int) × Int)) p_row))))))
theorem t_law_leaned (k : Nat) (p_row : (List (Int × Int))) (w : DW) (h : k_law_leaned p_row) : Φ (k + 1) (Str.ofString "_law_leaned") [(.tuple (List.map (eP eZ eZ) p_row))] w = some (.list (List.map eZ (s_law_leaned p_row)), w) :=
  (C_law_leaned (k + 0) _ w).trans (run_R (f := (eL eZ)) rfl (s0 := ⟨[.val (.tuple (List.map (eP eZ eZ) p_row)), .no, .no, .no, .no, .no, .no], w⟩) rfl
    (bl_par3 (f := (eL eZ)) (x := ([] : (List Int))) (f' := eZ) (x' := (1 : Int)) (f'' := eZ) (x'' := (1 : Int)) (ok := (fun (found_1 : (List Int)) (power_2 : Int) (lean_3 : Int) => (leT (List.foldl s_law_leaned_l1 ((power_2) : (Int)) p_row) fun (st5 : (Int)) => (forOk (s_law_leaned_l2 st5) (k_law_leaned_l2 st5) ((found_1, lean_3) : ((List Int) × Int)) p_row)))) (fun (found_1 : (List Int)) (power_2 : Int) (lean_3 : Int) => [.val (.tuple (List.map (eP eZ eZ) p_row)), .own (.list (List.map eZ found_1)), .val (.int power_2), .val (.int lean_3), .no, .no, .no]) (evs_cons (show Ev _ _ _ (.list (List.map eZ ([] : (List Int)))) _ from ev_lst evs_nil (by simp only [List.length_cons, List.length_nil, List.length_map]; decide)) (evs_cons ev_cst (evs_cons ev_cst evs_nil))) h (fun _ _ _ => rfl) (fun (found_1 : (List Int)) (power_2 : Int) (lean_3 : Int) h15 => (bl_fors (F := (eP eZ eZ)) (xs := p_row) (st0 := ((power_2) : (Int))) (step := s_law_leaned_l1) (okb := (fun (_ : (Int)) (_ : (Int × Int)) => True)) (ok := (fun (st5 : (Int)) => (forOk (s_law_leaned_l2 st5) (k_law_leaned_l2 st5) ((found_1, lean_3) : ((List Int) × Int)) p_row))) (fun (j6 : (Ent)) => noO j6 = true) (fun (st5 : (Int)) (j6 : (Ent)) => (⟨[.val (.tuple (List.map (eP eZ eZ) p_row)), .own (.list (List.map eZ found_1)), .val (.int st5), .val (.int lean_3), j6, .no, .no], w⟩ : S1)) (.no) rfl rfl (it_sqT (f := (eP eZ eZ)) (xs := p_row) (ev_var rfl)) (forOk_true _ _ _) h15 (fun (st5 : (Int)) (j6 : (Ent)) (a4 : (Int × Int)) h16 n7 => ⟨[.val (.tuple (List.map (eP eZ eZ) p_row)), .own (.list (List.map eZ found_1)), .val (.int st5), .val (.int lean_3), .val (.tuple [.int a4.1, .int a4.2]), .no, .no], rfl, (bl_asg (f := eZ) (x := (st5 * (4 : Int))) (ok := (fun (_ : Int) => True)) (fun power_8 => ⟨[.val (.tuple (List.map (eP eZ eZ) p_row)), .own (.list (List.map eZ found_1)), .val (.int power_8), .val (.int lean_3), .val (.tuple [.int a4.1, .int a4.2]), .no, .no], w⟩) (ev_mulI (e2_ve rfl rfl ev_cst rfl) (by unfold mulOk; first | exact Bool.or_eq_true_iff.mpr (.inl (by decide)) | exact Bool.or_eq_true_iff.mpr (.inr (by decide)))) trivial (fun _ => rfl) (fun power_8 h18 => (bl_nilL ⟨(.val (.tuple [.int a4.1, .int a4.2])), rfl, rfl⟩)))⟩) (fun st5 j6 h17 n7 => (bl_fors (F := (eP eZ eZ)) (xs := p_row) (st0 := ((found_1, lean_3) : ((List Int) × Int))) (step := (s_law_leaned_l2 st5)) (okb := (k_law_leaned_l2 st5)) (ok := (fun (_ : ((List Int) × Int)) => True)) (fun (j11 : (Ent × Ent)) => noO j11.1 = true ∧ noO j11.2 = true) (fun (st10 : ((List Int) × Int)) (j11 : (Ent × Ent)) => (⟨[.val (.tuple (List.map (eP eZ eZ) p_row)), .own (.list (List.map eZ st10.1)), .val (.int st5), .val (.int st10.2), j6, j11.1, j11.2], w⟩ : S1)) (.no, .no) ⟨rfl, rfl⟩ rfl (it_sqT (f := (eP eZ eZ)) (xs := p_row) (ev_var rfl)) h17 trivial (fun (st10 : ((List Int) × Int)) (j11 : (Ent × Ent)) (a9 : (Int × Int)) h19 n12 => ⟨[.val (.tuple (List.map (eP eZ eZ) p_row)), .own (.list (List.map eZ st10.1)), .val (.int st5), .val (.int st10.2), j6, .val (.int a9.1), .val (.int a9.2)], rfl, (bl_app (f := eZ) (x := ((a9.2 * st5) + st10.2)) (xs := st10.1) (ok := (fun (_ : (List Int)) => True)) (fun found_13 => ⟨[.val (.tuple (List.map (eP eZ eZ) p_row)), .own (.list (List.map eZ found_13)), .val (.int st5), .val (.int st10.2), j6, .val (.int a9.1), .val (.int a9.2)], w⟩) rfl (ev_addI (e2_ev rfl (ev_mulI (e2_vv rfl rfl) h19.1) rfl)) rfl h19.2 trivial (fun _ => rfl) (fun found_13 h21 => (bl_asg (f := eZ) (x := (st10.2 * (3 : Int))) (ok := (fun (_ : Int) => True)) (fun lean_14 => ⟨[.val (.tuple (List.map (eP eZ eZ) p_row)), .own (.list (List.map eZ found_13)), .val (.int st5), .val (.int lean_14), j6, .val (.int a9.1), .val (.int a9.2)], w⟩) (ev_mulI (e2_ve rfl rfl ev_cst rfl) (by unfold mulOk; first | exact Bool.or_eq_true_iff.mpr (.inl (by decide)) | exact Bool.or_eq_true_iff.mpr (.inr (by decide)))) trivial (fun _ => rfl) (fun lean_14 h22 => (bl_nilL ⟨(.val (.int a9.1), .val (.int a9.2)), ⟨rfl, rfl⟩, rfl⟩)))))⟩) (fun st10 j11 h20 n12 => (bl_ret (f := (eL eZ)) (ev_var rfl) rfl))))))))
def s_law_st_sums_l1  (st4 : ((List (List Int)) × (List Int))) (a3 : ((Int × Int) × Int)) : ((List (List Int)) × (List Int)) := (leT (st4.1 ++ [st4.2]) fun (found_7 : (List (List Int))) => (leT (setZ st4.2 a3.1.1 ((atZ st4.2 a3.1.1) + a3.2)) fun (here_8 : (List Int)) => (found_7, here_8)))
def k_law_st_sums_l1  (st4 : ((List (List Int)) × (List Int))) (a3 : ((Int × Int) × Int)) : Prop := (st4.1.length < line) ∧ (leT (st4.1 ++ [st4.2]) fun (found_7 : (List (List Int))) => (((atOk st4.2 a3.1.1))) ∧ (atOk st4.2 a3.1.1))
def s_law_st_sums (p_row : (List (Int × Int))) (p_lengths : (List Int)) : (List (List Int)) := (leT (repZ ([(0 : Int)] : (List Int)) (s_law_many p_row)) fun (here_1 : (List Int)) => (leT ([] : (List (List Int))) fun (found_2 : (List (List Int))) => (leT (List.foldl s_law_st_sums_l1 ((found_2, here_1) : ((List (List Int)) × (List Int))) (List.zip p_row p_lengths)) fun (st4 : ((List (List Int)) × (List Int))) => (st4.1 ++ ([st4.2] : (List (List Int)))))))
def k_law_st_sums (p_row : (List (Int × Int))) (p_lengths : (List Int)) : Prop := (((k_law_many p_row)) ∧ ((s_law_many p_row) < big / 2 ∧ -(big / 2) ≤ (s_law_many p_row) ∧ ([(0 : Int)] : (List Int)).length ≤ line ∧ ([(0 : Int)] : (List Int)).length * ((s_law_many p_row)).toNat ≤ line)) ∧ ((leT (repZ ([(0 : Int)] : (List Int)) (s_law_many p_row)) fun (here_1 : (List Int)) => (leT ([] : (List (List Int))) fun (found_2 : (List (List Int))) => (forOk s_law_st_sums_l1 k_law_st_sums_l1 ((found_2, here_1) : ((List (List Int)) × (List Int))) (List.zip p_row p_lengths)) ∧ (leT (List.foldl s_law_st_sums_l1 ((found_2, here_1) : ((List (List Int)) × (List Int))) (List.zip p_row p_lengths)) fun (st4 : ((List (List Int)) × (List Int))) => (st4.1.length + ([st4.2] : (List (List Int))).length ≤ line)))))
theorem t_law_st_sums (k : Nat) (p_row : (List (Int × Int))) (p_lengths : (List Int)) (w : DW) (h : k_law_st_sums p_row p_lengths) : Φ (k + 2) (Str.ofString "_law_st_sums") [(.tuple (List.map (eP eZ eZ) p_row)), (.list (List.map eZ p_lengths))] w = some (.list (List.map (eT eZ) (s_law_st_sums p_row p_lengths)), w) :=
  (C_law_st_sums (k + 1) _ w).trans (run_R (f := (eL (eT eZ))) rfl (s0 := ⟨[.val (.tuple (List.map (eP eZ eZ) p_row)), .val (.list (List.map eZ p_lengths)), .no, .no, .no, .no, .no], w⟩) rfl
    (bl_par2 (f := (eL eZ)) (x := (repZ ([(0 : Int)] : (List Int)) (s_law_many p_row))) (f' := (eL (eT eZ))) (x' := ([] : (List (List Int)))) (ok := (fun (here_1 : (List Int)) (found_2 : (List (List Int))) => (forOk s_law_st_sums_l1 k_law_st_sums_l1 ((found_2, here_1) : ((List (List Int)) × (List Int))) (List.zip p_row p_lengths)) ∧ (leT (List.foldl s_law_st_sums_l1 ((found_2, here_1) : ((List (List Int)) × (List Int))) (List.zip p_row p_lengths)) fun (st4 : ((List (List Int)) × (List Int))) => (st4.1.length + ([st4.2] : (List (List Int))).length ≤ line)))) (fun (here_1 : (List Int)) (found_2 : (List (List Int))) => [.val (.tuple (List.map (eP eZ eZ) p_row)), .val (.list (List.map eZ p_lengths)), .own (.list (List.map eZ here_1)), .own (.list (List.map (eT eZ) found_2)), .no, .no, .no]) (evs_cons (ev_rep (f := eZ) (xs := ([(0 : Int)] : (List Int))) (evs_cons ev_cst evs_nil) (ev_call (evs_cons (ev_var rfl) evs_nil) (t_law_many (k + 0) (p_row) _ h.1.1)) h.1.2) (evs_cons (show Ev _ _ _ (.list (List.map (eT eZ) ([] : (List (List Int))))) _ from ev_lst evs_nil (by simp only [List.length_cons, List.length_nil, List.length_map]; decide)) evs_nil)) h.2 (fun _ _ => rfl) (fun (here_1 : (List Int)) (found_2 : (List (List Int))) h9 => (bl_fors (F := (eP (eP eZ eZ) eZ)) (xs := (List.zip p_row p_lengths)) (st0 := ((found_2, here_1) : ((List (List Int)) × (List Int)))) (step := s_law_st_sums_l1) (okb := k_law_st_sums_l1) (ok := (fun (st4 : ((List (List Int)) × (List Int))) => (st4.1.length + ([st4.2] : (List (List Int))).length ≤ line))) (fun (j5 : (Ent × Ent × Ent)) => noO j5.1 = true ∧ noO j5.2.1 = true ∧ noO j5.2.2 = true) (fun (st4 : ((List (List Int)) × (List Int))) (j5 : (Ent × Ent × Ent)) => (⟨[.val (.tuple (List.map (eP eZ eZ) p_row)), .val (.list (List.map eZ p_lengths)), .own (.list (List.map eZ st4.2)), .own (.list (List.map (eT eZ) st4.1)), j5.1, j5.2.1, j5.2.2], w⟩ : S1)) (.no, .no, .no) ⟨rfl, rfl, rfl⟩ rfl (it_zp (f := (eP eZ eZ)) (g := eZ) (xs := p_row) (ys := p_lengths) (ev_var rfl) (ev_var rfl) rfl rfl) h9.1 h9.2 (fun (st4 : ((List (List Int)) × (List Int))) (j5 : (Ent × Ent × Ent)) (a3 : ((Int × Int) × Int)) h10 n6 => ⟨[.val (.tuple (List.map (eP eZ eZ) p_row)), .val (.list (List.map eZ p_lengths)), .own (.list (List.map eZ st4.2)), .own (.list (List.map (eT eZ) st4.1)), .val (.int a3.2), .val (.int a3.1.1), .val (.int a3.1.2)], rfl, (bl_app (f := (eT eZ)) (x := st4.2) (xs := st4.1) (ok := (fun (found_7 : (List (List Int))) => (((atOk st4.2 a3.1.1))) ∧ (atOk st4.2 a3.1.1))) (fun found_7 => ⟨[.val (.tuple (List.map (eP eZ eZ) p_row)), .val (.list (List.map eZ p_lengths)), .own (.list (List.map eZ st4.2)), .own (.list (List.map (eT eZ) found_7)), .val (.int a3.2), .val (.int a3.1.1), .val (.int a3.1.2)], w⟩) rfl (ev_tupL (f := eZ) (pk_v rfl)) rfl h10.1 h10.2 (fun _ => rfl) (fun found_7 h12 => (bl_setL (f := eZ) (x := ((atZ st4.2 a3.1.1) + a3.2)) (n := a3.1.1) (xs := st4.2) (ok := (fun (_ : (List Int)) => True)) (fun here_8 => ⟨[.val (.tuple (List.map (eP eZ eZ) p_row)), .val (.list (List.map eZ p_lengths)), .own (.list (List.map eZ here_8)), .own (.list (List.map (eT eZ) found_7)), .val (.int a3.2), .val (.int a3.1.1), .val (.int a3.1.2)], w⟩) (ev_addI (e2_ev rfl (ev_idxL (f := eZ) (e2_vv rfl rfl) h12.1) rfl)) rfl (ev_var rfl) rfl h12.2 trivial (fun _ => rfl) (fun here_8 h13 => (bl_nilL ⟨(.val (.int a3.2), .val (.int a3.1.1), .val (.int a3.1.2)), ⟨rfl, rfl, rfl⟩, rfl⟩)))))⟩) (fun st4 j5 h11 n6 => (bl_ret (f := (eL (eT eZ))) (ev_addL (x := st4.1) (y := ([st4.2] : (List (List Int)))) (f := (eT eZ)) (e2_ve rfl rfl (show Ev _ _ _ (.list (List.map (eT eZ) ([st4.2] : (List (List Int))))) _ from ev_lst (evs_cons (ev_tupL (f := eZ) (pk_v rfl)) evs_nil) (by simp only [List.length_cons, List.length_nil, List.length_map]; decide)) rfl) h11) rfl))))))
def s_law_st_offsets_l1 (p_row : (List (Int × Int))) (sums_1 : (List (List Int))) (marks_4 : (List (Int × Int))) (turn_5 : Int) (st8 : ((List (Int × Int)))) (a7 : (Int × (Int × Int))) : ((List (Int × Int))) := (cond (decide (a7.2.2 = (1 : Int))) (leT (atZ p_row a7.2.1).1 fun (colour_11 : Int) => (leT (List.sum (List.map (fun (a12 : (Int × (Int × Int))) => (((2 : Int) * (atZ (atZ sums_1 a12.2.1) colour_11)) * (cond (decide ((a12.1 % (2 : Int)) = (0 : Int))) (1 : Int) (-(1 : Int))))) (enumZ 0 marks_4))) fun (whole_13 : Int) => (leT (putZ a7.2.1 (((turn_5 * (atZ (atZ sums_1 (-(1 : Int))) colour_11)) - whole_13) * (cond (decide ((a7.1 % (2 : Int)) = (0 : Int))) (1 : Int) (-(1 : Int)))) st8) fun (found_14 : (List (Int × Int))) => (found_14)))) (st8))
def k_law_st_offsets_l1 (p_row : (List (Int × Int))) (sums_1 : (List (List Int))) (marks_4 : (List (Int × Int))) (turn_5 : Int) (st8 : ((List (Int × Int)))) (a7 : (Int × (Int × Int))) : Prop := ((decide (a7.2.2 = (1 : Int))) = true → ((((atOk p_row a7.2.1))) ∧ (leT (atZ p_row a7.2.1).1 fun (colour_11 : Int) => (((enumZ 0 marks_4).length ≤ line) ∧ (∀ a12 ∈ (enumZ 0 marks_4), ((((((atOk sums_1 a12.2.1))) ∧ (atOk (atZ sums_1 a12.2.1) colour_11)))) ∧ (mulOk ((2 : Int) * (atZ (atZ sums_1 a12.2.1) colour_11)) (cond (decide ((a12.1 % (2 : Int)) = (0 : Int))) (1 : Int) (-(1 : Int)))))) ∧ (leT (List.sum (List.map (fun (a12 : (Int × (Int × Int))) => (((2 : Int) * (atZ (atZ sums_1 a12.2.1) colour_11)) * (cond (decide ((a12.1 % (2 : Int)) = (0 : Int))) (1 : Int) (-(1 : Int))))) (enumZ 0 marks_4))) fun (whole_13 : Int) => (((((((((atOk sums_1 (-(1 : Int))))) ∧ (atOk (atZ sums_1 (-(1 : Int))) colour_11))) ∧ (mulOk turn_5 (atZ (atZ sums_1 (-(1 : Int))) colour_11))))) ∧ (mulOk ((turn_5 * (atZ (atZ sums_1 (-(1 : Int))) colour_11)) - whole_13) (cond (decide ((a7.1 % (2 : Int)) = (0 : Int))) (1 : Int) (-(1 : Int))))) ∧ (st8.length < line)))))
def s_law_st_offsets (p_row : (List (Int × Int))) (p_lengths : (List Int)) (p_fixed : (List Int)) (p_choice : (List Int)) : (List (Int × Int)) := (leT (s_law_st_sums p_row p_lengths) fun (sums_1 : (List (List Int))) => (leT (sortZ (eP eZ eZ) ((List.map (fun (a2 : Int) => (a2, (0 : Int))) p_fixed) ++ (List.map (fun (a3 : Int) => (a3, (1 : Int))) p_choice))) fun (marks_4 : (List (Int × Int))) => (leT (cond (decide (((marks_4.length : Int) % (2 : Int)) = (1 : Int))) (1 : Int) (-(1 : Int))) fun (turn_5 : Int) => (leT ([] : (List (Int × Int))) fun (found_6 : (List (Int × Int))) => (leT (List.foldl (s_law_st_offsets_l1 p_row sums_1 marks_4 turn_5) ((found_6) : ((List (Int × Int)))) (enumZ 0 marks_4)) fun (st8 : ((List (Int × Int)))) => st8)))))
def k_law_st_offsets (p_row : (List (Int × Int))) (p_lengths : (List Int)) (p_fixed : (List Int)) (p_choice : (List Int)) : Prop := ((k_law_st_sums p_row p_lengths)) ∧ (leT (s_law_st_sums p_row p_lengths) fun (sums_1 : (List (List Int))) => ((((p_fixed.length ≤ line)) ∧ ((p_choice.length ≤ line))) ∧ ((List.map (fun (a2 : Int) => (a2, (0 : Int))) p_fixed).length + (List.map (fun (a3 : Int) => (a3, (1 : Int))) p_choice).length ≤ line)) ∧ (leT (sortZ (eP eZ eZ) ((List.map (fun (a2 : Int) => (a2, (0 : Int))) p_fixed) ++ (List.map (fun (a3 : Int) => (a3, (1 : Int))) p_choice))) fun (marks_4 : (List (Int × Int))) => (leT (cond (decide (((marks_4.length : Int) % (2 : Int)) = (1 : Int))) (1 : Int) (-(1 : Int))) fun (turn_5 : Int) => (leT ([] : (List (Int × Int))) fun (found_6 : (List (Int × Int))) => (forOk (s_law_st_offsets_l1 p_row sums_1 marks_4 turn_5) (k_law_st_offsets_l1 p_row sums_1 marks_4 turn_5) ((found_6) : ((List (Int × Int)))) (enumZ 0 marks_4))))))
theorem t_law_st_offsets (k : Nat) (p_row : (List (Int × Int))) (p_lengths : (List Int)) (p_fixed : (List Int)) (p_choice : (List Int)) (w : DW) (h : k_law_st_offsets p_row p_lengths p_fixed p_choice) : Φ (k + 3) (Str.ofString "_law_st_offsets") [(.tuple (List.map (eP eZ eZ) p_row)), (.list (List.map eZ p_lengths)), (.tuple (List.map eZ p_fixed)), (.tuple (List.map eZ p_choice))] w = some (.dict (List.map (fun y => (eZ y.1, eZ y.2)) (s_law_st_offsets p_row p_lengths p_fixed p_choice)), w) :=
  (C_law_st_offsets (k + 2) _ w).trans (run_R (f := (eD eZ eZ)) rfl (s0 := ⟨[.val (.tuple (List.map (eP eZ eZ) p_row)), .val (.list (List.map eZ p_lengths)), .val (.tuple (List.map eZ p_fixed)), .val (.tuple (List.map eZ p_choice)), .no, .no, .no, .no, .no, .no, .no, .no, .no, .no, .no, .no, .no, .no], w⟩) rfl
    (bl_asg (f := (eL (eT eZ))) (x := (s_law_st_sums p_row p_lengths)) (ok := (fun (sums_1 : (List (List Int))) => ((((p_fixed.length ≤ line)) ∧ ((p_choice.length ≤ line))) ∧ ((List.map (fun (a2 : Int) => (a2, (0 : Int))) p_fixed).length + (List.map (fun (a3 : Int) => (a3, (1 : Int))) p_choice).length ≤ line)) ∧ (leT (sortZ (eP eZ eZ) ((List.map (fun (a2 : Int) => (a2, (0 : Int))) p_fixed) ++ (List.map (fun (a3 : Int) => (a3, (1 : Int))) p_choice))) fun (marks_4 : (List (Int × Int))) => (leT (cond (decide (((marks_4.length : Int) % (2 : Int)) = (1 : Int))) (1 : Int) (-(1 : Int))) fun (turn_5 : Int) => (leT ([] : (List (Int × Int))) fun (found_6 : (List (Int × Int))) => (forOk (s_law_st_offsets_l1 p_row sums_1 marks_4 turn_5) (k_law_st_offsets_l1 p_row sums_1 marks_4 turn_5) ((found_6) : ((List (Int × Int)))) (enumZ 0 marks_4))))))) (fun sums_1 => ⟨[.val (.tuple (List.map (eP eZ eZ) p_row)), .val (.list (List.map eZ p_lengths)), .val (.tuple (List.map eZ p_fixed)), .val (.tuple (List.map eZ p_choice)), .val (.list (List.map (eT eZ) sums_1)), .no, .no, .no, .no, .no, .no, .no, .no, .no, .no, .no, .no, .no], w⟩) (ev_call (evs_cons (ev_var rfl) (evs_cons (ev_var rfl) evs_nil)) (t_law_st_sums (k + 0) (p_row) (p_lengths) _ h.1)) h.2 (fun _ => rfl) (fun sums_1 h15 => (bl_asg (f := (eL (eP eZ eZ))) (x := (sortZ (eP eZ eZ) ((List.map (fun (a2 : Int) => (a2, (0 : Int))) p_fixed) ++ (List.map (fun (a3 : Int) => (a3, (1 : Int))) p_choice)))) (ok := (fun (marks_4 : (List (Int × Int))) => (leT (cond (decide (((marks_4.length : Int) % (2 : Int)) = (1 : Int))) (1 : Int) (-(1 : Int))) fun (turn_5 : Int) => (leT ([] : (List (Int × Int))) fun (found_6 : (List (Int × Int))) => (forOk (s_law_st_offsets_l1 p_row sums_1 marks_4 turn_5) (k_law_st_offsets_l1 p_row sums_1 marks_4 turn_5) ((found_6) : ((List (Int × Int)))) (enumZ 0 marks_4)))))) (fun marks_4 => ⟨[.val (.tuple (List.map (eP eZ eZ) p_row)), .val (.list (List.map eZ p_lengths)), .val (.tuple (List.map eZ p_fixed)), .val (.tuple (List.map eZ p_choice)), .val (.list (List.map (eT eZ) sums_1)), .val (.list (List.map (eP eZ eZ) marks_4)), .no, .no, .no, .no, .no, .no, .no, .no, .no, .no, .no, .no], w⟩) (ev_sortL (f := (eP eZ eZ)) (pk_e rfl (ev_addL (x := (List.map (fun (a2 : Int) => (a2, (0 : Int))) p_fixed)) (y := (List.map (fun (a3 : Int) => (a3, (1 : Int))) p_choice)) (f := (eP eZ eZ)) (e2_ee rfl rfl (ev_lcq (f := (eP eZ eZ)) (fun (a2 : Int) => (a2, (0 : Int))) (fun (_ : Int) => True) (it_sqT (f := eZ) (xs := p_fixed) (ev_var rfl)) rfl h15.1.1.1 (fun _ _ => trivial) (fun (a2 : Int) h17 => ⟨[.val (.tuple (List.map (eP eZ eZ) p_row)), .val (.list (List.map eZ p_lengths)), .val (.tuple (List.map eZ p_fixed)), .val (.tuple (List.map eZ p_choice)), .val (.list (List.map (eT eZ) sums_1)), .no, .no, .no, .no, .no, .no, .no, .no, .val (.int a2), .no, .no, .no, .no], rfl, rfl, (ev_tup (evs_cons (ev_var rfl) (evs_cons ev_cst evs_nil)) (by simp only [List.length_cons, List.length_nil, List.length_map]; decide))⟩)) (ev_lcq (f := (eP eZ eZ)) (fun (a3 : Int) => (a3, (1 : Int))) (fun (_ : Int) => True) (it_sqT (f := eZ) (xs := p_choice) (ev_var rfl)) rfl h15.1.1.2 (fun _ _ => trivial) (fun (a3 : Int) h18 => ⟨[.val (.tuple (List.map (eP eZ eZ) p_row)), .val (.list (List.map eZ p_lengths)), .val (.tuple (List.map eZ p_fixed)), .val (.tuple (List.map eZ p_choice)), .val (.list (List.map (eT eZ) sums_1)), .no, .no, .no, .no, .no, .no, .no, .no, .no, .val (.int a3), .no, .no, .no], rfl, rfl, (ev_tup (evs_cons (ev_var rfl) (evs_cons ev_cst evs_nil)) (by simp only [List.length_cons, List.length_nil, List.length_map]; decide))⟩))) h15.1.2)) (sortOk_pair _)) h15.2 (fun _ => rfl) (fun marks_4 h16 => (bl_asg (f := eZ) (x := (cond (decide (((marks_4.length : Int) % (2 : Int)) = (1 : Int))) (1 : Int) (-(1 : Int)))) (ok := (fun (turn_5 : Int) => (leT ([] : (List (Int × Int))) fun (found_6 : (List (Int × Int))) => (forOk (s_law_st_offsets_l1 p_row sums_1 marks_4 turn_5) (k_law_st_offsets_l1 p_row sums_1 marks_4 turn_5) ((found_6) : ((List (Int × Int)))) (enumZ 0 marks_4))))) (fun turn_5 => ⟨[.val (.tuple (List.map (eP eZ eZ) p_row)), .val (.list (List.map eZ p_lengths)), .val (.tuple (List.map eZ p_fixed)), .val (.tuple (List.map eZ p_choice)), .val (.list (List.map (eT eZ) sums_1)), .val (.list (List.map (eP eZ eZ) marks_4)), .val (.int turn_5), .no, .no, .no, .no, .no, .no, .no, .no, .no, .no, .no], w⟩) (ev_ife (f := eZ) (ev_eq cZ (by decide) (e2_ee rfl rfl (ev_modI (e2_ee rfl rfl (ev_int (pk_e rfl (ev_lenL (f := (eP eZ eZ)) (pk_v rfl)))) ev_cst) (by decide)) ev_cst)) (fun h20 => ev_cst) (fun h20 => (ev_neg ev_cst))) h16 (fun _ => rfl) (fun turn_5 h19 => (bl_asgO (f := (eD eZ eZ)) (x := ([] : (List (Int × Int)))) (ok := (fun (found_6 : (List (Int × Int))) => (forOk (s_law_st_offsets_l1 p_row sums_1 marks_4 turn_5) (k_law_st_offsets_l1 p_row sums_1 marks_4 turn_5) ((found_6) : ((List (Int × Int)))) (enumZ 0 marks_4)))) (fun found_6 => ⟨[.val (.tuple (List.map (eP eZ eZ) p_row)), .val (.list (List.map eZ p_lengths)), .val (.tuple (List.map eZ p_fixed)), .val (.tuple (List.map eZ p_choice)), .val (.list (List.map (eT eZ) sums_1)), .val (.list (List.map (eP eZ eZ) marks_4)), .val (.int turn_5), .own (.dict (List.map (fun y => (eZ y.1, eZ y.2)) found_6)), .no, .no, .no, .no, .no, .no, .no, .no, .no, .no], w⟩) (show Ev _ _ _ (.dict (List.map (fun y => (eZ y.1, eZ y.2)) ([] : (List (Int × Int))))) _ from ev_disp0) h19 (fun _ => rfl) (fun found_6 h21 => (bl_fors (F := (eP eZ (eP eZ eZ))) (xs := (enumZ 0 marks_4)) (st0 := ((found_6) : ((List (Int × Int))))) (step := (s_law_st_offsets_l1 p_row sums_1 marks_4 turn_5)) (okb := (k_law_st_offsets_l1 p_row sums_1 marks_4 turn_5)) (ok := (fun (_ : ((List (Int × Int)))) => True)) (fun (j9 : (Ent × Ent × Ent × Ent × Ent)) => noO j9.1 = true ∧ noO j9.2.1 = true ∧ noO j9.2.2.1 = true ∧ noO j9.2.2.2.1 = true ∧ noO j9.2.2.2.2 = true) (fun (st8 : ((List (Int × Int)))) (j9 : (Ent × Ent × Ent × Ent × Ent)) => (⟨[.val (.tuple (List.map (eP eZ eZ) p_row)), .val (.list (List.map eZ p_lengths)), .val (.tuple (List.map eZ p_fixed)), .val (.tuple (List.map eZ p_choice)), .val (.list (List.map (eT eZ) sums_1)), .val (.list (List.map (eP eZ eZ) marks_4)), .val (.int turn_5), .own (.dict (List.map (fun y => (eZ y.1, eZ y.2)) st8)), j9.1, j9.2.1, j9.2.2.1, j9.2.2.2.1, j9.2.2.2.2, .no, .no, .no, .no, .no], w⟩ : S1)) (.no, .no, .no, .no, .no) ⟨rfl, rfl, rfl, rfl, rfl⟩ rfl (it_enL (f := (eP eZ eZ)) (ev_var rfl)) h21 trivial (fun (st8 : ((List (Int × Int)))) (j9 : (Ent × Ent × Ent × Ent × Ent)) (a7 : (Int × (Int × Int))) h22 n10 => ⟨[.val (.tuple (List.map (eP eZ eZ) p_row)), .val (.list (List.map eZ p_lengths)), .val (.tuple (List.map eZ p_fixed)), .val (.tuple (List.map eZ p_choice)), .val (.list (List.map (eT eZ) sums_1)), .val (.list (List.map (eP eZ eZ) marks_4)), .val (.int turn_5), .own (.dict (List.map (fun y => (eZ y.1, eZ y.2)) st8)), .val (.int a7.1), .val (.int a7.2.1), .val (.int a7.2.2), j9.2.2.2.1, j9.2.2.2.2, .no, .no, .no, .no, .no], rfl, (bl_ifs (ev_eq cZ (by decide) (e2_ve rfl rfl ev_cst rfl)) (fun h24 => (bl_asg (f := eZ) (x := (atZ p_row a7.2.1).1) (ok := (fun (colour_11 : Int) => (((enumZ 0 marks_4).length ≤ line) ∧ (∀ a12 ∈ (enumZ 0 marks_4), ((((((atOk sums_1 a12.2.1))) ∧ (atOk (atZ sums_1 a12.2.1) colour_11)))) ∧ (mulOk ((2 : Int) * (atZ (atZ sums_1 a12.2.1) colour_11)) (cond (decide ((a12.1 % (2 : Int)) = (0 : Int))) (1 : Int) (-(1 : Int)))))) ∧ (leT (List.sum (List.map (fun (a12 : (Int × (Int × Int))) => (((2 : Int) * (atZ (atZ sums_1 a12.2.1) colour_11)) * (cond (decide ((a12.1 % (2 : Int)) = (0 : Int))) (1 : Int) (-(1 : Int))))) (enumZ 0 marks_4))) fun (whole_13 : Int) => (((((((((atOk sums_1 (-(1 : Int))))) ∧ (atOk (atZ sums_1 (-(1 : Int))) colour_11))) ∧ (mulOk turn_5 (atZ (atZ sums_1 (-(1 : Int))) colour_11))))) ∧ (mulOk ((turn_5 * (atZ (atZ sums_1 (-(1 : Int))) colour_11)) - whole_13) (cond (decide ((a7.1 % (2 : Int)) = (0 : Int))) (1 : Int) (-(1 : Int))))) ∧ (st8.length < line)))) (fun colour_11 => ⟨[.val (.tuple (List.map (eP eZ eZ) p_row)), .val (.list (List.map eZ p_lengths)), .val (.tuple (List.map eZ p_fixed)), .val (.tuple (List.map eZ p_choice)), .val (.list (List.map (eT eZ) sums_1)), .val (.list (List.map (eP eZ eZ) marks_4)), .val (.int turn_5), .own (.dict (List.map (fun y => (eZ y.1, eZ y.2)) st8)), .val (.int a7.1), .val (.int a7.2.1), .val (.int a7.2.2), .val (.int colour_11), j9.2.2.2.2, .no, .no, .no, .no, .no], w⟩) (ev_fst (e2_ee rfl rfl (ev_idxT (f := (eP eZ eZ)) (e2_vv rfl rfl) (h22 h24).1) ev_cst)) (h22 h24).2 (fun _ => rfl) (fun colour_11 h25 => (bl_asg (f := eZ) (x := (List.sum (List.map (fun (a12 : (Int × (Int × Int))) => (((2 : Int) * (atZ (atZ sums_1 a12.2.1) colour_11)) * (cond (decide ((a12.1 % (2 : Int)) = (0 : Int))) (1 : Int) (-(1 : Int))))) (enumZ 0 marks_4)))) (ok := (fun (whole_13 : Int) => (((((((((atOk sums_1 (-(1 : Int))))) ∧ (atOk (atZ sums_1 (-(1 : Int))) colour_11))) ∧ (mulOk turn_5 (atZ (atZ sums_1 (-(1 : Int))) colour_11))))) ∧ (mulOk ((turn_5 * (atZ (atZ sums_1 (-(1 : Int))) colour_11)) - whole_13) (cond (decide ((a7.1 % (2 : Int)) = (0 : Int))) (1 : Int) (-(1 : Int))))) ∧ (st8.length < line))) (fun whole_13 => ⟨[.val (.tuple (List.map (eP eZ eZ) p_row)), .val (.list (List.map eZ p_lengths)), .val (.tuple (List.map eZ p_fixed)), .val (.tuple (List.map eZ p_choice)), .val (.list (List.map (eT eZ) sums_1)), .val (.list (List.map (eP eZ eZ) marks_4)), .val (.int turn_5), .own (.dict (List.map (fun y => (eZ y.1, eZ y.2)) st8)), .val (.int a7.1), .val (.int a7.2.1), .val (.int a7.2.2), .val (.int colour_11), .val (.int whole_13), .no, .no, .no, .no, .no], w⟩) (ev_sumL (pk_e rfl (ev_lcq (f := eZ) (fun (a12 : (Int × (Int × Int))) => (((2 : Int) * (atZ (atZ sums_1 a12.2.1) colour_11)) * (cond (decide ((a12.1 % (2 : Int)) = (0 : Int))) (1 : Int) (-(1 : Int))))) (fun (a12 : (Int × (Int × Int))) => ((((((atOk sums_1 a12.2.1))) ∧ (atOk (atZ sums_1 a12.2.1) colour_11)))) ∧ (mulOk ((2 : Int) * (atZ (atZ sums_1 a12.2.1) colour_11)) (cond (decide ((a12.1 % (2 : Int)) = (0 : Int))) (1 : Int) (-(1 : Int))))) (it_enL (f := (eP eZ eZ)) (ev_var rfl)) rfl h25.1.1 h25.1.2 (fun (a12 : (Int × (Int × Int))) h27 => ⟨[.val (.tuple (List.map (eP eZ eZ) p_row)), .val (.list (List.map eZ p_lengths)), .val (.tuple (List.map eZ p_fixed)), .val (.tuple (List.map eZ p_choice)), .val (.list (List.map (eT eZ) sums_1)), .val (.list (List.map (eP eZ eZ) marks_4)), .val (.int turn_5), .own (.dict (List.map (fun y => (eZ y.1, eZ y.2)) st8)), .val (.int a7.1), .val (.int a7.2.1), .val (.int a7.2.2), .val (.int colour_11), j9.2.2.2.2, .no, .no, .val (.int a12.1), .val (.int a12.2.1), .val (.int a12.2.2)], rfl, rfl, (ev_mulI (e2_ee rfl rfl (ev_mulI (e2_ee rfl rfl ev_cst (ev_idxT (f := eZ) (e2_ev rfl (ev_idxL (f := (eT eZ)) (e2_vv rfl rfl) h27.1.1) rfl) h27.1.2)) (by unfold mulOk; first | exact Bool.or_eq_true_iff.mpr (.inl (by decide)) | exact Bool.or_eq_true_iff.mpr (.inr (by decide)))) (ev_ife (f := eZ) (ev_eq cZ (by decide) (e2_ee rfl rfl (ev_modI (e2_ee rfl rfl (ev_int (pk_v rfl)) ev_cst) (by decide)) ev_cst)) (fun h28 => ev_cst) (fun h28 => (ev_neg ev_cst)))) h27.2)⟩)))) h25.2 (fun _ => rfl) (fun whole_13 h26 => (bl_setD keyZ (g' := eZ) (x := a7.2.1) (v := (((turn_5 * (atZ (atZ sums_1 (-(1 : Int))) colour_11)) - whole_13) * (cond (decide ((a7.1 % (2 : Int)) = (0 : Int))) (1 : Int) (-(1 : Int))))) (xs := st8) (ok := (fun (_ : (List (Int × Int))) => True)) (fun found_14 => ⟨[.val (.tuple (List.map (eP eZ eZ) p_row)), .val (.list (List.map eZ p_lengths)), .val (.tuple (List.map eZ p_fixed)), .val (.tuple (List.map eZ p_choice)), .val (.list (List.map (eT eZ) sums_1)), .val (.list (List.map (eP eZ eZ) marks_4)), .val (.int turn_5), .own (.dict (List.map (fun y => (eZ y.1, eZ y.2)) found_14)), .val (.int a7.1), .val (.int a7.2.1), .val (.int a7.2.2), .val (.int colour_11), .val (.int whole_13), .no, .no, .no, .no, .no], w⟩) (ev_mulI (e2_ee rfl rfl (ev_subI (e2_ev rfl (ev_mulI (e2_ve rfl rfl (ev_idxT (f := eZ) (e2_ev rfl (ev_idxL (f := (eT eZ)) (e2_ve rfl rfl (ev_neg ev_cst) rfl) h26.1.1.1.1) rfl) h26.1.1.1.2) rfl) h26.1.1.2) rfl)) (ev_ife (f := eZ) (ev_eq cZ (by decide) (e2_ee rfl rfl (ev_modI (e2_ee rfl rfl (ev_int (pk_v rfl)) ev_cst) (by decide)) ev_cst)) (fun h30 => ev_cst) (fun h30 => (ev_neg ev_cst)))) h26.1.2) rfl (ev_var rfl) rfl h26.2 trivial (fun _ => rfl) (fun found_14 h29 => (bl_nilL ⟨(.val (.int a7.1), .val (.int a7.2.1), .val (.int a7.2.2), .val (.int colour_11), .val (.int whole_13)), ⟨rfl, rfl, rfl, rfl, rfl⟩, rfl⟩)))))))) (fun h24 => (bl_nilL ⟨(.val (.int a7.1), .val (.int a7.2.1), .val (.int a7.2.2), j9.2.2.2.1, j9.2.2.2.2), ⟨rfl, rfl, rfl, n10.2.2.2.1, n10.2.2.2.2⟩, rfl⟩)))⟩) (fun st8 j9 h23 n10 => (bl_ret (f := (eD eZ eZ)) (ev_var rfl) rfl))))))))))))
def s_law_st_is (p_row : (List (Int × Int))) (p_fixed : (List Int)) (p_choice : (List Int)) : Bool := (leT (s_law_leaned p_row) fun (leaned_1 : (List Int)) => (leT (s_law_st_offsets p_row leaned_1 p_fixed p_choice) fun (offsets_2 : (List (Int × Int))) => (decide ((List.map (fun (a3 : Int) => (1 : Int)) (List.filter (fun (a3 : Int) => (!(decide ((0 : Int) < ((lookZ offsets_2 a3).getD default)) && decide (((lookZ offsets_2 a3).getD default) < ((2 : Int) * (atZ leaned_1 a3)))))) p_choice)) = ([] : (List Int))))))
def k_law_st_is (p_row : (List (Int × Int))) (p_fixed : (List Int)) (p_choice : (List Int)) : Prop := ((k_law_leaned p_row)) ∧ (leT (s_law_leaned p_row) fun (leaned_1 : (List Int)) => ((k_law_st_offsets p_row leaned_1 p_fixed p_choice)) ∧ (leT (s_law_st_offsets p_row leaned_1 p_fixed p_choice) fun (offsets_2 : (List (Int × Int))) => ((p_choice.length ≤ line) ∧ (∀ a3 ∈ p_choice, (((lookZ offsets_2 a3).isSome = true)) ∧ ((decide ((0 : Int) < ((lookZ offsets_2 a3).getD default))) = true → (((atOk leaned_1 a3))))))))
theorem t_law_st_is (k : Nat) (p_row : (List (Int × Int))) (p_fixed : (List Int)) (p_choice : (List Int)) (w : DW) (h : k_law_st_is p_row p_fixed p_choice) : Φ (k + 4) (Str.ofString "_law_st_is") [(.tuple (List.map (eP eZ eZ) p_row)), (.tuple (List.map eZ p_fixed)), (.tuple (List.map eZ p_choice))] w = some (.bool (s_law_st_is p_row p_fixed p_choice), w) :=
  (C_law_st_is (k + 3) _ w).trans (run_R (f := eB) rfl (s0 := ⟨[.val (.tuple (List.map (eP eZ eZ) p_row)), .val (.tuple (List.map eZ p_fixed)), .val (.tuple (List.map eZ p_choice)), .no, .no, .no], w⟩) rfl
    (bl_asg (f := (eL eZ)) (x := (s_law_leaned p_row)) (ok := (fun (leaned_1 : (List Int)) => ((k_law_st_offsets p_row leaned_1 p_fixed p_choice)) ∧ (leT (s_law_st_offsets p_row leaned_1 p_fixed p_choice) fun (offsets_2 : (List (Int × Int))) => ((p_choice.length ≤ line) ∧ (∀ a3 ∈ p_choice, (((lookZ offsets_2 a3).isSome = true)) ∧ ((decide ((0 : Int) < ((lookZ offsets_2 a3).getD default))) = true → (((atOk leaned_1 a3))))))))) (fun leaned_1 => ⟨[.val (.tuple (List.map (eP eZ eZ) p_row)), .val (.tuple (List.map eZ p_fixed)), .val (.tuple (List.map eZ p_choice)), .val (.list (List.map eZ leaned_1)), .no, .no], w⟩) (ev_call (evs_cons (ev_var rfl) evs_nil) (t_law_leaned (k + 2) (p_row) _ h.1)) h.2 (fun _ => rfl) (fun leaned_1 h4 => (bl_asg (f := (eD eZ eZ)) (x := (s_law_st_offsets p_row leaned_1 p_fixed p_choice)) (ok := (fun (offsets_2 : (List (Int × Int))) => ((p_choice.length ≤ line) ∧ (∀ a3 ∈ p_choice, (((lookZ offsets_2 a3).isSome = true)) ∧ ((decide ((0 : Int) < ((lookZ offsets_2 a3).getD default))) = true → (((atOk leaned_1 a3)))))))) (fun offsets_2 => ⟨[.val (.tuple (List.map (eP eZ eZ) p_row)), .val (.tuple (List.map eZ p_fixed)), .val (.tuple (List.map eZ p_choice)), .val (.list (List.map eZ leaned_1)), .val (.dict (List.map (fun y => (eZ y.1, eZ y.2)) offsets_2)), .no], w⟩) (ev_call (evs_cons (ev_var rfl) (evs_cons (ev_var rfl) (evs_cons (ev_var rfl) (evs_cons (ev_var rfl) evs_nil)))) (t_law_st_offsets (k + 0) (p_row) (leaned_1) (p_fixed) (p_choice) _ h4.1)) h4.2 (fun _ => rfl) (fun offsets_2 h5 => (bl_ret (f := eB) (ev_eq (cL cZ) (by decide) (x := (List.map (fun (a3 : Int) => (1 : Int)) (List.filter (fun (a3 : Int) => (!(decide ((0 : Int) < ((lookZ offsets_2 a3).getD default)) && decide (((lookZ offsets_2 a3).getD default) < ((2 : Int) * (atZ leaned_1 a3)))))) p_choice))) (y := ([] : (List Int))) (e2_ee rfl rfl (ev_lcp (f := eZ) (fun (a3 : Int) => (!(decide ((0 : Int) < ((lookZ offsets_2 a3).getD default)) && decide (((lookZ offsets_2 a3).getD default) < ((2 : Int) * (atZ leaned_1 a3)))))) (fun (a3 : Int) => (1 : Int)) (fun (a3 : Int) => (((lookZ offsets_2 a3).isSome = true)) ∧ ((decide ((0 : Int) < ((lookZ offsets_2 a3).getD default))) = true → (((atOk leaned_1 a3))))) (fun (_ : Int) => True) (it_sqT (f := eZ) (xs := p_choice) (ev_var rfl)) rfl h5.1 (fun b hb => ⟨h5.2 b hb, fun _ => trivial⟩) (fun (a3 : Int) h6 => ⟨[.val (.tuple (List.map (eP eZ eZ) p_row)), .val (.tuple (List.map eZ p_fixed)), .val (.tuple (List.map eZ p_choice)), .val (.list (List.map eZ leaned_1)), .val (.dict (List.map (fun y => (eZ y.1, eZ y.2)) offsets_2)), .val (.int a3)], rfl, rfl, (ev_not (ev_chain ev_cst (ev_idxD keyZ (g := eZ) (l := offsets_2) (k := a3) (e2_vv rfl rfl) h6.1) rfl (fun h8 => (ev_mulI (e2_ee rfl rfl ev_cst (ev_idxL (f := eZ) (e2_vv rfl rfl) (h6.2 h8))) (by unfold mulOk; first | exact Bool.or_eq_true_iff.mpr (.inl (by decide)) | exact Bool.or_eq_true_iff.mpr (.inr (by decide))))) rfl rfl)), fun h7 => ev_cst⟩)) (show Ev _ _ _ (.list (List.map eZ ([] : (List Int)))) _ from ev_lst evs_nil (by simp only [List.length_cons, List.length_nil, List.length_map]; decide)))) rfl))))))
def s_law_st_all (p_row : (List (Int × Int))) (p_colours : (List Int)) (p_fixed : (List Int)) : (List (List Int)) := (List.map (fun (a1 : (List Int)) => a1) (List.filter (fun (a1 : (List Int)) => (s_law_st_is p_row p_fixed a1)) (s_law_choices p_row p_colours)))
def k_law_st_all (p_row : (List (Int × Int))) (p_colours : (List Int)) (p_fixed : (List Int)) : Prop := ((k_law_choices p_row p_colours)) ∧ ((s_law_choices p_row p_colours).length ≤ line) ∧ (∀ a1 ∈ (s_law_choices p_row p_colours), (k_law_st_is p_row p_fixed a1))
theorem t_law_st_all (k : Nat) (p_row : (List (Int × Int))) (p_colours : (List Int)) (p_fixed : (List Int)) (w : DW) (h : k_law_st_all p_row p_colours p_fixed) : Φ (k + 5) (Str.ofString "_law_st_all") [(.tuple (List.map (eP eZ eZ) p_row)), (.tuple (List.map eZ p_colours)), (.tuple (List.map eZ p_fixed))] w = some (.tuple (List.map (eT eZ) (s_law_st_all p_row p_colours p_fixed)), w) :=
  (C_law_st_all (k + 4) _ w).trans (run_R (f := (eT (eT eZ))) rfl (s0 := ⟨[.val (.tuple (List.map (eP eZ eZ) p_row)), .val (.tuple (List.map eZ p_colours)), .val (.tuple (List.map eZ p_fixed)), .no], w⟩) rfl
    (bl_ret (f := (eT (eT eZ))) (ev_tupL (f := (eT eZ)) (pk_e rfl (ev_lcp (f := (eT eZ)) (fun (a1 : (List Int)) => (s_law_st_is p_row p_fixed a1)) (fun (a1 : (List Int)) => a1) (fun (a1 : (List Int)) => (k_law_st_is p_row p_fixed a1)) (fun (_ : (List Int)) => True) (it_sqL (f := (eT eZ)) (xs := (s_law_choices p_row p_colours)) (ev_call (evs_cons (ev_var rfl) (evs_cons (ev_var rfl) evs_nil)) (t_law_choices (k + 3) (p_row) (p_colours) _ h.1))) rfl h.2.1 (fun b hb => ⟨h.2.2 b hb, fun _ => trivial⟩) (fun (a1 : (List Int)) h2 => ⟨[.val (.tuple (List.map (eP eZ eZ) p_row)), .val (.tuple (List.map eZ p_colours)), .val (.tuple (List.map eZ p_fixed)), .val (.tuple (List.map eZ a1))], rfl, rfl, (ev_call (evs_cons (ev_var rfl) (evs_cons (ev_var rfl) (evs_cons (ev_var rfl) evs_nil))) (t_law_st_is (k + 0) (p_row) (p_fixed) (a1) _ h2)), fun h3 => (ev_var rfl)⟩)))) rfl))
def s_is_whole (p_value : Int) : Bool := (true && (!false))
def k_is_whole (p_value : Int) : Prop := True
theorem t_is_whole (k : Nat) (p_value : Int) (w : DW) (h : k_is_whole p_value) : Φ (k + 1) (Str.ofString "is_whole") [(.int p_value)] w = some (.bool (s_is_whole p_value), w) :=
  (C_is_whole (k + 0) _ w).trans (run_R (f := eB) rfl (s0 := ⟨[.val (.int p_value)], w⟩) rfl
    (bl_ret (f := eB) (ev_and (ev_isi (ev_var rfl) rfl) (fun h1 => (ev_not (ev_isi (ev_var rfl) rfl)))) rfl))
def s_is_piece (p_value : (Int × Int)) : Bool := (cond ((!true) || ((!decide (((2 : Nat) : Int) = (2 : Int))) || (!(List.all (List.map (fun (a1 : Int) => (s_is_whole a1)) ([p_value.1, p_value.2] : (List Int))) id)))) false ((decide ((0 : Int) ≤ p_value.1) && decide (p_value.1 < (4))) && (decide ((1 : Int) ≤ p_value.2) && decide (p_value.2 ≤ (1000000000000)))))
def k_is_piece (p_value : (Int × Int)) : Prop := (((!true) = false → (((!decide (((2 : Nat) : Int) = (2 : Int))) = false → ((([p_value.1, p_value.2] : (List Int)).length ≤ line))))))
theorem t_is_piece (k : Nat) (p_value : (Int × Int)) (w : DW) (h : k_is_piece p_value) : Φ (k + 2) (Str.ofString "is_piece") [(.tuple [.int p_value.1, .int p_value.2])] w = some (.bool (s_is_piece p_value), w) :=
  (C_is_piece (k + 1) _ w).trans (run_R (f := eB) rfl (s0 := ⟨[.val (.tuple [.int p_value.1, .int p_value.2]), .no], w⟩) rfl
    (bl_ifs (ev_or (ev_not (ev_isi (ev_var rfl) rfl)) (fun h3 => (ev_or (ev_ne cZ (by decide) (e2_ee rfl rfl (ev_bf (pk_v rfl) rfl) ev_cst)) (fun h4 => (ev_not (ev_allL (pk_e rfl (ev_lcq (f := eB) (fun (a1 : Int) => (s_is_whole a1)) (fun (_ : Int) => True) (it_sqT (f := eZ) (xs := ([p_value.1, p_value.2] : (List Int))) (ev_var rfl)) rfl ((h h3) h4) (fun _ _ => trivial) (fun (a1 : Int) h5 => ⟨[.val (.tuple [.int p_value.1, .int p_value.2]), .val (.int a1)], rfl, rfl, (ev_call (evs_cons (ev_var rfl) evs_nil) (t_is_whole (k + 0) (a1) _ trivial))⟩))))))))) (fun h2 => (bl_ret (f := eB) ev_cst rfl)) (fun h2 => (bl_ret (f := eB) (ev_and (ev_chain ev_cst (ev_fst (e2_ve rfl rfl ev_cst rfl)) rfl (fun h7 => ev_cst) rfl rfl) (fun h6 => (ev_chain ev_cst (ev_snd (e2_ve rfl rfl ev_cst rfl)) rfl (fun h8 => ev_cst) rfl rfl))) rfl))))
def s_many_colours (p_row : (List (Int × Int))) : Int := ((maxZ (List.map (fun (a1 : (Int × Int)) => a1.1) p_row)) + (1 : Int))
def k_many_colours (p_row : (List (Int × Int))) : Prop := (((p_row.length ≤ line)) ∧ ((List.map (fun (a1 : (Int × Int)) => a1.1) p_row) ≠ []))
theorem t_many_colours (k : Nat) (p_row : (List (Int × Int))) (w : DW) (h : k_many_colours p_row) : Φ (k + 1) (Str.ofString "many_colours") [(.tuple (List.map (eP eZ eZ) p_row))] w = some (.int (s_many_colours p_row), w) :=
  (C_many_colours (k + 0) _ w).trans (run_R (f := eZ) rfl (s0 := ⟨[.val (.tuple (List.map (eP eZ eZ) p_row)), .no, .no], w⟩) rfl
    (bl_ret (f := eZ) (ev_addI (e2_ee rfl rfl (ev_maxL (pk_e rfl (ev_lcq (f := eZ) (fun (a1 : (Int × Int)) => a1.1) (fun (_ : (Int × Int)) => True) (it_sqT (f := (eP eZ eZ)) (xs := p_row) (ev_var rfl)) rfl h.1 (fun _ _ => trivial) (fun (a1 : (Int × Int)) h2 => ⟨[.val (.tuple (List.map (eP eZ eZ) p_row)), .val (.int a1.1), .val (.int a1.2)], rfl, rfl, (ev_var rfl)⟩))) h.2) ev_cst)) rfl))
def s_is_row (p_value : (List (Int × Int))) : Bool := (cond ((!true) || ((!(decide ((1 : Int) ≤ (p_value.length : Int)) && decide ((p_value.length : Int) ≤ (16)))) || (!(List.all (List.map (fun (a1 : (Int × Int)) => (s_is_piece a1)) p_value) id)))) false (decide (((List.foldl (fun acc (a2 : (Int × Int)) => putZ a2.1 true acc) [] (List.filter (fun (a2 : (Int × Int)) => true) p_value)).length : Int) = (s_many_colours p_value))))
def k_is_row (p_value : (List (Int × Int))) : Prop := (((!true) = false → (((!(decide ((1 : Int) ≤ (p_value.length : Int)) && decide ((p_value.length : Int) ≤ (16)))) = false → ((p_value.length ≤ line) ∧ (∀ a1 ∈ p_value, (k_is_piece a1))))))) ∧ (((!true) || ((!(decide ((1 : Int) ≤ (p_value.length : Int)) && decide ((p_value.length : Int) ≤ (16)))) || (!(List.all (List.map (fun (a1 : (Int × Int)) => (s_is_piece a1)) p_value) id)))) = false → (((p_value.length ≤ line)) ∧ ((k_many_colours p_value))))
theorem t_is_row (k : Nat) (p_value : (List (Int × Int))) (w : DW) (h : k_is_row p_value) : Φ (k + 3) (Str.ofString "is_row") [(.tuple (List.map (eP eZ eZ) p_value))] w = some (.bool (s_is_row p_value), w) :=
  (C_is_row (k + 2) _ w).trans (run_R (f := eB) rfl (s0 := ⟨[.val (.tuple (List.map (eP eZ eZ) p_value)), .no, .no, .no], w⟩) rfl
    (bl_ifs (ev_or (ev_not (ev_isi (ev_var rfl) rfl)) (fun h4 => (ev_or (ev_not (ev_chain ev_cst (ev_lenT (f := (eP eZ eZ)) (pk_v rfl)) rfl (fun h6 => ev_cst) rfl rfl)) (fun h5 => (ev_not (ev_allL (pk_e rfl (ev_lcq (f := eB) (fun (a1 : (Int × Int)) => (s_is_piece a1)) (fun (a1 : (Int × Int)) => (k_is_piece a1)) (it_sqT (f := (eP eZ eZ)) (xs := p_value) (ev_var rfl)) rfl ((h.1 h4) h5).1 ((h.1 h4) h5).2 (fun (a1 : (Int × Int)) h7 => ⟨[.val (.tuple (List.map (eP eZ eZ) p_value)), .no, .no, .val (.tuple [.int a1.1, .int a1.2])], rfl, rfl, (ev_call (evs_cons (ev_var rfl) evs_nil) (t_is_piece (k + 0) (a1) _ h7))⟩))))))))) (fun h3 => (bl_ret (f := eB) ev_cst rfl)) (fun h3 => (bl_ret (f := eB) (ev_eq cZ (by decide) (e2_ee rfl rfl (ev_lenD keyZ (g := eB) (pk_e rfl (ev_dcZ keyZ (g := eB) (fun (a2 : (Int × Int)) => true) (fun (a2 : (Int × Int)) => a2.1) (fun (a2 : (Int × Int)) => true) (fun (a2 : (Int × Int)) => True) (fun (a2 : (Int × Int)) => True) (it_sqT (f := (eP eZ eZ)) (xs := p_value) (ev_var rfl)) rfl (h.2 h3).1 (fun _ _ => ⟨trivial, fun _ => trivial⟩) (fun (a2 : (Int × Int)) h8 => ⟨[.val (.tuple (List.map (eP eZ eZ) p_value)), .val (.int a2.1), .val (.int a2.2), .no], rfl, rfl, ev_cst, fun h9 => ⟨(ev_var rfl), ev_cst⟩⟩)))) (ev_call (evs_cons (ev_var rfl) evs_nil) (t_many_colours (k + 1) (p_value) _ (h.2 h3).2)))) rfl))))
def s_need_row (p_row : (List (Int × Int))) : Unit := (cond (!(s_is_row p_row)) (default : Unit) ())
def k_need_row (p_row : (List (Int × Int))) : Prop := ((k_is_row p_row)) ∧ ((!(s_is_row p_row)) = true → (False))
theorem t_need_row (k : Nat) (p_row : (List (Int × Int))) (w : DW) (h : k_need_row p_row) : Φ (k + 4) (Str.ofString "need_row") [(.tuple (List.map (eP eZ eZ) p_row))] w = some (.none, w) :=
  (C_need_row (k + 3) _ w).trans (run_N rfl (s0 := ⟨[.val (.tuple (List.map (eP eZ eZ) p_row))], w⟩) rfl
    (bl_ifs (x := (default : Unit)) (y := ()) (ev_not (ev_call (evs_cons (ev_var rfl) evs_nil) (t_is_row (k + 0) (p_row) _ h.1))) (fun h1 => (False.elim (h.2 h1))) (fun h1 => (bl_nil (st := ()) rfl))))
def s_are_ascending (p_value : (List Int)) (p_most : Int) : Bool := (cond ((!true) || (!(List.all (List.map (fun (a1 : Int) => ((s_is_whole a1) && (decide ((0 : Int) ≤ a1) && decide (a1 ≤ p_most)))) p_value) id))) false (List.all (List.map (fun (a2 : (Int × Int)) => (decide (a2.1 < a2.2))) (List.zip p_value (cutZ p_value (some (1 : Int)) none))) id))
def k_are_ascending (p_value : (List Int)) (p_most : Int) : Prop := (((!true) = false → ((p_value.length ≤ line)))) ∧ (((!true) || (!(List.all (List.map (fun (a1 : Int) => ((s_is_whole a1) && (decide ((0 : Int) ≤ a1) && decide (a1 ≤ p_most)))) p_value) id))) = false → (((List.zip p_value (cutZ p_value (some (1 : Int)) none)).length ≤ line)))
theorem t_are_ascending (k : Nat) (p_value : (List Int)) (p_most : Int) (w : DW) (h : k_are_ascending p_value p_most) : Φ (k + 2) (Str.ofString "are_ascending") [(.tuple (List.map eZ p_value)), (.int p_most)] w = some (.bool (s_are_ascending p_value p_most), w) :=
  (C_are_ascending (k + 1) _ w).trans (run_R (f := eB) rfl (s0 := ⟨[.val (.tuple (List.map eZ p_value)), .val (.int p_most), .no, .no, .no], w⟩) rfl
    (bl_ifs (ev_or (ev_not (ev_isi (ev_var rfl) rfl)) (fun h4 => (ev_not (ev_allL (pk_e rfl (ev_lcq (f := eB) (fun (a1 : Int) => ((s_is_whole a1) && (decide ((0 : Int) ≤ a1) && decide (a1 ≤ p_most)))) (fun (_ : Int) => True) (it_sqT (f := eZ) (xs := p_value) (ev_var rfl)) rfl (h.1 h4) (fun _ _ => trivial) (fun (a1 : Int) h5 => ⟨[.val (.tuple (List.map eZ p_value)), .val (.int p_most), .no, .no, .val (.int a1)], rfl, rfl, (ev_and (ev_call (evs_cons (ev_var rfl) evs_nil) (t_is_whole (k + 0) (a1) _ trivial)) (fun h6 => (ev_chain ev_cst (ev_var rfl) rfl (fun h7 => (ev_var rfl)) rfl rfl)))⟩))))))) (fun h3 => (bl_ret (f := eB) ev_cst rfl)) (fun h3 => (bl_ret (f := eB) (ev_allL (pk_e rfl (ev_lcq (f := eB) (fun (a2 : (Int × Int)) => (decide (a2.1 < a2.2))) (fun (_ : (Int × Int)) => True) (it_zp (f := eZ) (g := eZ) (xs := p_value) (ys := (cutZ p_value (some (1 : Int)) none)) (ev_var rfl) (ev_slFT (f := eZ) (e2_ve rfl rfl ev_cst rfl)) rfl rfl) rfl (h.2 h3) (fun _ _ => trivial) (fun (a2 : (Int × Int)) h8 => ⟨[.val (.tuple (List.map eZ p_value)), .val (.int p_most), .val (.int a2.1), .val (.int a2.2), .no], rfl, rfl, (ev_lt (e2_vv rfl rfl))⟩)))) rfl))))
def s_need_colours (p_row : (List (Int × Int))) (p_colours : (List Int)) : Unit := (cond (!(s_are_ascending p_colours ((s_many_colours p_row) - (1 : Int)))) (default : Unit) ())
def k_need_colours (p_row : (List (Int × Int))) (p_colours : (List Int)) : Prop := ((((k_many_colours p_row))) ∧ (k_are_ascending p_colours ((s_many_colours p_row) - (1 : Int)))) ∧ ((!(s_are_ascending p_colours ((s_many_colours p_row) - (1 : Int)))) = true → (False))
theorem t_need_colours (k : Nat) (p_row : (List (Int × Int))) (p_colours : (List Int)) (w : DW) (h : k_need_colours p_row p_colours) : Φ (k + 3) (Str.ofString "need_colours") [(.tuple (List.map (eP eZ eZ) p_row)), (.tuple (List.map eZ p_colours))] w = some (.none, w) :=
  (C_need_colours (k + 2) _ w).trans (run_N rfl (s0 := ⟨[.val (.tuple (List.map (eP eZ eZ) p_row)), .val (.tuple (List.map eZ p_colours))], w⟩) rfl
    (bl_ifs (x := (default : Unit)) (y := ()) (ev_not (ev_call (evs_cons (ev_var rfl) (evs_cons (ev_subI (e2_ee rfl rfl (ev_call (evs_cons (ev_var rfl) evs_nil) (t_many_colours (k + 1) (p_row) _ h.1.1)) ev_cst)) evs_nil)) (t_are_ascending (k + 0) (p_colours) (((s_many_colours p_row) - (1 : Int))) _ h.1.2))) (fun h1 => (False.elim (h.2 h1))) (fun h1 => (bl_nil (st := ()) rfl))))
def s_need_ends (p_row : (List (Int × Int))) (p_fixed : (List Int)) : Unit := (cond (!(s_are_ascending p_fixed (p_row.length : Int))) (default : Unit) ())
def k_need_ends (p_row : (List (Int × Int))) (p_fixed : (List Int)) : Prop := ((k_are_ascending p_fixed (p_row.length : Int))) ∧ ((!(s_are_ascending p_fixed (p_row.length : Int))) = true → (False))
theorem t_need_ends (k : Nat) (p_row : (List (Int × Int))) (p_fixed : (List Int)) (w : DW) (h : k_need_ends p_row p_fixed) : Φ (k + 3) (Str.ofString "need_ends") [(.tuple (List.map (eP eZ eZ) p_row)), (.tuple (List.map eZ p_fixed))] w = some (.none, w) :=
  (C_need_ends (k + 2) _ w).trans (run_N rfl (s0 := ⟨[.val (.tuple (List.map (eP eZ eZ) p_row)), .val (.tuple (List.map eZ p_fixed))], w⟩) rfl
    (bl_ifs (x := (default : Unit)) (y := ()) (ev_not (ev_call (evs_cons (ev_var rfl) (evs_cons (ev_lenT (f := (eP eZ eZ)) (pk_v rfl)) evs_nil)) (t_are_ascending (k + 0) (p_fixed) ((p_row.length : Int)) _ h.1))) (fun h1 => (False.elim (h.2 h1))) (fun h1 => (bl_nil (st := ()) rfl))))
def s_need_setting (p_row : (List (Int × Int))) (p_colours : (List Int)) (p_fixed : (List Int)) : Unit := ()
def k_need_setting (p_row : (List (Int × Int))) (p_colours : (List Int)) (p_fixed : (List Int)) : Prop := ((k_need_row p_row)) ∧ (((k_need_colours p_row p_colours)) ∧ (((k_need_ends p_row p_fixed))))
theorem t_need_setting (k : Nat) (p_row : (List (Int × Int))) (p_colours : (List Int)) (p_fixed : (List Int)) (w : DW) (h : k_need_setting p_row p_colours p_fixed) : Φ (k + 5) (Str.ofString "need_setting") [(.tuple (List.map (eP eZ eZ) p_row)), (.tuple (List.map eZ p_colours)), (.tuple (List.map eZ p_fixed))] w = some (.none, w) :=
  (C_need_setting (k + 4) _ w).trans (run_N rfl (s0 := ⟨[.val (.tuple (List.map (eP eZ eZ) p_row)), .val (.tuple (List.map eZ p_colours)), .val (.tuple (List.map eZ p_fixed))], w⟩) rfl
    (bl_ex (ev_call (evs_cons (ev_var rfl) evs_nil) (t_need_row (k + 0) (p_row) _ h.1)) (bl_ex (ev_call (evs_cons (ev_var rfl) (evs_cons (ev_var rfl) evs_nil)) (t_need_colours (k + 1) (p_row) (p_colours) _ h.2.1)) (bl_ex (ev_call (evs_cons (ev_var rfl) (evs_cons (ev_var rfl) evs_nil)) (t_need_ends (k + 1) (p_row) (p_fixed) _ h.2.2)) (bl_nil (st := ()) rfl)))))
def s_lengths_leaned_l1  (st5 : (Int)) (a4 : (Int × Int)) : (Int) := (leT (st5 * (4 : Int)) fun (whole_8 : Int) => (whole_8))
def s_lengths_leaned_l2 (st5 : (Int)) (st10 : ((List Int) × Int)) (a9 : (Int × Int)) : ((List Int) × Int) := (leT (st10.1 ++ [((a9.2 * st5) + st10.2)]) fun (found_13 : (List Int)) => (leT (st10.2 * (3 : Int)) fun (lean_14 : Int) => (found_13, lean_14)))
def k_lengths_leaned_l2 (st5 : (Int)) (st10 : ((List Int) × Int)) (a9 : (Int × Int)) : Prop := (((mulOk a9.2 st5))) ∧ (st10.1.length < line)
def s_lengths_leaned (p_row : (List (Int × Int))) : (List Int) := (leT (1 : Int) fun (whole_1 : Int) => (leT (1 : Int) fun (lean_2 : Int) => (leT ([] : (List Int)) fun (found_3 : (List Int)) => (leT (List.foldl s_lengths_leaned_l1 ((whole_1) : (Int)) p_row) fun (st5 : (Int)) => (leT (List.foldl (s_lengths_leaned_l2 st5) ((found_3, lean_2) : ((List Int) × Int)) p_row) fun (st10 : ((List Int) × Int)) => st10.1)))))
def k_lengths_leaned (p_row : (List (Int × Int))) : Prop := ((leT (1 : Int) fun (whole_1 : Int) => (leT (1 : Int) fun (lean_2 : Int) => (leT ([] : (List Int)) fun (found_3 : (List Int)) => (leT (List.foldl s_lengths_leaned_l1 ((whole_1) : (Int)) p_row) fun (st5 : (Int)) => (forOk (s_lengths_leaned_l2 st5) (k_lengths_leaned_l2 st5) ((found_3, lean_2) : ((List Int) × Int)) p_row))))))
theorem t_lengths_leaned (k : Nat) (p_row : (List (Int × Int))) (w : DW) (h : k_lengths_leaned p_row) : Φ (k + 1) (Str.ofString "lengths_leaned") [(.tuple (List.map (eP eZ eZ) p_row))] w = some (.tuple (List.map eZ (s_lengths_leaned p_row)), w) :=
  (C_lengths_leaned (k + 0) _ w).trans (run_R (f := (eT eZ)) rfl (s0 := ⟨[.val (.tuple (List.map (eP eZ eZ) p_row)), .no, .no, .no, .no, .no, .no], w⟩) rfl
    (bl_par3 (f := eZ) (x := (1 : Int)) (f' := eZ) (x' := (1 : Int)) (f'' := (eL eZ)) (x'' := ([] : (List Int))) (ok := (fun (whole_1 : Int) (lean_2 : Int) (found_3 : (List Int)) => (leT (List.foldl s_lengths_leaned_l1 ((whole_1) : (Int)) p_row) fun (st5 : (Int)) => (forOk (s_lengths_leaned_l2 st5) (k_lengths_leaned_l2 st5) ((found_3, lean_2) : ((List Int) × Int)) p_row)))) (fun (whole_1 : Int) (lean_2 : Int) (found_3 : (List Int)) => [.val (.tuple (List.map (eP eZ eZ) p_row)), .val (.int whole_1), .val (.int lean_2), .own (.list (List.map eZ found_3)), .no, .no, .no]) (evs_cons ev_cst (evs_cons ev_cst (evs_cons (show Ev _ _ _ (.list (List.map eZ ([] : (List Int)))) _ from ev_lst evs_nil (by simp only [List.length_cons, List.length_nil, List.length_map]; decide)) evs_nil))) h (fun _ _ _ => rfl) (fun (whole_1 : Int) (lean_2 : Int) (found_3 : (List Int)) h15 => (bl_fors (F := (eP eZ eZ)) (xs := p_row) (st0 := ((whole_1) : (Int))) (step := s_lengths_leaned_l1) (okb := (fun (_ : (Int)) (_ : (Int × Int)) => True)) (ok := (fun (st5 : (Int)) => (forOk (s_lengths_leaned_l2 st5) (k_lengths_leaned_l2 st5) ((found_3, lean_2) : ((List Int) × Int)) p_row))) (fun (j6 : (Ent)) => noO j6 = true) (fun (st5 : (Int)) (j6 : (Ent)) => (⟨[.val (.tuple (List.map (eP eZ eZ) p_row)), .val (.int st5), .val (.int lean_2), .own (.list (List.map eZ found_3)), j6, .no, .no], w⟩ : S1)) (.no) rfl rfl (it_sqT (f := (eP eZ eZ)) (xs := p_row) (ev_var rfl)) (forOk_true _ _ _) h15 (fun (st5 : (Int)) (j6 : (Ent)) (a4 : (Int × Int)) h16 n7 => ⟨[.val (.tuple (List.map (eP eZ eZ) p_row)), .val (.int st5), .val (.int lean_2), .own (.list (List.map eZ found_3)), .val (.tuple [.int a4.1, .int a4.2]), .no, .no], rfl, (bl_asg (f := eZ) (x := (st5 * (4 : Int))) (ok := (fun (_ : Int) => True)) (fun whole_8 => ⟨[.val (.tuple (List.map (eP eZ eZ) p_row)), .val (.int whole_8), .val (.int lean_2), .own (.list (List.map eZ found_3)), .val (.tuple [.int a4.1, .int a4.2]), .no, .no], w⟩) (ev_mulI (e2_ve rfl rfl ev_cst rfl) (by unfold mulOk; first | exact Bool.or_eq_true_iff.mpr (.inl (by decide)) | exact Bool.or_eq_true_iff.mpr (.inr (by decide)))) trivial (fun _ => rfl) (fun whole_8 h18 => (bl_nilL ⟨(.val (.tuple [.int a4.1, .int a4.2])), rfl, rfl⟩)))⟩) (fun st5 j6 h17 n7 => (bl_fors (F := (eP eZ eZ)) (xs := p_row) (st0 := ((found_3, lean_2) : ((List Int) × Int))) (step := (s_lengths_leaned_l2 st5)) (okb := (k_lengths_leaned_l2 st5)) (ok := (fun (_ : ((List Int) × Int)) => True)) (fun (j11 : (Ent × Ent)) => noO j11.1 = true ∧ noO j11.2 = true) (fun (st10 : ((List Int) × Int)) (j11 : (Ent × Ent)) => (⟨[.val (.tuple (List.map (eP eZ eZ) p_row)), .val (.int st5), .val (.int st10.2), .own (.list (List.map eZ st10.1)), j6, j11.1, j11.2], w⟩ : S1)) (.no, .no) ⟨rfl, rfl⟩ rfl (it_sqT (f := (eP eZ eZ)) (xs := p_row) (ev_var rfl)) h17 trivial (fun (st10 : ((List Int) × Int)) (j11 : (Ent × Ent)) (a9 : (Int × Int)) h19 n12 => ⟨[.val (.tuple (List.map (eP eZ eZ) p_row)), .val (.int st5), .val (.int st10.2), .own (.list (List.map eZ st10.1)), j6, .val (.int a9.1), .val (.int a9.2)], rfl, (bl_app (f := eZ) (x := ((a9.2 * st5) + st10.2)) (xs := st10.1) (ok := (fun (_ : (List Int)) => True)) (fun found_13 => ⟨[.val (.tuple (List.map (eP eZ eZ) p_row)), .val (.int st5), .val (.int st10.2), .own (.list (List.map eZ found_13)), j6, .val (.int a9.1), .val (.int a9.2)], w⟩) rfl (ev_addI (e2_ev rfl (ev_mulI (e2_vv rfl rfl) h19.1) rfl)) rfl h19.2 trivial (fun _ => rfl) (fun found_13 h21 => (bl_asg (f := eZ) (x := (st10.2 * (3 : Int))) (ok := (fun (_ : Int) => True)) (fun lean_14 => ⟨[.val (.tuple (List.map (eP eZ eZ) p_row)), .val (.int st5), .val (.int lean_14), .own (.list (List.map eZ found_13)), j6, .val (.int a9.1), .val (.int a9.2)], w⟩) (ev_mulI (e2_ve rfl rfl ev_cst rfl) (by unfold mulOk; first | exact Bool.or_eq_true_iff.mpr (.inl (by decide)) | exact Bool.or_eq_true_iff.mpr (.inr (by decide)))) trivial (fun _ => rfl) (fun lean_14 h22 => (bl_nilL ⟨(.val (.int a9.1), .val (.int a9.2)), ⟨rfl, rfl⟩, rfl⟩)))))⟩) (fun st10 j11 h20 n12 => (bl_ret (f := (eT eZ)) (ev_tupL (f := eZ) (pk_v rfl)) rfl))))))))
def s_numbers_of (p_row : (List (Int × Int))) (p_colour : Int) : (List Int) := (List.map (fun (a1 : (Int × (Int × Int))) => a1.1) (List.filter (fun (a1 : (Int × (Int × Int))) => (decide (a1.2.1 = p_colour))) (enumZ 0 p_row)))
def k_numbers_of (p_row : (List (Int × Int))) (p_colour : Int) : Prop := ((enumZ 0 p_row).length ≤ line)
theorem t_numbers_of (k : Nat) (p_row : (List (Int × Int))) (p_colour : Int) (w : DW) (h : k_numbers_of p_row p_colour) : Φ (k + 1) (Str.ofString "numbers_of") [(.tuple (List.map (eP eZ eZ) p_row)), (.int p_colour)] w = some (.list (List.map eZ (s_numbers_of p_row p_colour)), w) :=
  (C_numbers_of (k + 0) _ w).trans (run_R (f := (eL eZ)) rfl (s0 := ⟨[.val (.tuple (List.map (eP eZ eZ) p_row)), .val (.int p_colour), .no, .no], w⟩) rfl
    (bl_ret (f := (eL eZ)) (ev_lcp (f := eZ) (fun (a1 : (Int × (Int × Int))) => (decide (a1.2.1 = p_colour))) (fun (a1 : (Int × (Int × Int))) => a1.1) (fun (_ : (Int × (Int × Int))) => True) (fun (_ : (Int × (Int × Int))) => True) (it_enT (f := (eP eZ eZ)) (ev_var rfl)) rfl h (fun _ _ => ⟨trivial, fun _ => trivial⟩) (fun (a1 : (Int × (Int × Int))) h2 => ⟨[.val (.tuple (List.map (eP eZ eZ) p_row)), .val (.int p_colour), .val (.int a1.1), .val (.tuple [.int a1.2.1, .int a1.2.2])], rfl, rfl, (ev_eq cZ (by decide) (e2_ev rfl (ev_fst (e2_ve rfl rfl ev_cst rfl)) rfl)), fun h3 => (ev_var rfl)⟩)) rfl))
def s_choices_of_l1 (p_row : (List (Int × Int))) (st3 : ((List (List Int)))) (a2 : Int) : ((List (List Int))) := (leT (List.flatMap (fun (a6 : (List Int)) => List.map (fun (b7 : Int) => (a6 ++ ([b7] : (List Int)))) (List.filter (fun (b7 : Int) => true) (s_numbers_of p_row a2))) (List.filter (fun (a6 : (List Int)) => true) st3)) fun (found_8 : (List (List Int))) => (found_8))
def k_choices_of_l1 (p_row : (List (Int × Int))) (st3 : ((List (List Int)))) (a2 : Int) : Prop := ((st3.length ≤ line) ∧ ((List.flatMap (fun (a6 : (List Int)) => List.map (fun (b7 : Int) => (a6 ++ ([b7] : (List Int)))) (List.filter (fun (b7 : Int) => true) (s_numbers_of p_row a2))) (List.filter (fun (a6 : (List Int)) => true) st3)).length ≤ line) ∧ (∀ a6 ∈ st3, (True) ∧ (true = true → ((k_numbers_of p_row a2)) ∧ (s_numbers_of p_row a2).length ≤ line ∧ ∀ b7 ∈ (s_numbers_of p_row a2), (True) ∧ (true = true → ((a6.length + ([b7] : (List Int)).length ≤ line))))))
def s_choices_of (p_row : (List (Int × Int))) (p_colours : (List Int)) : (List (List Int)) := (leT ([([] : (List Int))] : (List (List Int))) fun (found_1 : (List (List Int))) => (leT (List.foldl (s_choices_of_l1 p_row) ((found_1) : ((List (List Int)))) p_colours) fun (st3 : ((List (List Int)))) => (sortZ (eT eZ) (List.map (fun (a9 : (List Int)) => (sortZ eZ a9)) st3))))
def k_choices_of (p_row : (List (Int × Int))) (p_colours : (List Int)) : Prop := (leT ([([] : (List Int))] : (List (List Int))) fun (found_1 : (List (List Int))) => (forOk (s_choices_of_l1 p_row) (k_choices_of_l1 p_row) ((found_1) : ((List (List Int)))) p_colours) ∧ (leT (List.foldl (s_choices_of_l1 p_row) ((found_1) : ((List (List Int)))) p_colours) fun (st3 : ((List (List Int)))) => ((st3.length ≤ line)) ∧ (sortOk (List.map (eT eZ) (List.map (fun (a9 : (List Int)) => (sortZ eZ a9)) st3)) = true)))
theorem t_choices_of (k : Nat) (p_row : (List (Int × Int))) (p_colours : (List Int)) (w : DW) (h : k_choices_of p_row p_colours) : Φ (k + 2) (Str.ofString "choices_of") [(.tuple (List.map (eP eZ eZ) p_row)), (.tuple (List.map eZ p_colours))] w = some (.list (List.map (eT eZ) (s_choices_of p_row p_colours)), w) :=
  (C_choices_of (k + 1) _ w).trans (run_R (f := (eL (eT eZ))) rfl (s0 := ⟨[.val (.tuple (List.map (eP eZ eZ) p_row)), .val (.tuple (List.map eZ p_colours)), .no, .no, .no, .no], w⟩) rfl
    (bl_asg (f := (eL (eT eZ))) (x := ([([] : (List Int))] : (List (List Int)))) (ok := (fun (found_1 : (List (List Int))) => (forOk (s_choices_of_l1 p_row) (k_choices_of_l1 p_row) ((found_1) : ((List (List Int)))) p_colours) ∧ (leT (List.foldl (s_choices_of_l1 p_row) ((found_1) : ((List (List Int)))) p_colours) fun (st3 : ((List (List Int)))) => ((st3.length ≤ line)) ∧ (sortOk (List.map (eT eZ) (List.map (fun (a9 : (List Int)) => (sortZ eZ a9)) st3)) = true)))) (fun found_1 => ⟨[.val (.tuple (List.map (eP eZ eZ) p_row)), .val (.tuple (List.map eZ p_colours)), .val (.list (List.map (eT eZ) found_1)), .no, .no, .no], w⟩) (show Ev _ _ _ (.list (List.map (eT eZ) ([([] : (List Int))] : (List (List Int))))) _ from ev_lst (evs_cons (show Ev _ _ _ (.tuple (List.map eZ ([] : (List Int)))) _ from ev_tup evs_nil (by simp only [List.length_cons, List.length_nil, List.length_map]; decide)) evs_nil) (by simp only [List.length_cons, List.length_nil, List.length_map]; decide)) h (fun _ => rfl) (fun found_1 h10 => (bl_fors (F := eZ) (xs := p_colours) (st0 := ((found_1) : ((List (List Int))))) (step := (s_choices_of_l1 p_row)) (okb := (k_choices_of_l1 p_row)) (ok := (fun (st3 : ((List (List Int)))) => ((st3.length ≤ line)) ∧ (sortOk (List.map (eT eZ) (List.map (fun (a9 : (List Int)) => (sortZ eZ a9)) st3)) = true))) (fun (j4 : (Ent)) => noO j4 = true) (fun (st3 : ((List (List Int)))) (j4 : (Ent)) => (⟨[.val (.tuple (List.map (eP eZ eZ) p_row)), .val (.tuple (List.map eZ p_colours)), .val (.list (List.map (eT eZ) st3)), j4, .no, .no], w⟩ : S1)) (.no) rfl rfl (it_sqT (f := eZ) (xs := p_colours) (ev_var rfl)) h10.1 h10.2 (fun (st3 : ((List (List Int)))) (j4 : (Ent)) (a2 : Int) h11 n5 => ⟨[.val (.tuple (List.map (eP eZ eZ) p_row)), .val (.tuple (List.map eZ p_colours)), .val (.list (List.map (eT eZ) st3)), .val (.int a2), .no, .no], rfl, (bl_asg (f := (eL (eT eZ))) (x := (List.flatMap (fun (a6 : (List Int)) => List.map (fun (b7 : Int) => (a6 ++ ([b7] : (List Int)))) (List.filter (fun (b7 : Int) => true) (s_numbers_of p_row a2))) (List.filter (fun (a6 : (List Int)) => true) st3))) (ok := (fun (_ : (List (List Int))) => True)) (fun found_8 => ⟨[.val (.tuple (List.map (eP eZ eZ) p_row)), .val (.tuple (List.map eZ p_colours)), .val (.list (List.map (eT eZ) found_8)), .val (.int a2), .no, .no], w⟩) (ev_lc2 (f := (eT eZ)) (M := fun (a6 : (List Int)) => (s_numbers_of p_row a2)) (fun (a6 : (List Int)) => true) (fun (a6 : (List Int)) (b7 : Int) => true) (fun (a6 : (List Int)) (b7 : Int) => (a6 ++ ([b7] : (List Int)))) (fun (a6 : (List Int)) => True) (fun (a6 : (List Int)) => (k_numbers_of p_row a2)) (fun (a6 : (List Int)) (b7 : Int) => True) (fun (a6 : (List Int)) (b7 : Int) => (a6.length + ([b7] : (List Int)).length ≤ line)) (it_sqL (f := (eT eZ)) (xs := st3) (ev_var rfl)) rfl h11.1 (by decide) h11.2.1 h11.2.2 (fun (a6 : (List Int)) h14 => ⟨[.val (.tuple (List.map (eP eZ eZ) p_row)), .val (.tuple (List.map eZ p_colours)), .val (.list (List.map (eT eZ) st3)), .val (.int a2), .val (.tuple (List.map eZ a6)), .no], rfl, rfl, ev_cst, fun h15 => ⟨(it_sqL (f := eZ) (xs := (s_numbers_of p_row a2)) (ev_call (evs_cons (ev_var rfl) (evs_cons (ev_var rfl) evs_nil)) (t_numbers_of (k + 0) (p_row) (a2) _ h15))), rfl, fun (b7 : Int) h16 => ⟨[.val (.tuple (List.map (eP eZ eZ) p_row)), .val (.tuple (List.map eZ p_colours)), .val (.list (List.map (eT eZ) st3)), .val (.int a2), .val (.tuple (List.map eZ a6)), .val (.int b7)], rfl, rfl, ev_cst, fun h17 => (ev_addT (x := a6) (y := ([b7] : (List Int))) (f := eZ) (e2_ve rfl rfl (show Ev _ _ _ (.tuple (List.map eZ ([b7] : (List Int)))) _ from ev_tup (evs_cons (ev_var rfl) evs_nil) (by simp only [List.length_cons, List.length_nil, List.length_map]; decide)) rfl) h17)⟩⟩⟩)) trivial (fun _ => rfl) (fun found_8 h13 => (bl_nilL ⟨(.val (.int a2)), rfl, rfl⟩)))⟩) (fun st3 j4 h12 n5 => (bl_ret (f := (eL (eT eZ))) (ev_sortL (f := (eT eZ)) (pk_e rfl (ev_lcq (f := (eT eZ)) (fun (a9 : (List Int)) => (sortZ eZ a9)) (fun (_ : (List Int)) => True) (it_sqL (f := (eT eZ)) (xs := st3) (ev_var rfl)) rfl h12.1 (fun _ _ => trivial) (fun (a9 : (List Int)) h18 => ⟨[.val (.tuple (List.map (eP eZ eZ) p_row)), .val (.tuple (List.map eZ p_colours)), .val (.list (List.map (eT eZ) st3)), j4, .val (.tuple (List.map eZ a9)), .no], rfl, rfl, (ev_tupL (f := eZ) (pk_e rfl (ev_sortT (f := eZ) (pk_v rfl) (sortOk_int _))))⟩))) h12.2) rfl))))))
def s_sign_at (p_fixed : (List Int)) (p_choice : (List Int)) (p_number : Int) : Int := (leT ((List.map (fun (a1 : Int) => a1) (List.filter (fun (a1 : Int) => (decide (a1 ≤ p_number))) p_fixed)) ++ (List.map (fun (a2 : Int) => a2) (List.filter (fun (a2 : Int) => (decide (a2 < p_number))) p_choice))) fun (ahead_3 : (List Int)) => (cond (decide (((ahead_3.length : Int) % (2 : Int)) = (0 : Int))) (1 : Int) (-(1 : Int))))
def k_sign_at (p_fixed : (List Int)) (p_choice : (List Int)) (p_number : Int) : Prop := ((((p_fixed.length ≤ line)) ∧ ((p_choice.length ≤ line))) ∧ ((List.map (fun (a1 : Int) => a1) (List.filter (fun (a1 : Int) => (decide (a1 ≤ p_number))) p_fixed)).length + (List.map (fun (a2 : Int) => a2) (List.filter (fun (a2 : Int) => (decide (a2 < p_number))) p_choice)).length ≤ line))
theorem t_sign_at (k : Nat) (p_fixed : (List Int)) (p_choice : (List Int)) (p_number : Int) (w : DW) (h : k_sign_at p_fixed p_choice p_number) : Φ (k + 1) (Str.ofString "sign_at") [(.tuple (List.map eZ p_fixed)), (.tuple (List.map eZ p_choice)), (.int p_number)] w = some (.int (s_sign_at p_fixed p_choice p_number), w) :=
  (C_sign_at (k + 0) _ w).trans (run_R (f := eZ) rfl (s0 := ⟨[.val (.tuple (List.map eZ p_fixed)), .val (.tuple (List.map eZ p_choice)), .val (.int p_number), .no, .no], w⟩) rfl
    (bl_asg (f := (eL eZ)) (x := ((List.map (fun (a1 : Int) => a1) (List.filter (fun (a1 : Int) => (decide (a1 ≤ p_number))) p_fixed)) ++ (List.map (fun (a2 : Int) => a2) (List.filter (fun (a2 : Int) => (decide (a2 < p_number))) p_choice)))) (ok := (fun (_ : (List Int)) => True)) (fun ahead_3 => ⟨[.val (.tuple (List.map eZ p_fixed)), .val (.tuple (List.map eZ p_choice)), .val (.int p_number), .val (.list (List.map eZ ahead_3)), .no], w⟩) (ev_addL (x := (List.map (fun (a1 : Int) => a1) (List.filter (fun (a1 : Int) => (decide (a1 ≤ p_number))) p_fixed))) (y := (List.map (fun (a2 : Int) => a2) (List.filter (fun (a2 : Int) => (decide (a2 < p_number))) p_choice))) (f := eZ) (e2_ee rfl rfl (ev_lcp (f := eZ) (fun (a1 : Int) => (decide (a1 ≤ p_number))) (fun (a1 : Int) => a1) (fun (_ : Int) => True) (fun (_ : Int) => True) (it_sqT (f := eZ) (xs := p_fixed) (ev_var rfl)) rfl h.1.1 (fun _ _ => ⟨trivial, fun _ => trivial⟩) (fun (a1 : Int) h5 => ⟨[.val (.tuple (List.map eZ p_fixed)), .val (.tuple (List.map eZ p_choice)), .val (.int p_number), .no, .val (.int a1)], rfl, rfl, (ev_le (e2_vv rfl rfl)), fun h6 => (ev_var rfl)⟩)) (ev_lcp (f := eZ) (fun (a2 : Int) => (decide (a2 < p_number))) (fun (a2 : Int) => a2) (fun (_ : Int) => True) (fun (_ : Int) => True) (it_sqT (f := eZ) (xs := p_choice) (ev_var rfl)) rfl h.1.2 (fun _ _ => ⟨trivial, fun _ => trivial⟩) (fun (a2 : Int) h7 => ⟨[.val (.tuple (List.map eZ p_fixed)), .val (.tuple (List.map eZ p_choice)), .val (.int p_number), .no, .val (.int a2)], rfl, rfl, (ev_lt (e2_vv rfl rfl)), fun h8 => (ev_var rfl)⟩))) h.2) trivial (fun _ => rfl) (fun ahead_3 h4 => (bl_ret (f := eZ) (ev_ife (f := eZ) (ev_eq cZ (by decide) (e2_ee rfl rfl (ev_modI (e2_ee rfl rfl (ev_lenL (f := eZ) (pk_v rfl)) ev_cst) (by decide)) ev_cst)) (fun h9 => ev_cst) (fun h9 => (ev_neg ev_cst))) rfl))))
def s_rest_of_l1 (p_lengths : (List Int)) (p_fixed : (List Int)) (p_choice : (List Int)) (p_chosen : Int) (st4 : (Int)) (a3 : Int) : (Int) := (cond (!decide (a3 = p_chosen)) (leT (st4 + ((s_sign_at p_fixed p_choice a3) * (atZ p_lengths a3))) fun (found_7 : Int) => (found_7)) (st4))
def k_rest_of_l1 (p_lengths : (List Int)) (p_fixed : (List Int)) (p_choice : (List Int)) (p_chosen : Int) (st4 : (Int)) (a3 : Int) : Prop := ((!decide (a3 = p_chosen)) = true → ((((((k_sign_at p_fixed p_choice a3)) ∧ ((atOk p_lengths a3))) ∧ (mulOk (s_sign_at p_fixed p_choice a3) (atZ p_lengths a3))))))
def s_rest_of (p_row : (List (Int × Int))) (p_lengths : (List Int)) (p_fixed : (List Int)) (p_choice : (List Int)) (p_chosen : Int) : Int := (leT (atZ p_row p_chosen).1 fun (colour_1 : Int) => (leT (0 : Int) fun (found_2 : Int) => (leT (List.foldl (s_rest_of_l1 p_lengths p_fixed p_choice p_chosen) ((found_2) : (Int)) (s_numbers_of p_row colour_1)) fun (st4 : (Int)) => st4)))
def k_rest_of (p_row : (List (Int × Int))) (p_lengths : (List Int)) (p_fixed : (List Int)) (p_choice : (List Int)) (p_chosen : Int) : Prop := (((atOk p_row p_chosen))) ∧ ((leT (atZ p_row p_chosen).1 fun (colour_1 : Int) => (leT (0 : Int) fun (found_2 : Int) => ((k_numbers_of p_row colour_1)) ∧ (forOk (s_rest_of_l1 p_lengths p_fixed p_choice p_chosen) (k_rest_of_l1 p_lengths p_fixed p_choice p_chosen) ((found_2) : (Int)) (s_numbers_of p_row colour_1)))))
theorem t_rest_of (k : Nat) (p_row : (List (Int × Int))) (p_lengths : (List Int)) (p_fixed : (List Int)) (p_choice : (List Int)) (p_chosen : Int) (w : DW) (h : k_rest_of p_row p_lengths p_fixed p_choice p_chosen) : Φ (k + 2) (Str.ofString "rest_of") [(.tuple (List.map (eP eZ eZ) p_row)), (.tuple (List.map eZ p_lengths)), (.tuple (List.map eZ p_fixed)), (.tuple (List.map eZ p_choice)), (.int p_chosen)] w = some (.int (s_rest_of p_row p_lengths p_fixed p_choice p_chosen), w) :=
  (C_rest_of (k + 1) _ w).trans (run_R (f := eZ) rfl (s0 := ⟨[.val (.tuple (List.map (eP eZ eZ) p_row)), .val (.tuple (List.map eZ p_lengths)), .val (.tuple (List.map eZ p_fixed)), .val (.tuple (List.map eZ p_choice)), .val (.int p_chosen), .no, .no, .no], w⟩) rfl
    (bl_par2 (f := eZ) (x := (atZ p_row p_chosen).1) (f' := eZ) (x' := (0 : Int)) (ok := (fun (colour_1 : Int) (found_2 : Int) => ((k_numbers_of p_row colour_1)) ∧ (forOk (s_rest_of_l1 p_lengths p_fixed p_choice p_chosen) (k_rest_of_l1 p_lengths p_fixed p_choice p_chosen) ((found_2) : (Int)) (s_numbers_of p_row colour_1)))) (fun (colour_1 : Int) (found_2 : Int) => [.val (.tuple (List.map (eP eZ eZ) p_row)), .val (.tuple (List.map eZ p_lengths)), .val (.tuple (List.map eZ p_fixed)), .val (.tuple (List.map eZ p_choice)), .val (.int p_chosen), .val (.int colour_1), .val (.int found_2), .no]) (evs_cons (ev_fst (e2_ee rfl rfl (ev_idxT (f := (eP eZ eZ)) (e2_vv rfl rfl) h.1) ev_cst)) (evs_cons ev_cst evs_nil)) h.2 (fun _ _ => rfl) (fun (colour_1 : Int) (found_2 : Int) h8 => (bl_fors (F := eZ) (xs := (s_numbers_of p_row colour_1)) (st0 := ((found_2) : (Int))) (step := (s_rest_of_l1 p_lengths p_fixed p_choice p_chosen)) (okb := (k_rest_of_l1 p_lengths p_fixed p_choice p_chosen)) (ok := (fun (_ : (Int)) => True)) (fun (j5 : (Ent)) => noO j5 = true) (fun (st4 : (Int)) (j5 : (Ent)) => (⟨[.val (.tuple (List.map (eP eZ eZ) p_row)), .val (.tuple (List.map eZ p_lengths)), .val (.tuple (List.map eZ p_fixed)), .val (.tuple (List.map eZ p_choice)), .val (.int p_chosen), .val (.int colour_1), .val (.int st4), j5], w⟩ : S1)) (.no) rfl rfl (it_sqL (f := eZ) (xs := (s_numbers_of p_row colour_1)) (ev_call (evs_cons (ev_var rfl) (evs_cons (ev_var rfl) evs_nil)) (t_numbers_of (k + 0) (p_row) (colour_1) _ h8.1))) h8.2 trivial (fun (st4 : (Int)) (j5 : (Ent)) (a3 : Int) h9 n6 => ⟨[.val (.tuple (List.map (eP eZ eZ) p_row)), .val (.tuple (List.map eZ p_lengths)), .val (.tuple (List.map eZ p_fixed)), .val (.tuple (List.map eZ p_choice)), .val (.int p_chosen), .val (.int colour_1), .val (.int st4), .val (.int a3)], rfl, (bl_ifs (ev_ne cZ (by decide) (e2_vv rfl rfl)) (fun h11 => (bl_asg (f := eZ) (x := (st4 + ((s_sign_at p_fixed p_choice a3) * (atZ p_lengths a3)))) (ok := (fun (_ : Int) => True)) (fun found_7 => ⟨[.val (.tuple (List.map (eP eZ eZ) p_row)), .val (.tuple (List.map eZ p_lengths)), .val (.tuple (List.map eZ p_fixed)), .val (.tuple (List.map eZ p_choice)), .val (.int p_chosen), .val (.int colour_1), .val (.int found_7), .val (.int a3)], w⟩) (ev_addI (e2_ve rfl rfl (ev_mulI (e2_ee rfl rfl (ev_call (evs_cons (ev_var rfl) (evs_cons (ev_var rfl) (evs_cons (ev_var rfl) evs_nil))) (t_sign_at (k + 0) (p_fixed) (p_choice) (a3) _ (h9 h11).1.1)) (ev_idxT (f := eZ) (e2_vv rfl rfl) (h9 h11).1.2)) (h9 h11).2) rfl)) trivial (fun _ => rfl) (fun found_7 h12 => (bl_nilL ⟨(.val (.int a3)), rfl, rfl⟩)))) (fun h11 => (bl_nilL ⟨(.val (.int a3)), rfl, rfl⟩)))⟩) (fun st4 j5 h10 n6 => (bl_ret (f := eZ) (ev_var rfl) rfl))))))
def s_is_right_choice (p_row : (List (Int × Int))) (p_lengths : (List Int)) (p_fixed : (List Int)) (p_choice : (List Int)) : Bool := (List.all (List.map (fun (a1 : Int) => (decide ((absZ (s_rest_of p_row p_lengths p_fixed p_choice a1)) < (atZ p_lengths a1)))) p_choice) id)
def k_is_right_choice (p_row : (List (Int × Int))) (p_lengths : (List Int)) (p_fixed : (List Int)) (p_choice : (List Int)) : Prop := (p_choice.length ≤ line) ∧ (∀ a1 ∈ p_choice, ((k_rest_of p_row p_lengths p_fixed p_choice a1)) ∧ ((atOk p_lengths a1)))
theorem t_is_right_choice (k : Nat) (p_row : (List (Int × Int))) (p_lengths : (List Int)) (p_fixed : (List Int)) (p_choice : (List Int)) (w : DW) (h : k_is_right_choice p_row p_lengths p_fixed p_choice) : Φ (k + 3) (Str.ofString "is_right_choice") [(.tuple (List.map (eP eZ eZ) p_row)), (.tuple (List.map eZ p_lengths)), (.tuple (List.map eZ p_fixed)), (.tuple (List.map eZ p_choice))] w = some (.bool (s_is_right_choice p_row p_lengths p_fixed p_choice), w) :=
  (C_is_right_choice (k + 2) _ w).trans (run_R (f := eB) rfl (s0 := ⟨[.val (.tuple (List.map (eP eZ eZ) p_row)), .val (.tuple (List.map eZ p_lengths)), .val (.tuple (List.map eZ p_fixed)), .val (.tuple (List.map eZ p_choice)), .no], w⟩) rfl
    (bl_ret (f := eB) (ev_allL (pk_e rfl (ev_lcq (f := eB) (fun (a1 : Int) => (decide ((absZ (s_rest_of p_row p_lengths p_fixed p_choice a1)) < (atZ p_lengths a1)))) (fun (a1 : Int) => ((k_rest_of p_row p_lengths p_fixed p_choice a1)) ∧ ((atOk p_lengths a1))) (it_sqT (f := eZ) (xs := p_choice) (ev_var rfl)) rfl h.1 h.2 (fun (a1 : Int) h2 => ⟨[.val (.tuple (List.map (eP eZ eZ) p_row)), .val (.tuple (List.map eZ p_lengths)), .val (.tuple (List.map eZ p_fixed)), .val (.tuple (List.map eZ p_choice)), .val (.int a1)], rfl, rfl, (ev_lt (e2_ee rfl rfl (ev_absI (pk_e rfl (ev_call (evs_cons (ev_var rfl) (evs_cons (ev_var rfl) (evs_cons (ev_var rfl) (evs_cons (ev_var rfl) (evs_cons (ev_var rfl) evs_nil))))) (t_rest_of (k + 0) (p_row) (p_lengths) (p_fixed) (p_choice) (a1) _ h2.1)))) (ev_idxT (f := eZ) (e2_vv rfl rfl) h2.2)))⟩)))) rfl))
def s_transversals_in (p_row : (List (Int × Int))) (p_colours : (List Int)) (p_fixed : (List Int)) : (List (List Int)) := (leT (s_lengths_leaned p_row) fun (lengths_1 : (List Int)) => (List.map (fun (a2 : (List Int)) => a2) (List.filter (fun (a2 : (List Int)) => (s_is_right_choice p_row lengths_1 p_fixed a2)) (s_choices_of p_row p_colours))))
def k_transversals_in (p_row : (List (Int × Int))) (p_colours : (List Int)) (p_fixed : (List Int)) : Prop := ((k_lengths_leaned p_row)) ∧ (leT (s_lengths_leaned p_row) fun (lengths_1 : (List Int)) => ((k_choices_of p_row p_colours)) ∧ ((s_choices_of p_row p_colours).length ≤ line) ∧ (∀ a2 ∈ (s_choices_of p_row p_colours), (k_is_right_choice p_row lengths_1 p_fixed a2)))
theorem t_transversals_in (k : Nat) (p_row : (List (Int × Int))) (p_colours : (List Int)) (p_fixed : (List Int)) (w : DW) (h : k_transversals_in p_row p_colours p_fixed) : Φ (k + 4) (Str.ofString "transversals_in") [(.tuple (List.map (eP eZ eZ) p_row)), (.tuple (List.map eZ p_colours)), (.tuple (List.map eZ p_fixed))] w = some (.tuple (List.map (eT eZ) (s_transversals_in p_row p_colours p_fixed)), w) :=
  (C_transversals_in (k + 3) _ w).trans (run_R (f := (eT (eT eZ))) rfl (s0 := ⟨[.val (.tuple (List.map (eP eZ eZ) p_row)), .val (.tuple (List.map eZ p_colours)), .val (.tuple (List.map eZ p_fixed)), .no, .no], w⟩) rfl
    (bl_asg (f := (eT eZ)) (x := (s_lengths_leaned p_row)) (ok := (fun (lengths_1 : (List Int)) => ((k_choices_of p_row p_colours)) ∧ ((s_choices_of p_row p_colours).length ≤ line) ∧ (∀ a2 ∈ (s_choices_of p_row p_colours), (k_is_right_choice p_row lengths_1 p_fixed a2)))) (fun lengths_1 => ⟨[.val (.tuple (List.map (eP eZ eZ) p_row)), .val (.tuple (List.map eZ p_colours)), .val (.tuple (List.map eZ p_fixed)), .val (.tuple (List.map eZ lengths_1)), .no], w⟩) (ev_call (evs_cons (ev_var rfl) evs_nil) (t_lengths_leaned (k + 2) (p_row) _ h.1)) h.2 (fun _ => rfl) (fun lengths_1 h3 => (bl_ret (f := (eT (eT eZ))) (ev_tupL (f := (eT eZ)) (pk_e rfl (ev_lcp (f := (eT eZ)) (fun (a2 : (List Int)) => (s_is_right_choice p_row lengths_1 p_fixed a2)) (fun (a2 : (List Int)) => a2) (fun (a2 : (List Int)) => (k_is_right_choice p_row lengths_1 p_fixed a2)) (fun (_ : (List Int)) => True) (it_sqL (f := (eT eZ)) (xs := (s_choices_of p_row p_colours)) (ev_call (evs_cons (ev_var rfl) (evs_cons (ev_var rfl) evs_nil)) (t_choices_of (k + 1) (p_row) (p_colours) _ h3.1))) rfl h3.2.1 (fun b hb => ⟨h3.2.2 b hb, fun _ => trivial⟩) (fun (a2 : (List Int)) h4 => ⟨[.val (.tuple (List.map (eP eZ eZ) p_row)), .val (.tuple (List.map eZ p_colours)), .val (.tuple (List.map eZ p_fixed)), .val (.tuple (List.map eZ lengths_1)), .val (.tuple (List.map eZ a2))], rfl, rfl, (ev_call (evs_cons (ev_var rfl) (evs_cons (ev_var rfl) (evs_cons (ev_var rfl) (evs_cons (ev_var rfl) evs_nil)))) (t_is_right_choice (k + 0) (p_row) (lengths_1) (p_fixed) (a2) _ h4)), fun h5 => (ev_var rfl)⟩)))) rfl))))
def s_transversals (p_row : (List (Int × Int))) (p_colours : (List Int)) (p_fixed : (List Int)) : (List (List Int)) := (s_transversals_in p_row p_colours p_fixed)
def k_transversals (p_row : (List (Int × Int))) (p_colours : (List Int)) (p_fixed : (List Int)) : Prop := ((k_need_setting p_row p_colours p_fixed)) ∧ ((k_transversals_in p_row p_colours p_fixed))
theorem t_transversals (k : Nat) (p_row : (List (Int × Int))) (p_colours : (List Int)) (p_fixed : (List Int)) (w : DW) (h : k_transversals p_row p_colours p_fixed) : Φ (k + 6) (Str.ofString "transversals") [(.tuple (List.map (eP eZ eZ) p_row)), (.tuple (List.map eZ p_colours)), (.tuple (List.map eZ p_fixed))] w = some (.tuple (List.map (eT eZ) (s_transversals p_row p_colours p_fixed)), w) :=
  (C_transversals (k + 5) _ w).trans (run_R (f := (eT (eT eZ))) rfl (s0 := ⟨[.val (.tuple (List.map (eP eZ eZ) p_row)), .val (.tuple (List.map eZ p_colours)), .val (.tuple (List.map eZ p_fixed))], w⟩) rfl
    (bl_ex (ev_call (evs_cons (ev_var rfl) (evs_cons (ev_var rfl) (evs_cons (ev_var rfl) evs_nil))) (t_need_setting (k + 0) (p_row) (p_colours) (p_fixed) _ h.1)) (bl_ret (f := (eT (eT eZ))) (ev_call (evs_cons (ev_var rfl) (evs_cons (ev_var rfl) (evs_cons (ev_var rfl) evs_nil))) (t_transversals_in (k + 1) (p_row) (p_colours) (p_fixed) _ h.2)) rfl)))
def s_law_blocks_l2 (p_row : (List (Int × Int))) (p_colours : (List Int)) (a2 : Int) (st7 : ((List (List Int)))) (a6 : Int) : ((List (List Int))) := (cond (decide ((List.map (fun (a10 : Int) => (1 : Int)) (List.filter (fun (a10 : Int) => (decide ((atZ p_row a10).1 ∈ p_colours))) (rangeZ a2 a6))) = ([] : (List Int)))) (leT (st7 ++ [([a2, a6] : (List Int))]) fun (found_11 : (List (List Int))) => (found_11)) (st7))
def k_law_blocks_l2 (p_row : (List (Int × Int))) (p_colours : (List Int)) (a2 : Int) (st7 : ((List (List Int)))) (a6 : Int) : Prop := ((((rngOk a2 = true ∧ rngOk a6 = true)) ∧ ((rangeZ a2 a6).length ≤ line) ∧ (∀ a10 ∈ (rangeZ a2 a6), (((atOk p_row a10)))))) ∧ ((decide ((List.map (fun (a10 : Int) => (1 : Int)) (List.filter (fun (a10 : Int) => (decide ((atZ p_row a10).1 ∈ p_colours))) (rangeZ a2 a6))) = ([] : (List Int)))) = true → ((st7.length < line)))
def s_law_blocks_l1 (p_row : (List (Int × Int))) (p_colours : (List Int)) (st3 : ((List (List Int)))) (a2 : Int) : ((List (List Int))) := (leT (List.foldl (s_law_blocks_l2 p_row p_colours a2) ((st3) : ((List (List Int)))) (rangeZ (a2 + (1 : Int)) ((p_row.length : Int) + (1 : Int)))) fun (st7 : ((List (List Int)))) => (st7))
def k_law_blocks_l1 (p_row : (List (Int × Int))) (p_colours : (List Int)) (st3 : ((List (List Int)))) (a2 : Int) : Prop := ((rngOk (a2 + (1 : Int)) = true ∧ rngOk ((p_row.length : Int) + (1 : Int)) = true)) ∧ (forOk (s_law_blocks_l2 p_row p_colours a2) (k_law_blocks_l2 p_row p_colours a2) ((st3) : ((List (List Int)))) (rangeZ (a2 + (1 : Int)) ((p_row.length : Int) + (1 : Int))))
def s_law_blocks (p_row : (List (Int × Int))) (p_colours : (List Int)) : (List (List Int)) := (leT ([] : (List (List Int))) fun (found_1 : (List (List Int))) => (leT (List.foldl (s_law_blocks_l1 p_row p_colours) ((found_1) : ((List (List Int)))) (rangeZ 0 (p_row.length : Int))) fun (st3 : ((List (List Int)))) => st3))
def k_law_blocks (p_row : (List (Int × Int))) (p_colours : (List Int)) : Prop := (leT ([] : (List (List Int))) fun (found_1 : (List (List Int))) => ((rngOk (p_row.length : Int) = true)) ∧ (forOk (s_law_blocks_l1 p_row p_colours) (k_law_blocks_l1 p_row p_colours) ((found_1) : ((List (List Int)))) (rangeZ 0 (p_row.length : Int))))
theorem t_law_blocks (k : Nat) (p_row : (List (Int × Int))) (p_colours : (List Int)) (w : DW) (h : k_law_blocks p_row p_colours) : Φ (k + 1) (Str.ofString "_law_blocks") [(.tuple (List.map (eP eZ eZ) p_row)), (.tuple (List.map eZ p_colours))] w = some (.list (List.map (eT eZ) (s_law_blocks p_row p_colours)), w) :=
  (C_law_blocks (k + 0) _ w).trans (run_R (f := (eL (eT eZ))) rfl (s0 := ⟨[.val (.tuple (List.map (eP eZ eZ) p_row)), .val (.tuple (List.map eZ p_colours)), .no, .no, .no, .no], w⟩) rfl
    (bl_asgO (f := (eL (eT eZ))) (x := ([] : (List (List Int)))) (ok := (fun (found_1 : (List (List Int))) => ((rngOk (p_row.length : Int) = true)) ∧ (forOk (s_law_blocks_l1 p_row p_colours) (k_law_blocks_l1 p_row p_colours) ((found_1) : ((List (List Int)))) (rangeZ 0 (p_row.length : Int))))) (fun found_1 => ⟨[.val (.tuple (List.map (eP eZ eZ) p_row)), .val (.tuple (List.map eZ p_colours)), .own (.list (List.map (eT eZ) found_1)), .no, .no, .no], w⟩) (show Ev _ _ _ (.list (List.map (eT eZ) ([] : (List (List Int))))) _ from ev_lst evs_nil (by simp only [List.length_cons, List.length_nil, List.length_map]; decide)) h (fun _ => rfl) (fun found_1 h12 => (bl_fors (F := eZ) (xs := (rangeZ 0 (p_row.length : Int))) (st0 := ((found_1) : ((List (List Int))))) (step := (s_law_blocks_l1 p_row p_colours)) (okb := (k_law_blocks_l1 p_row p_colours)) (ok := (fun (_ : ((List (List Int)))) => True)) (fun (j4 : (Ent × Ent)) => noO j4.1 = true ∧ noO j4.2 = true) (fun (st3 : ((List (List Int)))) (j4 : (Ent × Ent)) => (⟨[.val (.tuple (List.map (eP eZ eZ) p_row)), .val (.tuple (List.map eZ p_colours)), .own (.list (List.map (eT eZ) st3)), j4.1, j4.2, .no], w⟩ : S1)) (.no, .no) ⟨rfl, rfl⟩ rfl (it_rg1 (ev_lenT (f := (eP eZ eZ)) (pk_v rfl)) h12.1) h12.2 trivial (fun (st3 : ((List (List Int)))) (j4 : (Ent × Ent)) (a2 : Int) h13 n5 => ⟨[.val (.tuple (List.map (eP eZ eZ) p_row)), .val (.tuple (List.map eZ p_colours)), .own (.list (List.map (eT eZ) st3)), .val (.int a2), j4.2, .no], rfl, (bl_fors (F := eZ) (xs := (rangeZ (a2 + (1 : Int)) ((p_row.length : Int) + (1 : Int)))) (st0 := ((st3) : ((List (List Int))))) (step := (s_law_blocks_l2 p_row p_colours a2)) (okb := (k_law_blocks_l2 p_row p_colours a2)) (ok := (fun (_ : ((List (List Int)))) => True)) (fun (j8 : (Ent)) => noO j8 = true) (fun (st7 : ((List (List Int)))) (j8 : (Ent)) => (⟨[.val (.tuple (List.map (eP eZ eZ) p_row)), .val (.tuple (List.map eZ p_colours)), .own (.list (List.map (eT eZ) st7)), .val (.int a2), j8, .no], w⟩ : S1)) (j4.2) n5.2 rfl (it_rg2 (ev_addI (e2_ve rfl rfl ev_cst rfl)) (ev_addI (e2_ee rfl rfl (ev_lenT (f := (eP eZ eZ)) (pk_v rfl)) ev_cst)) h13.1) h13.2 trivial (fun (st7 : ((List (List Int)))) (j8 : (Ent)) (a6 : Int) h15 n9 => ⟨[.val (.tuple (List.map (eP eZ eZ) p_row)), .val (.tuple (List.map eZ p_colours)), .own (.list (List.map (eT eZ) st7)), .val (.int a2), .val (.int a6), .no], rfl, (bl_ifs (ev_eq (cL cZ) (by decide) (x := (List.map (fun (a10 : Int) => (1 : Int)) (List.filter (fun (a10 : Int) => (decide ((atZ p_row a10).1 ∈ p_colours))) (rangeZ a2 a6)))) (y := ([] : (List Int))) (e2_ee rfl rfl (ev_lcp (f := eZ) (fun (a10 : Int) => (decide ((atZ p_row a10).1 ∈ p_colours))) (fun (a10 : Int) => (1 : Int)) (fun (a10 : Int) => (((atOk p_row a10)))) (fun (_ : Int) => True) (it_rg2 (ev_var rfl) (ev_var rfl) h15.1.1) rfl h15.1.2.1 (fun b hb => ⟨h15.1.2.2 b hb, fun _ => trivial⟩) (fun (a10 : Int) h18 => ⟨[.val (.tuple (List.map (eP eZ eZ) p_row)), .val (.tuple (List.map eZ p_colours)), .own (.list (List.map (eT eZ) st7)), .val (.int a2), .val (.int a6), .val (.int a10)], rfl, rfl, (ev_inT cZ (by decide) (x := (atZ p_row a10).1) (l := p_colours) (e2_ev rfl (ev_fst (e2_ee rfl rfl (ev_idxT (f := (eP eZ eZ)) (e2_vv rfl rfl) h18) ev_cst)) rfl)), fun h19 => ev_cst⟩)) (show Ev _ _ _ (.list (List.map eZ ([] : (List Int)))) _ from ev_lst evs_nil (by simp only [List.length_cons, List.length_nil, List.length_map]; decide)))) (fun h17 => (bl_app (f := (eT eZ)) (x := ([a2, a6] : (List Int))) (xs := st7) (ok := (fun (_ : (List (List Int))) => True)) (fun found_11 => ⟨[.val (.tuple (List.map (eP eZ eZ) p_row)), .val (.tuple (List.map eZ p_colours)), .own (.list (List.map (eT eZ) found_11)), .val (.int a2), .val (.int a6), .no], w⟩) rfl (show Ev _ _ _ (.tuple (List.map eZ ([a2, a6] : (List Int)))) _ from ev_tup (evs_cons (ev_var rfl) (evs_cons (ev_var rfl) evs_nil)) (by simp only [List.length_cons, List.length_nil, List.length_map]; decide)) rfl (h15.2 h17) trivial (fun _ => rfl) (fun found_11 h20 => (bl_nilL ⟨(.val (.int a6)), rfl, rfl⟩)))) (fun h17 => (bl_nilL ⟨(.val (.int a6)), rfl, rfl⟩)))⟩) (fun st7 j8 h16 n9 => (bl_nilL ⟨(.val (.int a2), j8), ⟨rfl, n9⟩, rfl⟩)))⟩) (fun st3 j4 h14 n5 => (bl_ret (f := (eL (eT eZ))) (ev_var rfl) rfl))))))
def s_law_other_way (p_fixed : (List Int)) (p_some : (List Int)) : (List Int) := (sortZ eZ ((List.map (fun (a1 : Int) => a1) (List.filter (fun (a1 : Int) => (!decide (a1 ∈ p_some))) p_fixed)) ++ (List.map (fun (a2 : Int) => a2) (List.filter (fun (a2 : Int) => (!decide (a2 ∈ p_fixed))) p_some))))
def k_law_other_way (p_fixed : (List Int)) (p_some : (List Int)) : Prop := (((p_fixed.length ≤ line)) ∧ ((p_some.length ≤ line))) ∧ ((List.map (fun (a1 : Int) => a1) (List.filter (fun (a1 : Int) => (!decide (a1 ∈ p_some))) p_fixed)).length + (List.map (fun (a2 : Int) => a2) (List.filter (fun (a2 : Int) => (!decide (a2 ∈ p_fixed))) p_some)).length ≤ line)
theorem t_law_other_way (k : Nat) (p_fixed : (List Int)) (p_some : (List Int)) (w : DW) (h : k_law_other_way p_fixed p_some) : Φ (k + 1) (Str.ofString "_law_other_way") [(.tuple (List.map eZ p_fixed)), (.tuple (List.map eZ p_some))] w = some (.tuple (List.map eZ (s_law_other_way p_fixed p_some)), w) :=
  (C_law_other_way (k + 0) _ w).trans (run_R (f := (eT eZ)) rfl (s0 := ⟨[.val (.tuple (List.map eZ p_fixed)), .val (.tuple (List.map eZ p_some)), .no], w⟩) rfl
    (bl_ret (f := (eT eZ)) (ev_tupL (f := eZ) (pk_e rfl (ev_sortL (f := eZ) (pk_e rfl (ev_addL (x := (List.map (fun (a1 : Int) => a1) (List.filter (fun (a1 : Int) => (!decide (a1 ∈ p_some))) p_fixed))) (y := (List.map (fun (a2 : Int) => a2) (List.filter (fun (a2 : Int) => (!decide (a2 ∈ p_fixed))) p_some))) (f := eZ) (e2_ee rfl rfl (ev_lcp (f := eZ) (fun (a1 : Int) => (!decide (a1 ∈ p_some))) (fun (a1 : Int) => a1) (fun (_ : Int) => True) (fun (_ : Int) => True) (it_sqT (f := eZ) (xs := p_fixed) (ev_var rfl)) rfl h.1.1 (fun _ _ => ⟨trivial, fun _ => trivial⟩) (fun (a1 : Int) h3 => ⟨[.val (.tuple (List.map eZ p_fixed)), .val (.tuple (List.map eZ p_some)), .val (.int a1)], rfl, rfl, (ev_ninT cZ (by decide) (x := a1) (l := p_some) (e2_vv rfl rfl)), fun h4 => (ev_var rfl)⟩)) (ev_lcp (f := eZ) (fun (a2 : Int) => (!decide (a2 ∈ p_fixed))) (fun (a2 : Int) => a2) (fun (_ : Int) => True) (fun (_ : Int) => True) (it_sqT (f := eZ) (xs := p_some) (ev_var rfl)) rfl h.1.2 (fun _ _ => ⟨trivial, fun _ => trivial⟩) (fun (a2 : Int) h5 => ⟨[.val (.tuple (List.map eZ p_fixed)), .val (.tuple (List.map eZ p_some)), .val (.int a2)], rfl, rfl, (ev_ninT cZ (by decide) (x := a2) (l := p_fixed) (e2_vv rfl rfl)), fun h6 => (ev_var rfl)⟩))) h.2)) (sortOk_int _)))) rfl))
def s_is_choice_of (p_row : (List (Int × Int))) (p_fixed : (List Int)) (p_value : (List Int)) : Bool := (cond (!(s_are_ascending p_value ((p_row.length : Int) - (1 : Int)))) false (cond (decide (((List.foldl (fun acc (a1 : Int) => putZ (atZ p_row a1).1 true acc) [] (List.filter (fun (a1 : Int) => true) p_value)).length : Int) < (p_value.length : Int))) false (s_is_right_choice p_row (s_lengths_leaned p_row) p_fixed p_value)))
def k_is_choice_of (p_row : (List (Int × Int))) (p_fixed : (List Int)) (p_value : (List Int)) : Prop := ((k_are_ascending p_value ((p_row.length : Int) - (1 : Int)))) ∧ ((!(s_are_ascending p_value ((p_row.length : Int) - (1 : Int)))) = false → ((((p_value.length ≤ line) ∧ (∀ a1 ∈ p_value, (True) ∧ (true = true → ((((atOk p_row a1)))))))) ∧ ((decide (((List.foldl (fun acc (a1 : Int) => putZ (atZ p_row a1).1 true acc) [] (List.filter (fun (a1 : Int) => true) p_value)).length : Int) < (p_value.length : Int))) = false → (((k_lengths_leaned p_row)) ∧ (k_is_right_choice p_row (s_lengths_leaned p_row) p_fixed p_value)))))
theorem t_is_choice_of (k : Nat) (p_row : (List (Int × Int))) (p_fixed : (List Int)) (p_value : (List Int)) (w : DW) (h : k_is_choice_of p_row p_fixed p_value) : Φ (k + 4) (Str.ofString "is_choice_of") [(.tuple (List.map (eP eZ eZ) p_row)), (.tuple (List.map eZ p_fixed)), (.tuple (List.map eZ p_value))] w = some (.bool (s_is_choice_of p_row p_fixed p_value), w) :=
  (C_is_choice_of (k + 3) _ w).trans (run_R (f := eB) rfl (s0 := ⟨[.val (.tuple (List.map (eP eZ eZ) p_row)), .val (.tuple (List.map eZ p_fixed)), .val (.tuple (List.map eZ p_value)), .no], w⟩) rfl
    (bl_ifs (ev_not (ev_call (evs_cons (ev_var rfl) (evs_cons (ev_subI (e2_ee rfl rfl (ev_lenT (f := (eP eZ eZ)) (pk_v rfl)) ev_cst)) evs_nil)) (t_are_ascending (k + 1) (p_value) (((p_row.length : Int) - (1 : Int))) _ h.1))) (fun h2 => (bl_ret (f := eB) ev_cst rfl)) (fun h2 => (bl_ifs (ev_lt (e2_ee rfl rfl (ev_lenD keyZ (g := eB) (pk_e rfl (ev_dcZ keyZ (g := eB) (fun (a1 : Int) => true) (fun (a1 : Int) => (atZ p_row a1).1) (fun (a1 : Int) => true) (fun (a1 : Int) => True) (fun (a1 : Int) => (((atOk p_row a1)))) (it_sqT (f := eZ) (xs := p_value) (ev_var rfl)) rfl (h.2 h2).1.1 (h.2 h2).1.2 (fun (a1 : Int) h4 => ⟨[.val (.tuple (List.map (eP eZ eZ) p_row)), .val (.tuple (List.map eZ p_fixed)), .val (.tuple (List.map eZ p_value)), .val (.int a1)], rfl, rfl, ev_cst, fun h5 => ⟨(ev_fst (e2_ee rfl rfl (ev_idxT (f := (eP eZ eZ)) (e2_vv rfl rfl) h5) ev_cst)), ev_cst⟩⟩)))) (ev_lenT (f := eZ) (pk_v rfl)))) (fun h3 => (bl_ret (f := eB) ev_cst rfl)) (fun h3 => (bl_ret (f := eB) (ev_call (evs_cons (ev_var rfl) (evs_cons (ev_call (evs_cons (ev_var rfl) evs_nil) (t_lengths_leaned (k + 2) (p_row) _ ((h.2 h2).2 h3).1)) (evs_cons (ev_var rfl) (evs_cons (ev_var rfl) evs_nil)))) (t_is_right_choice (k + 0) (p_row) ((s_lengths_leaned p_row)) (p_fixed) (p_value) _ ((h.2 h2).2 h3).2)) rfl))))))
def s_colours_cut (p_row : (List (Int × Int))) (p_choice : (List Int)) : (List Int) := (sortZ eZ (List.map (fun (a1 : Int) => (atZ p_row a1).1) p_choice))
def k_colours_cut (p_row : (List (Int × Int))) (p_choice : (List Int)) : Prop := (p_choice.length ≤ line) ∧ (∀ a1 ∈ p_choice, ((atOk p_row a1)))
theorem t_colours_cut (k : Nat) (p_row : (List (Int × Int))) (p_choice : (List Int)) (w : DW) (h : k_colours_cut p_row p_choice) : Φ (k + 1) (Str.ofString "colours_cut") [(.tuple (List.map (eP eZ eZ) p_row)), (.tuple (List.map eZ p_choice))] w = some (.tuple (List.map eZ (s_colours_cut p_row p_choice)), w) :=
  (C_colours_cut (k + 0) _ w).trans (run_R (f := (eT eZ)) rfl (s0 := ⟨[.val (.tuple (List.map (eP eZ eZ) p_row)), .val (.tuple (List.map eZ p_choice)), .no], w⟩) rfl
    (bl_ret (f := (eT eZ)) (ev_tupL (f := eZ) (pk_e rfl (ev_sortL (f := eZ) (pk_e rfl (ev_lcq (f := eZ) (fun (a1 : Int) => (atZ p_row a1).1) (fun (a1 : Int) => ((atOk p_row a1))) (it_sqT (f := eZ) (xs := p_choice) (ev_var rfl)) rfl h.1 h.2 (fun (a1 : Int) h2 => ⟨[.val (.tuple (List.map (eP eZ eZ) p_row)), .val (.tuple (List.map eZ p_choice)), .val (.int a1)], rfl, rfl, (ev_fst (e2_ee rfl rfl (ev_idxT (f := (eP eZ eZ)) (e2_vv rfl rfl) h2) ev_cst))⟩))) (sortOk_int _)))) rfl))
def s_is_transversal (p_row : (List (Int × Int))) (p_colours : (List Int)) (p_fixed : (List Int)) (p_value : (List Int)) : Bool := ((s_is_choice_of p_row p_fixed p_value) && (decide ((s_colours_cut p_row p_value) = p_colours)))
def k_is_transversal (p_row : (List (Int × Int))) (p_colours : (List Int)) (p_fixed : (List Int)) (p_value : (List Int)) : Prop := ((k_need_setting p_row p_colours p_fixed)) ∧ (((k_is_choice_of p_row p_fixed p_value)) ∧ ((s_is_choice_of p_row p_fixed p_value) = true → (((k_colours_cut p_row p_value)))))
theorem t_is_transversal (k : Nat) (p_row : (List (Int × Int))) (p_colours : (List Int)) (p_fixed : (List Int)) (p_value : (List Int)) (w : DW) (h : k_is_transversal p_row p_colours p_fixed p_value) : Φ (k + 6) (Str.ofString "is_transversal") [(.tuple (List.map (eP eZ eZ) p_row)), (.tuple (List.map eZ p_colours)), (.tuple (List.map eZ p_fixed)), (.tuple (List.map eZ p_value))] w = some (.bool (s_is_transversal p_row p_colours p_fixed p_value), w) :=
  (C_is_transversal (k + 5) _ w).trans (run_R (f := eB) rfl (s0 := ⟨[.val (.tuple (List.map (eP eZ eZ) p_row)), .val (.tuple (List.map eZ p_colours)), .val (.tuple (List.map eZ p_fixed)), .val (.tuple (List.map eZ p_value))], w⟩) rfl
    (bl_ex (ev_call (evs_cons (ev_var rfl) (evs_cons (ev_var rfl) (evs_cons (ev_var rfl) evs_nil))) (t_need_setting (k + 0) (p_row) (p_colours) (p_fixed) _ h.1)) (bl_ret (f := eB) (ev_and (ev_call (evs_cons (ev_var rfl) (evs_cons (ev_var rfl) (evs_cons (ev_var rfl) evs_nil))) (t_is_choice_of (k + 1) (p_row) (p_fixed) (p_value) _ h.2.1)) (fun h1 => (ev_eq (cT cZ) (by decide) (x := (s_colours_cut p_row p_value)) (y := p_colours) (e2_ev rfl (ev_call (evs_cons (ev_var rfl) (evs_cons (ev_var rfl) evs_nil)) (t_colours_cut (k + 4) (p_row) (p_value) _ (h.2.2 h1))) rfl)))) rfl)))
def s_corners_in_l1 (p_row : (List (Int × Int))) (p_colours : (List Int)) (st3 : ((List (Int × (List Int))))) (a2 : Int) : ((List (Int × (List Int)))) := (leT (st3 ++ (List.map (fun (a6 : (List Int)) => (a2, a6)) (s_transversals_in p_row p_colours ([a2] : (List Int))))) fun (found_7 : (List (Int × (List Int)))) => (found_7))
def k_corners_in_l1 (p_row : (List (Int × Int))) (p_colours : (List Int)) (st3 : ((List (Int × (List Int))))) (a2 : Int) : Prop := (((k_transversals_in p_row p_colours ([a2] : (List Int)))) ∧ ((s_transversals_in p_row p_colours ([a2] : (List Int))).length ≤ line)) ∧ (st3.length + (List.map (fun (a6 : (List Int)) => (a2, a6)) (s_transversals_in p_row p_colours ([a2] : (List Int)))).length ≤ line)
def s_corners_in (p_row : (List (Int × Int))) (p_colours : (List Int)) : (List (Int × (List Int))) := (leT ([] : (List (Int × (List Int)))) fun (found_1 : (List (Int × (List Int)))) => (leT (List.foldl (s_corners_in_l1 p_row p_colours) ((found_1) : ((List (Int × (List Int))))) (rangeZ 0 ((p_row.length : Int) + (1 : Int)))) fun (st3 : ((List (Int × (List Int))))) => st3))
def k_corners_in (p_row : (List (Int × Int))) (p_colours : (List Int)) : Prop := (leT ([] : (List (Int × (List Int)))) fun (found_1 : (List (Int × (List Int)))) => ((rngOk ((p_row.length : Int) + (1 : Int)) = true)) ∧ (forOk (s_corners_in_l1 p_row p_colours) (k_corners_in_l1 p_row p_colours) ((found_1) : ((List (Int × (List Int))))) (rangeZ 0 ((p_row.length : Int) + (1 : Int)))))
theorem t_corners_in (k : Nat) (p_row : (List (Int × Int))) (p_colours : (List Int)) (w : DW) (h : k_corners_in p_row p_colours) : Φ (k + 5) (Str.ofString "corners_in") [(.tuple (List.map (eP eZ eZ) p_row)), (.tuple (List.map eZ p_colours))] w = some (.tuple (List.map (eP eZ (eT eZ)) (s_corners_in p_row p_colours)), w) :=
  (C_corners_in (k + 4) _ w).trans (run_R (f := (eT (eP eZ (eT eZ)))) rfl (s0 := ⟨[.val (.tuple (List.map (eP eZ eZ) p_row)), .val (.tuple (List.map eZ p_colours)), .no, .no, .no], w⟩) rfl
    (bl_asgO (f := (eL (eP eZ (eT eZ)))) (x := ([] : (List (Int × (List Int))))) (ok := (fun (found_1 : (List (Int × (List Int)))) => ((rngOk ((p_row.length : Int) + (1 : Int)) = true)) ∧ (forOk (s_corners_in_l1 p_row p_colours) (k_corners_in_l1 p_row p_colours) ((found_1) : ((List (Int × (List Int))))) (rangeZ 0 ((p_row.length : Int) + (1 : Int)))))) (fun found_1 => ⟨[.val (.tuple (List.map (eP eZ eZ) p_row)), .val (.tuple (List.map eZ p_colours)), .own (.list (List.map (eP eZ (eT eZ)) found_1)), .no, .no], w⟩) (show Ev _ _ _ (.list (List.map (eP eZ (eT eZ)) ([] : (List (Int × (List Int)))))) _ from ev_lst evs_nil (by simp only [List.length_cons, List.length_nil, List.length_map]; decide)) h (fun _ => rfl) (fun found_1 h8 => (bl_fors (F := eZ) (xs := (rangeZ 0 ((p_row.length : Int) + (1 : Int)))) (st0 := ((found_1) : ((List (Int × (List Int)))))) (step := (s_corners_in_l1 p_row p_colours)) (okb := (k_corners_in_l1 p_row p_colours)) (ok := (fun (_ : ((List (Int × (List Int))))) => True)) (fun (j4 : (Ent)) => noO j4 = true) (fun (st3 : ((List (Int × (List Int))))) (j4 : (Ent)) => (⟨[.val (.tuple (List.map (eP eZ eZ) p_row)), .val (.tuple (List.map eZ p_colours)), .own (.list (List.map (eP eZ (eT eZ)) st3)), j4, .no], w⟩ : S1)) (.no) rfl rfl (it_rg1 (ev_addI (e2_ee rfl rfl (ev_lenT (f := (eP eZ eZ)) (pk_v rfl)) ev_cst)) h8.1) h8.2 trivial (fun (st3 : ((List (Int × (List Int))))) (j4 : (Ent)) (a2 : Int) h9 n5 => ⟨[.val (.tuple (List.map (eP eZ eZ) p_row)), .val (.tuple (List.map eZ p_colours)), .own (.list (List.map (eP eZ (eT eZ)) st3)), .val (.int a2), .no], rfl, (bl_ext (f := (eP eZ (eT eZ))) (ys := (List.map (fun (a6 : (List Int)) => (a2, a6)) (s_transversals_in p_row p_colours ([a2] : (List Int))))) (xs := st3) (ok := (fun (_ : (List (Int × (List Int)))) => True)) (fun found_7 => ⟨[.val (.tuple (List.map (eP eZ eZ) p_row)), .val (.tuple (List.map eZ p_colours)), .own (.list (List.map (eP eZ (eT eZ)) found_7)), .val (.int a2), .no], w⟩) rfl (ev_lcq (f := (eP eZ (eT eZ))) (fun (a6 : (List Int)) => (a2, a6)) (fun (_ : (List Int)) => True) (it_sqT (f := (eT eZ)) (xs := (s_transversals_in p_row p_colours ([a2] : (List Int)))) (ev_call (evs_cons (ev_var rfl) (evs_cons (ev_var rfl) (evs_cons (show Ev _ _ _ (.tuple (List.map eZ ([a2] : (List Int)))) _ from ev_tup (evs_cons (ev_var rfl) evs_nil) (by simp only [List.length_cons, List.length_nil, List.length_map]; decide)) evs_nil))) (t_transversals_in (k + 0) (p_row) (p_colours) (([a2] : (List Int))) _ h9.1.1))) rfl h9.1.2 (fun _ _ => trivial) (fun (a6 : (List Int)) h12 => ⟨[.val (.tuple (List.map (eP eZ eZ) p_row)), .val (.tuple (List.map eZ p_colours)), .own (.list (List.map (eP eZ (eT eZ)) st3)), .val (.int a2), .val (.tuple (List.map eZ a6))], rfl, rfl, (ev_tup (evs_cons (ev_var rfl) (evs_cons (ev_var rfl) evs_nil)) (by simp only [List.length_cons, List.length_nil, List.length_map]; decide))⟩)) rfl h9.2 trivial (fun _ => rfl) (fun found_7 h11 => (bl_nilL ⟨(.val (.int a2)), rfl, rfl⟩)))⟩) (fun st3 j4 h10 n5 => (bl_ret (f := (eT (eP eZ (eT eZ)))) (ev_tupL (f := (eP eZ (eT eZ))) (pk_v rfl)) rfl))))))
def s_corners_of (p_row : (List (Int × Int))) (p_colours : (List Int)) : (List (Int × (List Int))) := (s_corners_in p_row p_colours)
def k_corners_of (p_row : (List (Int × Int))) (p_colours : (List Int)) : Prop := ((k_need_row p_row)) ∧ (((k_need_colours p_row p_colours)) ∧ ((k_corners_in p_row p_colours)))
theorem t_corners_of (k : Nat) (p_row : (List (Int × Int))) (p_colours : (List Int)) (w : DW) (h : k_corners_of p_row p_colours) : Φ (k + 6) (Str.ofString "corners_of") [(.tuple (List.map (eP eZ eZ) p_row)), (.tuple (List.map eZ p_colours))] w = some (.tuple (List.map (eP eZ (eT eZ)) (s_corners_of p_row p_colours)), w) :=
  (C_corners_of (k + 5) _ w).trans (run_R (f := (eT (eP eZ (eT eZ)))) rfl (s0 := ⟨[.val (.tuple (List.map (eP eZ eZ) p_row)), .val (.tuple (List.map eZ p_colours))], w⟩) rfl
    (bl_ex (ev_call (evs_cons (ev_var rfl) evs_nil) (t_need_row (k + 1) (p_row) _ h.1)) (bl_ex (ev_call (evs_cons (ev_var rfl) (evs_cons (ev_var rfl) evs_nil)) (t_need_colours (k + 2) (p_row) (p_colours) _ h.2.1)) (bl_ret (f := (eT (eP eZ (eT eZ)))) (ev_call (evs_cons (ev_var rfl) (evs_cons (ev_var rfl) evs_nil)) (t_corners_in (k + 0) (p_row) (p_colours) _ h.2.2)) rfl))))
def s_turned (p_row : (List (Int × Int))) : (List (Int × Int)) := p_row.reverse
def k_turned (p_row : (List (Int × Int))) : Prop := ((k_need_row p_row))
theorem t_turned (k : Nat) (p_row : (List (Int × Int))) (w : DW) (h : k_turned p_row) : Φ (k + 5) (Str.ofString "turned") [(.tuple (List.map (eP eZ eZ) p_row))] w = some (.tuple (List.map (eP eZ eZ) (s_turned p_row)), w) :=
  (C_turned (k + 4) _ w).trans (run_R (f := (eT (eP eZ eZ))) rfl (s0 := ⟨[.val (.tuple (List.map (eP eZ eZ) p_row))], w⟩) rfl
    (bl_ex (ev_call (evs_cons (ev_var rfl) evs_nil) (t_need_row (k + 0) (p_row) _ h)) (bl_ret (f := (eT (eP eZ eZ))) (ev_revT (f := (eP eZ eZ)) (pk_v rfl)) rfl)))
def s_law_plain_l2 (a1 : Int) (st18 : ((List (Int × Bool)))) (a17 : (Int × Int)) : ((List (Int × Bool))) := (cond (decide (a17.1 = a1)) (leT (mergeZ [] ((List.map (fun (a21 : Int) => ((a21 + a17.2), true)) (List.filter (fun (a21 : Int) => true) (List.map (fun y => y.1) st18))) ++ (List.map (fun (a22 : Int) => ((a22 - a17.2), true)) (List.filter (fun (a22 : Int) => true) (List.map (fun y => y.1) st18))))) fun (sums_23 : (List (Int × Bool))) => (sums_23)) (st18))
def k_law_plain_l2 (a1 : Int) (st18 : ((List (Int × Bool)))) (a17 : (Int × Int)) : Prop := ((decide (a17.1 = a1)) = true → (((((st18.length ≤ line)) ∧ ((st18.length ≤ line))) ∧ ((List.map (fun (a21 : Int) => ((a21 + a17.2), true)) (List.filter (fun (a21 : Int) => true) (List.map (fun y => y.1) st18))).length + (List.map (fun (a22 : Int) => ((a22 - a17.2), true)) (List.filter (fun (a22 : Int) => true) (List.map (fun y => y.1) st18))).length ≤ line))))
def s_law_plain_l1 (p_row : (List (Int × Int))) (st13 : Unit) (a1 : Int) : (Bool ⊕ Unit) := (leT [((0 : Int), true)] fun (sums_16 : (List (Int × Bool))) => (leT (List.foldl (s_law_plain_l2 a1) ((sums_16) : ((List (Int × Bool)))) p_row) fun (st18 : ((List (Int × Bool)))) => (cond ((lookZ st18 (0 : Int)).isSome) (Sum.inl false) (Sum.inr ()))))
def k_law_plain_l1 (p_row : (List (Int × Int))) (st13 : Unit) (a1 : Int) : Prop := (leT [((0 : Int), true)] fun (sums_16 : (List (Int × Bool))) => (forOk (s_law_plain_l2 a1) (k_law_plain_l2 a1) ((sums_16) : ((List (Int × Bool)))) p_row))
def s_law_plain (p_row : (List (Int × Int))) (p_colours : (List Int)) : Bool := (orR id (forR (s_law_plain_l1 p_row) (() : Unit) p_colours) fun (st13 : Unit) => true)
def k_law_plain (p_row : (List (Int × Int))) (p_colours : (List Int)) : Prop := (forROk (s_law_plain_l1 p_row) (k_law_plain_l1 p_row) (() : Unit) p_colours)
theorem t_law_plain (k : Nat) (p_row : (List (Int × Int))) (p_colours : (List Int)) (w : DW) (h : k_law_plain p_row p_colours) : Φ (k + 1) (Str.ofString "_law_plain") [(.tuple (List.map (eP eZ eZ) p_row)), (.tuple (List.map eZ p_colours))] w = some (.bool (s_law_plain p_row p_colours), w) :=
  (C_law_plain (k + 0) _ w).trans (run_R (f := eB) rfl (s0 := ⟨[.val (.tuple (List.map (eP eZ eZ) p_row)), .val (.tuple (List.map eZ p_colours)), .no, .no, .no, .no, .no], w⟩) rfl
    (bl_forsR (F := eZ) (xs := p_colours) (st0 := (() : Unit)) (step := (s_law_plain_l1 p_row)) (okb := (k_law_plain_l1 p_row)) (ok := (fun (_ : Unit) => True)) (inj := id) (fr := eB) (w := w) (fun (j14 : (Ent × Ent × Ent × Ent)) => noO j14.1 = true ∧ noO j14.2.2.1 = true ∧ noO j14.2.2.2 = true) (fun (st13 : Unit) (j14 : (Ent × Ent × Ent × Ent)) => (⟨[.val (.tuple (List.map (eP eZ eZ) p_row)), .val (.tuple (List.map eZ p_colours)), j14.1, j14.2.1, j14.2.2.1, j14.2.2.2, .no], w⟩ : S1)) (.no, .no, .no, .no) ⟨rfl, rfl, rfl⟩ rfl (it_sqT (f := eZ) (xs := p_colours) (ev_var rfl)) h (fun _ _ => trivial) (fun _ _ _ q => q) (fun (st13 : Unit) (j14 : (Ent × Ent × Ent × Ent)) (a1 : Int) h24 n15 => ⟨[.val (.tuple (List.map (eP eZ eZ) p_row)), .val (.tuple (List.map eZ p_colours)), .val (.int a1), j14.2.1, j14.2.2.1, j14.2.2.2, .no], rfl, (bl_asgO (f := (eD eZ eB)) (x := [((0 : Int), true)]) (ok := (fun (sums_16 : (List (Int × Bool))) => (forOk (s_law_plain_l2 a1) (k_law_plain_l2 a1) ((sums_16) : ((List (Int × Bool)))) p_row))) (fun sums_16 => ⟨[.val (.tuple (List.map (eP eZ eZ) p_row)), .val (.tuple (List.map eZ p_colours)), .val (.int a1), .own (.dict (List.map (fun y => (eZ y.1, eB y.2)) sums_16)), j14.2.2.1, j14.2.2.2, .no], w⟩) (ev_disp1 keyZ (g := eB) (k := (0 : Int)) (v := true) ev_cst ev_cst) h24 (fun _ => rfl) (fun sums_16 h26 => (bl_fors (F := (eP eZ eZ)) (xs := p_row) (st0 := ((sums_16) : ((List (Int × Bool))))) (step := (s_law_plain_l2 a1)) (okb := (k_law_plain_l2 a1)) (ok := (fun (_ : ((List (Int × Bool)))) => True)) (fun (j19 : (Ent × Ent)) => noO j19.1 = true ∧ noO j19.2 = true) (fun (st18 : ((List (Int × Bool)))) (j19 : (Ent × Ent)) => (⟨[.val (.tuple (List.map (eP eZ eZ) p_row)), .val (.tuple (List.map eZ p_colours)), .val (.int a1), .own (.dict (List.map (fun y => (eZ y.1, eB y.2)) st18)), j19.1, j19.2, .no], w⟩ : S1)) (j14.2.2.1, j14.2.2.2) ⟨n15.2.1, n15.2.2⟩ rfl (it_sqT (f := (eP eZ eZ)) (xs := p_row) (ev_var rfl)) h26 trivial (fun (st18 : ((List (Int × Bool)))) (j19 : (Ent × Ent)) (a17 : (Int × Int)) h27 n20 => ⟨[.val (.tuple (List.map (eP eZ eZ) p_row)), .val (.tuple (List.map eZ p_colours)), .val (.int a1), .own (.dict (List.map (fun y => (eZ y.1, eB y.2)) st18)), .val (.int a17.1), .val (.int a17.2), .no], rfl, (bl_ifs (ev_eq cZ (by decide) (e2_vv rfl rfl)) (fun h29 => (bl_asgO (f := (eD eZ eB)) (x := (mergeZ [] ((List.map (fun (a21 : Int) => ((a21 + a17.2), true)) (List.filter (fun (a21 : Int) => true) (List.map (fun y => y.1) st18))) ++ (List.map (fun (a22 : Int) => ((a22 - a17.2), true)) (List.filter (fun (a22 : Int) => true) (List.map (fun y => y.1) st18)))))) (ok := (fun (_ : (List (Int × Bool))) => True)) (fun sums_23 => ⟨[.val (.tuple (List.map (eP eZ eZ) p_row)), .val (.tuple (List.map eZ p_colours)), .val (.int a1), .own (.dict (List.map (fun y => (eZ y.1, eB y.2)) sums_23)), .val (.int a17.1), .val (.int a17.2), .no], w⟩) (ev_dictL keyZ (g := eB) (pk_e rfl (ev_addL (x := (List.map (fun (a21 : Int) => ((a21 + a17.2), true)) (List.filter (fun (a21 : Int) => true) (List.map (fun y => y.1) st18)))) (y := (List.map (fun (a22 : Int) => ((a22 - a17.2), true)) (List.filter (fun (a22 : Int) => true) (List.map (fun y => y.1) st18)))) (f := (eP eZ eB)) (e2_ee rfl rfl (ev_lcD keyZ (g := eB) (m := (eP eZ eB)) (l := st18) (fun (a21 : Int) => true) (fun (a21 : Int) => ((a21 + a17.2), true)) (fun (a21 : Int) => True) (fun (a21 : Int) => True) rfl rfl rfl (h27 h29).1.1 (fun _ _ => ⟨trivial, fun _ => trivial⟩) (fun (a21 : Int) h31 => ⟨[.val (.tuple (List.map (eP eZ eZ) p_row)), .val (.tuple (List.map eZ p_colours)), .val (.int a1), .no, .val (.int a17.1), .val (.int a17.2), .val (.int a21)], rfl, rfl, ev_cst, fun h32 => (ev_tup (evs_cons (ev_addI (e2_vv rfl rfl)) (evs_cons ev_cst evs_nil)) (by simp only [List.length_cons, List.length_nil, List.length_map]; decide))⟩)) (ev_lcD keyZ (g := eB) (m := (eP eZ eB)) (l := st18) (fun (a22 : Int) => true) (fun (a22 : Int) => ((a22 - a17.2), true)) (fun (a22 : Int) => True) (fun (a22 : Int) => True) rfl rfl rfl (h27 h29).1.2 (fun _ _ => ⟨trivial, fun _ => trivial⟩) (fun (a22 : Int) h33 => ⟨[.val (.tuple (List.map (eP eZ eZ) p_row)), .val (.tuple (List.map eZ p_colours)), .val (.int a1), .no, .val (.int a17.1), .val (.int a17.2), .val (.int a22)], rfl, rfl, ev_cst, fun h34 => (ev_tup (evs_cons (ev_subI (e2_vv rfl rfl)) (evs_cons ev_cst evs_nil)) (by simp only [List.length_cons, List.length_nil, List.length_map]; decide))⟩))) (h27 h29).2))) trivial (fun _ => rfl) (fun sums_23 h30 => (bl_nilL ⟨(.val (.int a17.1), .val (.int a17.2)), ⟨rfl, rfl⟩, rfl⟩)))) (fun h29 => (bl_nilL ⟨(.val (.int a17.1), .val (.int a17.2)), ⟨rfl, rfl⟩, rfl⟩)))⟩) (fun st18 j19 h28 n20 => (bl_ifs (ev_inD keyZ (g := eB) (l := st18) (k := (0 : Int)) (e2_ev rfl ev_cst rfl)) (fun h35 => (bl_retM (f := eB) ev_cst rfl)) (fun h35 => (bl_nilM ⟨(.val (.int a1), .own (.dict (List.map (fun y => (eZ y.1, eB y.2)) st18)), j19.1, j19.2), ⟨rfl, n20.1, n20.2⟩, rfl⟩)))))))⟩) (fun st13 j14 h25 n15 => (bl_ret (f := eB) ev_cst rfl))))
def s_law_turned_goes (p_row : (List (Int × Int))) (p_colours : (List Int)) (p_fixed : (List Int)) (p_due : (List (List Int))) : Bool := (leT (p_row.length : Int) fun (many_1 : Int) => (cond ((!decide ((s_turned p_row) = p_row.reverse)) || (!(s_law_plain p_row p_colours))) (decide ((s_turned p_row) = p_row.reverse)) (leT (sortZ eZ (List.map (fun (a2 : Int) => (many_1 - a2)) p_fixed)) fun (mirrored_3 : (List Int)) => (leT (s_transversals p_row.reverse p_colours mirrored_3) fun (told_4 : (List (List Int))) => (decide (told_4 = (sortZ (eT eZ) (List.map (fun (a5 : (List Int)) => (sortZ eZ (List.map (fun (a6 : Int) => ((many_1 - (1 : Int)) - a6)) a5))) p_due))))))))
def k_law_turned_goes (p_row : (List (Int × Int))) (p_colours : (List Int)) (p_fixed : (List Int)) (p_due : (List (List Int))) : Prop := (leT (p_row.length : Int) fun (many_1 : Int) => ((((k_turned p_row))) ∧ ((!decide ((s_turned p_row) = p_row.reverse)) = false → ((k_law_plain p_row p_colours)))) ∧ (((!decide ((s_turned p_row) = p_row.reverse)) || (!(s_law_plain p_row p_colours))) = true → (((k_turned p_row)))) ∧ (((!decide ((s_turned p_row) = p_row.reverse)) || (!(s_law_plain p_row p_colours))) = false → (((p_fixed.length ≤ line)) ∧ (leT (sortZ eZ (List.map (fun (a2 : Int) => (many_1 - a2)) p_fixed)) fun (mirrored_3 : (List Int)) => ((k_transversals p_row.reverse p_colours mirrored_3)) ∧ (leT (s_transversals p_row.reverse p_colours mirrored_3) fun (told_4 : (List (List Int))) => (((p_due.length ≤ line) ∧ (∀ a5 ∈ p_due, (a5.length ≤ line))) ∧ (sortOk (List.map (eT eZ) (List.map (fun (a5 : (List Int)) => (sortZ eZ (List.map (fun (a6 : Int) => ((many_1 - (1 : Int)) - a6)) a5))) p_due)) = true)))))))
theorem t_law_turned_goes (k : Nat) (p_row : (List (Int × Int))) (p_colours : (List Int)) (p_fixed : (List Int)) (p_due : (List (List Int))) (w : DW) (h : k_law_turned_goes p_row p_colours p_fixed p_due) : Φ (k + 7) (Str.ofString "_law_turned_goes") [(.tuple (List.map (eP eZ eZ) p_row)), (.tuple (List.map eZ p_colours)), (.tuple (List.map eZ p_fixed)), (.tuple (List.map (eT eZ) p_due))] w = some (.bool (s_law_turned_goes p_row p_colours p_fixed p_due), w) :=
  (C_law_turned_goes (k + 6) _ w).trans (run_R (f := eB) rfl (s0 := ⟨[.val (.tuple (List.map (eP eZ eZ) p_row)), .val (.tuple (List.map eZ p_colours)), .val (.tuple (List.map eZ p_fixed)), .val (.tuple (List.map (eT eZ) p_due)), .no, .no, .no, .no, .no], w⟩) rfl
    (bl_asg (f := eZ) (x := (p_row.length : Int)) (ok := (fun (many_1 : Int) => ((((k_turned p_row))) ∧ ((!decide ((s_turned p_row) = p_row.reverse)) = false → ((k_law_plain p_row p_colours)))) ∧ (((!decide ((s_turned p_row) = p_row.reverse)) || (!(s_law_plain p_row p_colours))) = true → (((k_turned p_row)))) ∧ (((!decide ((s_turned p_row) = p_row.reverse)) || (!(s_law_plain p_row p_colours))) = false → (((p_fixed.length ≤ line)) ∧ (leT (sortZ eZ (List.map (fun (a2 : Int) => (many_1 - a2)) p_fixed)) fun (mirrored_3 : (List Int)) => ((k_transversals p_row.reverse p_colours mirrored_3)) ∧ (leT (s_transversals p_row.reverse p_colours mirrored_3) fun (told_4 : (List (List Int))) => (((p_due.length ≤ line) ∧ (∀ a5 ∈ p_due, (a5.length ≤ line))) ∧ (sortOk (List.map (eT eZ) (List.map (fun (a5 : (List Int)) => (sortZ eZ (List.map (fun (a6 : Int) => ((many_1 - (1 : Int)) - a6)) a5))) p_due)) = true)))))))) (fun many_1 => ⟨[.val (.tuple (List.map (eP eZ eZ) p_row)), .val (.tuple (List.map eZ p_colours)), .val (.tuple (List.map eZ p_fixed)), .val (.tuple (List.map (eT eZ) p_due)), .val (.int many_1), .no, .no, .no, .no], w⟩) (ev_lenT (f := (eP eZ eZ)) (pk_v rfl)) h (fun _ => rfl) (fun many_1 h7 => (bl_ifs (ev_or (ev_ne (cT (cP cZ cZ)) (by decide) (x := (s_turned p_row)) (y := p_row.reverse) (e2_ee rfl rfl (ev_call (evs_cons (ev_var rfl) evs_nil) (t_turned (k + 1) (p_row) _ h7.1.1)) (ev_revT (f := (eP eZ eZ)) (pk_v rfl)))) (fun h9 => (ev_not (ev_call (evs_cons (ev_var rfl) (evs_cons (ev_var rfl) evs_nil)) (t_law_plain (k + 5) (p_row) (p_colours) _ (h7.1.2 h9)))))) (fun h8 => (bl_ret (f := eB) (ev_eq (cT (cP cZ cZ)) (by decide) (x := (s_turned p_row)) (y := p_row.reverse) (e2_ee rfl rfl (ev_call (evs_cons (ev_var rfl) evs_nil) (t_turned (k + 1) (p_row) _ (h7.2.1 h8))) (ev_revT (f := (eP eZ eZ)) (pk_v rfl)))) rfl)) (fun h8 => (bl_asg (f := (eT eZ)) (x := (sortZ eZ (List.map (fun (a2 : Int) => (many_1 - a2)) p_fixed))) (ok := (fun (mirrored_3 : (List Int)) => ((k_transversals p_row.reverse p_colours mirrored_3)) ∧ (leT (s_transversals p_row.reverse p_colours mirrored_3) fun (told_4 : (List (List Int))) => (((p_due.length ≤ line) ∧ (∀ a5 ∈ p_due, (a5.length ≤ line))) ∧ (sortOk (List.map (eT eZ) (List.map (fun (a5 : (List Int)) => (sortZ eZ (List.map (fun (a6 : Int) => ((many_1 - (1 : Int)) - a6)) a5))) p_due)) = true))))) (fun mirrored_3 => ⟨[.val (.tuple (List.map (eP eZ eZ) p_row)), .val (.tuple (List.map eZ p_colours)), .val (.tuple (List.map eZ p_fixed)), .val (.tuple (List.map (eT eZ) p_due)), .val (.int many_1), .val (.tuple (List.map eZ mirrored_3)), .no, .no, .no], w⟩) (ev_tupL (f := eZ) (pk_e rfl (ev_sortL (f := eZ) (pk_e rfl (ev_lcq (f := eZ) (fun (a2 : Int) => (many_1 - a2)) (fun (_ : Int) => True) (it_sqT (f := eZ) (xs := p_fixed) (ev_var rfl)) rfl (h7.2.2 h8).1 (fun _ _ => trivial) (fun (a2 : Int) h11 => ⟨[.val (.tuple (List.map (eP eZ eZ) p_row)), .val (.tuple (List.map eZ p_colours)), .val (.tuple (List.map eZ p_fixed)), .val (.tuple (List.map (eT eZ) p_due)), .val (.int many_1), .no, .no, .val (.int a2), .no], rfl, rfl, (ev_subI (e2_vv rfl rfl))⟩))) (sortOk_int _)))) (h7.2.2 h8).2 (fun _ => rfl) (fun mirrored_3 h10 => (bl_asg (f := (eT (eT eZ))) (x := (s_transversals p_row.reverse p_colours mirrored_3)) (ok := (fun (told_4 : (List (List Int))) => (((p_due.length ≤ line) ∧ (∀ a5 ∈ p_due, (a5.length ≤ line))) ∧ (sortOk (List.map (eT eZ) (List.map (fun (a5 : (List Int)) => (sortZ eZ (List.map (fun (a6 : Int) => ((many_1 - (1 : Int)) - a6)) a5))) p_due)) = true)))) (fun told_4 => ⟨[.val (.tuple (List.map (eP eZ eZ) p_row)), .val (.tuple (List.map eZ p_colours)), .val (.tuple (List.map eZ p_fixed)), .val (.tuple (List.map (eT eZ) p_due)), .val (.int many_1), .val (.tuple (List.map eZ mirrored_3)), .val (.tuple (List.map (eT eZ) told_4)), .no, .no], w⟩) (ev_call (evs_cons (ev_revT (f := (eP eZ eZ)) (pk_v rfl)) (evs_cons (ev_var rfl) (evs_cons (ev_var rfl) evs_nil))) (t_transversals (k + 0) (p_row.reverse) (p_colours) (mirrored_3) _ h10.1)) h10.2 (fun _ => rfl) (fun told_4 h12 => (bl_ret (f := eB) (ev_eq (cT (cT cZ)) (by decide) (x := told_4) (y := (sortZ (eT eZ) (List.map (fun (a5 : (List Int)) => (sortZ eZ (List.map (fun (a6 : Int) => ((many_1 - (1 : Int)) - a6)) a5))) p_due))) (e2_ve rfl rfl (ev_tupL (f := (eT eZ)) (pk_e rfl (ev_sortL (f := (eT eZ)) (pk_e rfl (ev_lcq (f := (eT eZ)) (fun (a5 : (List Int)) => (sortZ eZ (List.map (fun (a6 : Int) => ((many_1 - (1 : Int)) - a6)) a5))) (fun (a5 : (List Int)) => (a5.length ≤ line)) (it_sqT (f := (eT eZ)) (xs := p_due) (ev_var rfl)) rfl h12.1.1 h12.1.2 (fun (a5 : (List Int)) h13 => ⟨[.val (.tuple (List.map (eP eZ eZ) p_row)), .val (.tuple (List.map eZ p_colours)), .val (.tuple (List.map eZ p_fixed)), .val (.tuple (List.map (eT eZ) p_due)), .val (.int many_1), .val (.tuple (List.map eZ mirrored_3)), .val (.tuple (List.map (eT eZ) told_4)), .no, .val (.tuple (List.map eZ a5))], rfl, rfl, (ev_tupL (f := eZ) (pk_e rfl (ev_sortL (f := eZ) (pk_e rfl (ev_lcq (f := eZ) (fun (a6 : Int) => ((many_1 - (1 : Int)) - a6)) (fun (_ : Int) => True) (it_sqT (f := eZ) (xs := a5) (ev_var rfl)) rfl h13 (fun _ _ => trivial) (fun (a6 : Int) h14 => ⟨[.val (.tuple (List.map (eP eZ eZ) p_row)), .val (.tuple (List.map eZ p_colours)), .val (.tuple (List.map eZ p_fixed)), .val (.tuple (List.map (eT eZ) p_due)), .val (.int many_1), .val (.tuple (List.map eZ mirrored_3)), .val (.tuple (List.map (eT eZ) told_4)), .val (.int a6), .val (.tuple (List.map eZ a5))], rfl, rfl, (ev_subI (e2_ev rfl (ev_subI (e2_ve rfl rfl ev_cst rfl)) rfl))⟩))) (sortOk_int _))))⟩))) h12.2))) rfl)) rfl))))))))))
def s_law_goes_l2 (w : DW) (p_row : (List (Int × Int))) (p_colours : (List Int)) (later_7 : (List Int)) (st9 : Unit) (a8 : (List Int)) : ((Bool × DW) ⊕ Unit) := (cond (!decide ((s_is_transversal p_row p_colours later_7 a8) = true)) (Sum.inl (false, (shufZ (s_law_blocks p_row p_colours) w).2)) (Sum.inr ()))
def k_law_goes_l2 (w : DW) (p_row : (List (Int × Int))) (p_colours : (List Int)) (later_7 : (List Int)) (st9 : Unit) (a8 : (List Int)) : Prop := (((k_is_transversal p_row p_colours later_7 a8)))
def s_law_goes_l1 (w : DW) (p_row : (List (Int × Int))) (p_colours : (List Int)) (p_fixed : (List Int)) (due_2 : (List (List Int))) (st4 : Unit) (a3 : (List Int)) : ((Bool × DW) ⊕ Unit) := (leT (s_law_other_way p_fixed a3) fun (later_7 : (List Int)) => (cond ((!decide ((s_transversals p_row p_colours later_7) = due_2)) || (!decide ((s_law_st_all p_row p_colours later_7) = due_2))) (Sum.inl (false, (shufZ (s_law_blocks p_row p_colours) w).2)) (orR Sum.inl (forR (s_law_goes_l2 w p_row p_colours later_7) (() : Unit) (cutZ due_2 none (some (3 : Int)))) fun (st9 : Unit) => (Sum.inr ()))))
def k_law_goes_l1 (w : DW) (p_row : (List (Int × Int))) (p_colours : (List Int)) (p_fixed : (List Int)) (due_2 : (List (List Int))) (st4 : Unit) (a3 : (List Int)) : Prop := ((k_law_other_way p_fixed a3)) ∧ (leT (s_law_other_way p_fixed a3) fun (later_7 : (List Int)) => ((((k_transversals p_row p_colours later_7))) ∧ ((!decide ((s_transversals p_row p_colours later_7) = due_2)) = false → (((k_law_st_all p_row p_colours later_7))))) ∧ (((!decide ((s_transversals p_row p_colours later_7) = due_2)) || (!decide ((s_law_st_all p_row p_colours later_7) = due_2))) = false → ((forROk (s_law_goes_l2 w p_row p_colours later_7) (k_law_goes_l2 w p_row p_colours later_7) (() : Unit) (cutZ due_2 none (some (3 : Int)))))))
def s_law_goes_l3 (w : DW) (p_row : (List (Int × Int))) (p_colours : (List Int)) (corners_12 : (List (Int × (List Int)))) (st14 : Unit) (a13 : (Int × (Int × Int))) : ((Bool × DW) ⊕ Unit) := (cond ((!decide (a13.2.1 ∈ p_colours)) && (!decide ((List.map (fun (a17 : (Int × (List Int))) => a17.2) (List.filter (fun (a17 : (Int × (List Int))) => (decide (a17.1 = a13.1))) corners_12)) = (List.map (fun (a18 : (Int × (List Int))) => a18.2) (List.filter (fun (a18 : (Int × (List Int))) => (decide (a18.1 = (a13.1 + (1 : Int))))) corners_12))))) (Sum.inl (false, (shufZ (s_law_blocks p_row p_colours) w).2)) (Sum.inr ()))
def k_law_goes_l3 (w : DW) (p_row : (List (Int × Int))) (p_colours : (List Int)) (corners_12 : (List (Int × (List Int)))) (st14 : Unit) (a13 : (Int × (Int × Int))) : Prop := (((!decide (a13.2.1 ∈ p_colours)) = true → (((corners_12.length ≤ line)) ∧ ((corners_12.length ≤ line)))))
def s_law_goes (w : DW) (p_row : (List (Int × Int))) (p_colours : (List Int)) (p_fixed : (List Int)) : (Bool × DW) := (leT (p_row.length : Int) fun (many_1 : Int) => (leT (s_law_st_all p_row p_colours p_fixed) fun (due_2 : (List (List Int))) => (cond (!decide ((s_transversals p_row p_colours p_fixed) = due_2)) (false, w) (orR id (forR (s_law_goes_l1 w p_row p_colours p_fixed due_2) (() : Unit) (([([(0 : Int)] : (List Int)), ([many_1] : (List Int)), ([(0 : Int), many_1] : (List Int))] : (List (List Int))) ++ (cutZ (shufZ (s_law_blocks p_row p_colours) w).1 none (some (5 : Int))))) fun (st4 : Unit) => (leT (s_corners_of p_row p_colours) fun (corners_12 : (List (Int × (List Int)))) => (orR id (forR (s_law_goes_l3 w p_row p_colours corners_12) (() : Unit) (enumZ 0 p_row)) fun (st14 : Unit) => ((s_law_turned_goes p_row p_colours p_fixed due_2), (shufZ (s_law_blocks p_row p_colours) w).2)))))))
def k_law_goes (w : DW) (p_row : (List (Int × Int))) (p_colours : (List Int)) (p_fixed : (List Int)) : Prop := ((k_law_st_all p_row p_colours p_fixed)) ∧ ((leT (p_row.length : Int) fun (many_1 : Int) => (leT (s_law_st_all p_row p_colours p_fixed) fun (due_2 : (List (List Int))) => (((k_transversals p_row p_colours p_fixed))) ∧ ((!decide ((s_transversals p_row p_colours p_fixed) = due_2)) = false → (((((((k_law_blocks p_row p_colours)) ∧ (shufOk (s_law_blocks p_row p_colours) w)))) ∧ (([([(0 : Int)] : (List Int)), ([many_1] : (List Int)), ([(0 : Int), many_1] : (List Int))] : (List (List Int))).length + (cutZ (shufZ (s_law_blocks p_row p_colours) w).1 none (some (5 : Int))).length ≤ line)) ∧ (forROk (s_law_goes_l1 w p_row p_colours p_fixed due_2) (k_law_goes_l1 w p_row p_colours p_fixed due_2) (() : Unit) (([([(0 : Int)] : (List Int)), ([many_1] : (List Int)), ([(0 : Int), many_1] : (List Int))] : (List (List Int))) ++ (cutZ (shufZ (s_law_blocks p_row p_colours) w).1 none (some (5 : Int))))) ∧ (orROk (forR (s_law_goes_l1 w p_row p_colours p_fixed due_2) (() : Unit) (([([(0 : Int)] : (List Int)), ([many_1] : (List Int)), ([(0 : Int), many_1] : (List Int))] : (List (List Int))) ++ (cutZ (shufZ (s_law_blocks p_row p_colours) w).1 none (some (5 : Int))))) fun (st4 : Unit) => ((k_corners_of p_row p_colours)) ∧ (leT (s_corners_of p_row p_colours) fun (corners_12 : (List (Int × (List Int)))) => (forROk (s_law_goes_l3 w p_row p_colours corners_12) (k_law_goes_l3 w p_row p_colours corners_12) (() : Unit) (enumZ 0 p_row)) ∧ (orROk (forR (s_law_goes_l3 w p_row p_colours corners_12) (() : Unit) (enumZ 0 p_row)) fun (st14 : Unit) => (k_law_turned_goes p_row p_colours p_fixed due_2)))))))))
theorem t_law_goes (k : Nat) (p_row : (List (Int × Int))) (p_colours : (List Int)) (p_fixed : (List Int)) (w : DW) (h : k_law_goes w p_row p_colours p_fixed) : Φ (k + 8) (Str.ofString "_law_goes") [(drwTok), (.tuple (List.map (eP eZ eZ) p_row)), (.tuple (List.map eZ p_colours)), (.tuple (List.map eZ p_fixed))] w = some (.bool (s_law_goes w p_row p_colours p_fixed).1, (s_law_goes w p_row p_colours p_fixed).2) :=
  (C_law_goes (k + 7) _ w).trans (run_W (f := eB) rfl (s0 := ⟨[.val (drwTok), .val (.tuple (List.map (eP eZ eZ) p_row)), .val (.tuple (List.map eZ p_colours)), .val (.tuple (List.map eZ p_fixed)), .no, .no, .no, .no, .no, .no, .no, .no, .no, .no, .no], w⟩) rfl
    (bl_par2 (f := eZ) (x := (p_row.length : Int)) (f' := (eT (eT eZ))) (x' := (s_law_st_all p_row p_colours p_fixed)) (ok := (fun (many_1 : Int) (due_2 : (List (List Int))) => (((k_transversals p_row p_colours p_fixed))) ∧ ((!decide ((s_transversals p_row p_colours p_fixed) = due_2)) = false → (((((((k_law_blocks p_row p_colours)) ∧ (shufOk (s_law_blocks p_row p_colours) w)))) ∧ (([([(0 : Int)] : (List Int)), ([many_1] : (List Int)), ([(0 : Int), many_1] : (List Int))] : (List (List Int))).length + (cutZ (shufZ (s_law_blocks p_row p_colours) w).1 none (some (5 : Int))).length ≤ line)) ∧ (forROk (s_law_goes_l1 w p_row p_colours p_fixed due_2) (k_law_goes_l1 w p_row p_colours p_fixed due_2) (() : Unit) (([([(0 : Int)] : (List Int)), ([many_1] : (List Int)), ([(0 : Int), many_1] : (List Int))] : (List (List Int))) ++ (cutZ (shufZ (s_law_blocks p_row p_colours) w).1 none (some (5 : Int))))) ∧ (orROk (forR (s_law_goes_l1 w p_row p_colours p_fixed due_2) (() : Unit) (([([(0 : Int)] : (List Int)), ([many_1] : (List Int)), ([(0 : Int), many_1] : (List Int))] : (List (List Int))) ++ (cutZ (shufZ (s_law_blocks p_row p_colours) w).1 none (some (5 : Int))))) fun (st4 : Unit) => ((k_corners_of p_row p_colours)) ∧ (leT (s_corners_of p_row p_colours) fun (corners_12 : (List (Int × (List Int)))) => (forROk (s_law_goes_l3 w p_row p_colours corners_12) (k_law_goes_l3 w p_row p_colours corners_12) (() : Unit) (enumZ 0 p_row)) ∧ (orROk (forR (s_law_goes_l3 w p_row p_colours corners_12) (() : Unit) (enumZ 0 p_row)) fun (st14 : Unit) => (k_law_turned_goes p_row p_colours p_fixed due_2)))))))) (fun (many_1 : Int) (due_2 : (List (List Int))) => [.val (drwTok), .val (.tuple (List.map (eP eZ eZ) p_row)), .val (.tuple (List.map eZ p_colours)), .val (.tuple (List.map eZ p_fixed)), .val (.int many_1), .val (.tuple (List.map (eT eZ) due_2)), .no, .no, .no, .no, .no, .no, .no, .no, .no]) (evs_cons (ev_lenT (f := (eP eZ eZ)) (pk_v rfl)) (evs_cons (ev_call (evs_cons (ev_var rfl) (evs_cons (ev_var rfl) (evs_cons (ev_var rfl) evs_nil))) (t_law_st_all (k + 2) (p_row) (p_colours) (p_fixed) _ h.1)) evs_nil)) h.2 (fun _ _ => rfl) (fun (many_1 : Int) (due_2 : (List (List Int))) h19 => (bl_ifs (ev_ne (cT (cT cZ)) (by decide) (x := (s_transversals p_row p_colours p_fixed)) (y := due_2) (e2_ev rfl (ev_call (evs_cons (ev_var rfl) (evs_cons (ev_var rfl) (evs_cons (ev_var rfl) evs_nil))) (t_transversals (k + 1) (p_row) (p_colours) (p_fixed) _ h19.1)) rfl)) (fun h20 => (bl_retW (f := eB) (x := (false, w)) ev_cst)) (fun h20 => (bl_forsRW (F := (eT eZ)) (xs := (([([(0 : Int)] : (List Int)), ([many_1] : (List Int)), ([(0 : Int), many_1] : (List Int))] : (List (List Int))) ++ (cutZ (shufZ (s_law_blocks p_row p_colours) w).1 none (some (5 : Int))))) (st0 := (() : Unit)) (step := (s_law_goes_l1 w p_row p_colours p_fixed due_2)) (okb := (k_law_goes_l1 w p_row p_colours p_fixed due_2)) (ok := (fun (st4 : Unit) => ((k_corners_of p_row p_colours)) ∧ (leT (s_corners_of p_row p_colours) fun (corners_12 : (List (Int × (List Int)))) => (forROk (s_law_goes_l3 w p_row p_colours corners_12) (k_law_goes_l3 w p_row p_colours corners_12) (() : Unit) (enumZ 0 p_row)) ∧ (orROk (forR (s_law_goes_l3 w p_row p_colours corners_12) (() : Unit) (enumZ 0 p_row)) fun (st14 : Unit) => (k_law_turned_goes p_row p_colours p_fixed due_2))))) (inj := id) (fr := eB) (fun (j5 : (Ent × Ent × Ent)) => noO j5.1 = true ∧ noO j5.2.1 = true ∧ noO j5.2.2 = true) (fun (st4 : Unit) (j5 : (Ent × Ent × Ent)) => (⟨[.val (drwTok), .val (.tuple (List.map (eP eZ eZ) p_row)), .val (.tuple (List.map eZ p_colours)), .val (.tuple (List.map eZ p_fixed)), .val (.int many_1), .val (.tuple (List.map (eT eZ) due_2)), j5.1, j5.2.1, j5.2.2, .no, .no, .no, .no, .no, .no], (shufZ (s_law_blocks p_row p_colours) w).2⟩ : S1)) (.no, .no, .no) ⟨rfl, rfl, rfl⟩ rfl (it_sqL (f := (eT eZ)) (xs := (([([(0 : Int)] : (List Int)), ([many_1] : (List Int)), ([(0 : Int), many_1] : (List Int))] : (List (List Int))) ++ (cutZ (shufZ (s_law_blocks p_row p_colours) w).1 none (some (5 : Int))))) (ev_addL (x := ([([(0 : Int)] : (List Int)), ([many_1] : (List Int)), ([(0 : Int), many_1] : (List Int))] : (List (List Int)))) (y := (cutZ (shufZ (s_law_blocks p_row p_colours) w).1 none (some (5 : Int)))) (f := (eT eZ)) (e2_ee rfl rfl (show Ev _ _ _ (.list (List.map (eT eZ) ([([(0 : Int)] : (List Int)), ([many_1] : (List Int)), ([(0 : Int), many_1] : (List Int))] : (List (List Int))))) _ from ev_lst (evs_cons (show Ev _ _ _ (.tuple (List.map eZ ([(0 : Int)] : (List Int)))) _ from ev_tup (evs_cons ev_cst evs_nil) (by simp only [List.length_cons, List.length_nil, List.length_map]; decide)) (evs_cons (show Ev _ _ _ (.tuple (List.map eZ ([many_1] : (List Int)))) _ from ev_tup (evs_cons (ev_var rfl) evs_nil) (by simp only [List.length_cons, List.length_nil, List.length_map]; decide)) (evs_cons (show Ev _ _ _ (.tuple (List.map eZ ([(0 : Int), many_1] : (List Int)))) _ from ev_tup (evs_cons ev_cst (evs_cons (ev_var rfl) evs_nil)) (by simp only [List.length_cons, List.length_nil, List.length_map]; decide)) evs_nil))) (by simp only [List.length_cons, List.length_nil, List.length_map]; decide)) (ev_slTL (f := (eT eZ)) (e2_ee rfl rfl (ev_callW (evs_cons (ev_var rfl) (evs_cons (ev_call (evs_cons (ev_var rfl) (evs_cons (ev_var rfl) evs_nil)) (t_law_blocks (k + 6) (p_row) (p_colours) _ (h19.2 h20).1.1.1)) evs_nil)) (t_shuf (cT cZ) (by decide) (k + 4) _ (s_law_blocks p_row p_colours) _ rfl (h19.2 h20).1.1.2)) ev_cst))) (h19.2 h20).1.2)) (h19.2 h20).2.1 (h19.2 h20).2.2 (fun _ _ _ q => q) (fun (st4 : Unit) (j5 : (Ent × Ent × Ent)) (a3 : (List Int)) h21 n6 => ⟨[.val (drwTok), .val (.tuple (List.map (eP eZ eZ) p_row)), .val (.tuple (List.map eZ p_colours)), .val (.tuple (List.map eZ p_fixed)), .val (.int many_1), .val (.tuple (List.map (eT eZ) due_2)), .val (.tuple (List.map eZ a3)), j5.2.1, j5.2.2, .no, .no, .no, .no, .no, .no], rfl, (bl_asg (f := (eT eZ)) (x := (s_law_other_way p_fixed a3)) (ok := (fun (later_7 : (List Int)) => ((((k_transversals p_row p_colours later_7))) ∧ ((!decide ((s_transversals p_row p_colours later_7) = due_2)) = false → (((k_law_st_all p_row p_colours later_7))))) ∧ (((!decide ((s_transversals p_row p_colours later_7) = due_2)) || (!decide ((s_law_st_all p_row p_colours later_7) = due_2))) = false → ((forROk (s_law_goes_l2 w p_row p_colours later_7) (k_law_goes_l2 w p_row p_colours later_7) (() : Unit) (cutZ due_2 none (some (3 : Int)))))))) (fun later_7 => ⟨[.val (drwTok), .val (.tuple (List.map (eP eZ eZ) p_row)), .val (.tuple (List.map eZ p_colours)), .val (.tuple (List.map eZ p_fixed)), .val (.int many_1), .val (.tuple (List.map (eT eZ) due_2)), .val (.tuple (List.map eZ a3)), .val (.tuple (List.map eZ later_7)), j5.2.2, .no, .no, .no, .no, .no, .no], (shufZ (s_law_blocks p_row p_colours) w).2⟩) (ev_call (evs_cons (ev_var rfl) (evs_cons (ev_var rfl) evs_nil)) (t_law_other_way (k + 6) (p_fixed) (a3) _ h21.1)) h21.2 (fun _ => rfl) (fun later_7 h23 => (bl_ifs (ev_or (ev_ne (cT (cT cZ)) (by decide) (x := (s_transversals p_row p_colours later_7)) (y := due_2) (e2_ev rfl (ev_call (evs_cons (ev_var rfl) (evs_cons (ev_var rfl) (evs_cons (ev_var rfl) evs_nil))) (t_transversals (k + 1) (p_row) (p_colours) (later_7) _ h23.1.1)) rfl)) (fun h25 => (ev_ne (cT (cT cZ)) (by decide) (x := (s_law_st_all p_row p_colours later_7)) (y := due_2) (e2_ev rfl (ev_call (evs_cons (ev_var rfl) (evs_cons (ev_var rfl) (evs_cons (ev_var rfl) evs_nil))) (t_law_st_all (k + 2) (p_row) (p_colours) (later_7) _ (h23.1.2 h25))) rfl)))) (fun h24 => (bl_retMW (f := eB) (x := (false, (shufZ (s_law_blocks p_row p_colours) w).2)) ev_cst)) (fun h24 => (bl_forsRW (F := (eT eZ)) (xs := (cutZ due_2 none (some (3 : Int)))) (st0 := (() : Unit)) (step := (s_law_goes_l2 w p_row p_colours later_7)) (okb := (k_law_goes_l2 w p_row p_colours later_7)) (ok := (fun (_ : Unit) => True)) (inj := Sum.inl) (fr := eB) (fun (j10 : (Ent)) => noO j10 = true) (fun (st9 : Unit) (j10 : (Ent)) => (⟨[.val (drwTok), .val (.tuple (List.map (eP eZ eZ) p_row)), .val (.tuple (List.map eZ p_colours)), .val (.tuple (List.map eZ p_fixed)), .val (.int many_1), .val (.tuple (List.map (eT eZ) due_2)), .val (.tuple (List.map eZ a3)), .val (.tuple (List.map eZ later_7)), j10, .no, .no, .no, .no, .no, .no], (shufZ (s_law_blocks p_row p_colours) w).2⟩ : S1)) (j5.2.2) n6.2.2 rfl (it_sqT (f := (eT eZ)) (xs := (cutZ due_2 none (some (3 : Int)))) (ev_slTT (f := (eT eZ)) (e2_ve rfl rfl ev_cst rfl))) (h23.2 h24) (fun _ _ => trivial) (fun _ _ _ q => q) (fun (st9 : Unit) (j10 : (Ent)) (a8 : (List Int)) h26 n11 => ⟨[.val (drwTok), .val (.tuple (List.map (eP eZ eZ) p_row)), .val (.tuple (List.map eZ p_colours)), .val (.tuple (List.map eZ p_fixed)), .val (.int many_1), .val (.tuple (List.map (eT eZ) due_2)), .val (.tuple (List.map eZ a3)), .val (.tuple (List.map eZ later_7)), .val (.tuple (List.map eZ a8)), .no, .no, .no, .no, .no, .no], rfl, (bl_ifs (ev_isnB (e2_ee rfl rfl (ev_call (evs_cons (ev_var rfl) (evs_cons (ev_var rfl) (evs_cons (ev_var rfl) (evs_cons (ev_var rfl) evs_nil)))) (t_is_transversal (k + 1) (p_row) (p_colours) (later_7) (a8) _ h26)) ev_cst)) (fun h28 => (bl_retMW (f := eB) (x := (false, (shufZ (s_law_blocks p_row p_colours) w).2)) ev_cst)) (fun h28 => (bl_nilMW ⟨(.val (.tuple (List.map eZ a8))), rfl, rfl⟩)))⟩) (fun st9 j10 h27 n11 => (bl_nilMW ⟨(.val (.tuple (List.map eZ a3)), .val (.tuple (List.map eZ later_7)), j10), ⟨rfl, rfl, n11⟩, rfl⟩)))))))⟩) (fun st4 j5 h22 n6 => (bl_asg (f := (eT (eP eZ (eT eZ)))) (x := (s_corners_of p_row p_colours)) (ok := (fun (corners_12 : (List (Int × (List Int)))) => (forROk (s_law_goes_l3 w p_row p_colours corners_12) (k_law_goes_l3 w p_row p_colours corners_12) (() : Unit) (enumZ 0 p_row)) ∧ (orROk (forR (s_law_goes_l3 w p_row p_colours corners_12) (() : Unit) (enumZ 0 p_row)) fun (st14 : Unit) => (k_law_turned_goes p_row p_colours p_fixed due_2)))) (fun corners_12 => ⟨[.val (drwTok), .val (.tuple (List.map (eP eZ eZ) p_row)), .val (.tuple (List.map eZ p_colours)), .val (.tuple (List.map eZ p_fixed)), .val (.int many_1), .val (.tuple (List.map (eT eZ) due_2)), j5.1, j5.2.1, j5.2.2, .val (.tuple (List.map (eP eZ (eT eZ)) corners_12)), .no, .no, .no, .no, .no], (shufZ (s_law_blocks p_row p_colours) w).2⟩) (ev_call (evs_cons (ev_var rfl) (evs_cons (ev_var rfl) evs_nil)) (t_corners_of (k + 1) (p_row) (p_colours) _ h22.1)) h22.2 (fun _ => rfl) (fun corners_12 h29 => (bl_forsRW (F := (eP eZ (eP eZ eZ))) (xs := (enumZ 0 p_row)) (st0 := (() : Unit)) (step := (s_law_goes_l3 w p_row p_colours corners_12)) (okb := (k_law_goes_l3 w p_row p_colours corners_12)) (ok := (fun (st14 : Unit) => (k_law_turned_goes p_row p_colours p_fixed due_2))) (inj := id) (fr := eB) (fun (j15 : (Ent × Ent × Ent)) => noO j15.1 = true ∧ noO j15.2.1 = true ∧ noO j15.2.2 = true) (fun (st14 : Unit) (j15 : (Ent × Ent × Ent)) => (⟨[.val (drwTok), .val (.tuple (List.map (eP eZ eZ) p_row)), .val (.tuple (List.map eZ p_colours)), .val (.tuple (List.map eZ p_fixed)), .val (.int many_1), .val (.tuple (List.map (eT eZ) due_2)), j5.1, j5.2.1, j5.2.2, .val (.tuple (List.map (eP eZ (eT eZ)) corners_12)), j15.1, j15.2.1, j15.2.2, .no, .no], (shufZ (s_law_blocks p_row p_colours) w).2⟩ : S1)) (.no, .no, .no) ⟨rfl, rfl, rfl⟩ rfl (it_enT (f := (eP eZ eZ)) (ev_var rfl)) h29.1 h29.2 (fun _ _ _ q => q) (fun (st14 : Unit) (j15 : (Ent × Ent × Ent)) (a13 : (Int × (Int × Int))) h30 n16 => ⟨[.val (drwTok), .val (.tuple (List.map (eP eZ eZ) p_row)), .val (.tuple (List.map eZ p_colours)), .val (.tuple (List.map eZ p_fixed)), .val (.int many_1), .val (.tuple (List.map (eT eZ) due_2)), j5.1, j5.2.1, j5.2.2, .val (.tuple (List.map (eP eZ (eT eZ)) corners_12)), .val (.int a13.1), .val (.int a13.2.1), .val (.int a13.2.2), .no, .no], rfl, (bl_ifs (ev_and (ev_ninT cZ (by decide) (x := a13.2.1) (l := p_colours) (e2_vv rfl rfl)) (fun h33 => (ev_ne (cL (cT cZ)) (by decide) (x := (List.map (fun (a17 : (Int × (List Int))) => a17.2) (List.filter (fun (a17 : (Int × (List Int))) => (decide (a17.1 = a13.1))) corners_12))) (y := (List.map (fun (a18 : (Int × (List Int))) => a18.2) (List.filter (fun (a18 : (Int × (List Int))) => (decide (a18.1 = (a13.1 + (1 : Int))))) corners_12))) (e2_ee rfl rfl (ev_lcp (f := (eT eZ)) (fun (a17 : (Int × (List Int))) => (decide (a17.1 = a13.1))) (fun (a17 : (Int × (List Int))) => a17.2) (fun (_ : (Int × (List Int))) => True) (fun (_ : (Int × (List Int))) => True) (it_sqT (f := (eP eZ (eT eZ))) (xs := corners_12) (ev_var rfl)) rfl (h30 h33).1 (fun _ _ => ⟨trivial, fun _ => trivial⟩) (fun (a17 : (Int × (List Int))) h34 => ⟨[.val (drwTok), .val (.tuple (List.map (eP eZ eZ) p_row)), .val (.tuple (List.map eZ p_colours)), .val (.tuple (List.map eZ p_fixed)), .val (.int many_1), .val (.tuple (List.map (eT eZ) due_2)), j5.1, j5.2.1, j5.2.2, .val (.tuple (List.map (eP eZ (eT eZ)) corners_12)), .val (.int a13.1), .val (.int a13.2.1), .val (.int a13.2.2), .val (.int a17.1), .val (.tuple (List.map eZ a17.2))], rfl, rfl, (ev_eq cZ (by decide) (e2_vv rfl rfl)), fun h35 => (ev_var rfl)⟩)) (ev_lcp (f := (eT eZ)) (fun (a18 : (Int × (List Int))) => (decide (a18.1 = (a13.1 + (1 : Int))))) (fun (a18 : (Int × (List Int))) => a18.2) (fun (_ : (Int × (List Int))) => True) (fun (_ : (Int × (List Int))) => True) (it_sqT (f := (eP eZ (eT eZ))) (xs := corners_12) (ev_var rfl)) rfl (h30 h33).2 (fun _ _ => ⟨trivial, fun _ => trivial⟩) (fun (a18 : (Int × (List Int))) h36 => ⟨[.val (drwTok), .val (.tuple (List.map (eP eZ eZ) p_row)), .val (.tuple (List.map eZ p_colours)), .val (.tuple (List.map eZ p_fixed)), .val (.int many_1), .val (.tuple (List.map (eT eZ) due_2)), j5.1, j5.2.1, j5.2.2, .val (.tuple (List.map (eP eZ (eT eZ)) corners_12)), .val (.int a13.1), .val (.int a13.2.1), .val (.int a13.2.2), .val (.int a18.1), .val (.tuple (List.map eZ a18.2))], rfl, rfl, (ev_eq cZ (by decide) (e2_ve rfl rfl (ev_addI (e2_ve rfl rfl ev_cst rfl)) rfl)), fun h37 => (ev_var rfl)⟩)))))) (fun h32 => (bl_retMW (f := eB) (x := (false, (shufZ (s_law_blocks p_row p_colours) w).2)) ev_cst)) (fun h32 => (bl_nilMW ⟨(.val (.int a13.1), .val (.int a13.2.1), .val (.int a13.2.2)), ⟨rfl, rfl, rfl⟩, rfl⟩)))⟩) (fun st14 j15 h31 n16 => (bl_retW (f := eB) (x := ((s_law_turned_goes p_row p_colours p_fixed due_2), (shufZ (s_law_blocks p_row p_colours) w).2)) (ev_call (evs_cons (ev_var rfl) (evs_cons (ev_var rfl) (evs_cons (ev_var rfl) (evs_cons (ev_var rfl) evs_nil)))) (t_law_turned_goes (k + 0) (p_row) (p_colours) (p_fixed) (due_2) _ h31))))))))))))))
def s_law_l1  (st2 : (DW)) (a1 : Int) : ((Bool × DW) ⊕ (DW)) := (leT ((s_law_st_row st2 (9 : Int) (4 : Int)).1, (s_law_st_row st2 (9 : Int) (4 : Int)).2) fun (row_5 : ((List (Int × Int)) × DW)) => (leT (s_law_many row_5.1) fun (many_7 : Int) => (leT ((sortZ eZ (cutZ (shufZ (rangeZ 0 many_7) row_5.2).1 none (some (drawF (shufZ (rangeZ 0 many_7) row_5.2).2 (many_7 + (1 : Int))).1))), (drawF (shufZ (rangeZ 0 many_7) row_5.2).2 (many_7 + (1 : Int))).2) fun (colours_8 : ((List Int) × DW)) => (leT ((sortZ eZ (cutZ (shufZ (rangeZ 0 ((row_5.1.length : Int) + (1 : Int))) colours_8.2).1 none (some (drawF (shufZ (rangeZ 0 ((row_5.1.length : Int) + (1 : Int))) colours_8.2).2 (5 : Int)).1))), (drawF (shufZ (rangeZ 0 ((row_5.1.length : Int) + (1 : Int))) colours_8.2).2 (5 : Int)).2) fun (fixed_10 : ((List Int) × DW)) => (leT ((!(s_law_goes fixed_10.2 row_5.1 colours_8.1 fixed_10.1).1), (s_law_goes fixed_10.2 row_5.1 colours_8.1 fixed_10.1).2) fun (y12 : (Bool × DW)) => (cond y12.1 (Sum.inl (false, y12.2)) (Sum.inr (y12.2))))))))
def k_law_l1  (st2 : (DW)) (a1 : Int) : Prop := ((k_law_st_row st2 (9 : Int) (4 : Int))) ∧ (leT ((s_law_st_row st2 (9 : Int) (4 : Int)).1, (s_law_st_row st2 (9 : Int) (4 : Int)).2) fun (row_5 : ((List (Int × Int)) × DW)) => ((k_law_many row_5.1)) ∧ (leT (s_law_many row_5.1) fun (many_7 : Int) => ((((rngOk many_7 = true ∧ (many_7).toNat ≤ line)) ∧ (shufOk (rangeZ 0 many_7) row_5.2)) ∧ ((drwOk (shufZ (rangeZ 0 many_7) row_5.2).2 (many_7 + (1 : Int))))) ∧ (leT ((sortZ eZ (cutZ (shufZ (rangeZ 0 many_7) row_5.2).1 none (some (drawF (shufZ (rangeZ 0 many_7) row_5.2).2 (many_7 + (1 : Int))).1))), (drawF (shufZ (rangeZ 0 many_7) row_5.2).2 (many_7 + (1 : Int))).2) fun (colours_8 : ((List Int) × DW)) => ((((rngOk ((row_5.1.length : Int) + (1 : Int)) = true ∧ (((row_5.1.length : Int) + (1 : Int))).toNat ≤ line)) ∧ (shufOk (rangeZ 0 ((row_5.1.length : Int) + (1 : Int))) colours_8.2)) ∧ ((drwOk (shufZ (rangeZ 0 ((row_5.1.length : Int) + (1 : Int))) colours_8.2).2 (5 : Int)))) ∧ (leT ((sortZ eZ (cutZ (shufZ (rangeZ 0 ((row_5.1.length : Int) + (1 : Int))) colours_8.2).1 none (some (drawF (shufZ (rangeZ 0 ((row_5.1.length : Int) + (1 : Int))) colours_8.2).2 (5 : Int)).1))), (drawF (shufZ (rangeZ 0 ((row_5.1.length : Int) + (1 : Int))) colours_8.2).2 (5 : Int)).2) fun (fixed_10 : ((List Int) × DW)) => ((k_law_goes fixed_10.2 row_5.1 colours_8.1 fixed_10.1))))))
def s_law (w : DW) (p_script : List Int) : (Bool × DW) := (orR id (forR s_law_l1 ((w) : (DW)) (rangeZ 0 ((4 : Int) + (if (6 : Int) < (p_script.length : Int) then (6 : Int) else (p_script.length : Int))))) fun (st2 : (DW)) => (true, st2))
def k_law (w : DW) (p_script : List Int) : Prop := ((rngOk ((4 : Int) + (if (6 : Int) < (p_script.length : Int) then (6 : Int) else (p_script.length : Int))) = true)) ∧ (forROk s_law_l1 k_law_l1 ((w) : (DW)) (rangeZ 0 ((4 : Int) + (if (6 : Int) < (p_script.length : Int) then (6 : Int) else (p_script.length : Int)))))
theorem t_law (p_script : List Int) (w : DW) (h : k_law w p_script) : Bl (callF prim (lookT tb) fuel lvl) fuel lawB ⟨[.val (scrD p_script), .val (drwTok), .no, .no, .no, .no, .no], w⟩ (RmW eB (s_law w p_script)) :=
    (bl_forsRW (F := eZ) (xs := (rangeZ 0 ((4 : Int) + (if (6 : Int) < (p_script.length : Int) then (6 : Int) else (p_script.length : Int))))) (st0 := ((w) : (DW))) (step := s_law_l1) (okb := k_law_l1) (ok := (fun (_ : (DW)) => True)) (inj := id) (fr := eB) (fun (j3 : (Ent × Ent × Ent × Ent × Ent)) => noO j3.1 = true ∧ noO j3.2.1 = true ∧ noO j3.2.2.1 = true ∧ noO j3.2.2.2.1 = true ∧ noO j3.2.2.2.2 = true) (fun (st2 : (DW)) (j3 : (Ent × Ent × Ent × Ent × Ent)) => (⟨[.val (scrD p_script), .val (drwTok), j3.1, j3.2.1, j3.2.2.1, j3.2.2.2.1, j3.2.2.2.2], st2⟩ : S1)) (.no, .no, .no, .no, .no) ⟨rfl, rfl, rfl, rfl, rfl⟩ rfl (it_rg1 (ev_addI (e2_ee rfl rfl ev_cst (ev_mn2 (ev_lenS (pk_v rfl)) ev_cst))) h.1) h.2 (fun _ _ => trivial) (fun _ _ _ q => q) (fun (st2 : (DW)) (j3 : (Ent × Ent × Ent × Ent × Ent)) (a1 : Int) h13 n4 => ⟨[.val (scrD p_script), .val (drwTok), .val (.int a1), j3.2.1, j3.2.2.1, j3.2.2.2.1, j3.2.2.2.2], rfl, (bl_asgW (f := (eT (eP eZ eZ))) (x := ((s_law_st_row st2 (9 : Int) (4 : Int)).1, (s_law_st_row st2 (9 : Int) (4 : Int)).2)) (ok := (fun (row_5 : ((List (Int × Int)) × DW)) => ((k_law_many row_5.1)) ∧ (leT (s_law_many row_5.1) fun (many_7 : Int) => ((((rngOk many_7 = true ∧ (many_7).toNat ≤ line)) ∧ (shufOk (rangeZ 0 many_7) row_5.2)) ∧ ((drwOk (shufZ (rangeZ 0 many_7) row_5.2).2 (many_7 + (1 : Int))))) ∧ (leT ((sortZ eZ (cutZ (shufZ (rangeZ 0 many_7) row_5.2).1 none (some (drawF (shufZ (rangeZ 0 many_7) row_5.2).2 (many_7 + (1 : Int))).1))), (drawF (shufZ (rangeZ 0 many_7) row_5.2).2 (many_7 + (1 : Int))).2) fun (colours_8 : ((List Int) × DW)) => ((((rngOk ((row_5.1.length : Int) + (1 : Int)) = true ∧ (((row_5.1.length : Int) + (1 : Int))).toNat ≤ line)) ∧ (shufOk (rangeZ 0 ((row_5.1.length : Int) + (1 : Int))) colours_8.2)) ∧ ((drwOk (shufZ (rangeZ 0 ((row_5.1.length : Int) + (1 : Int))) colours_8.2).2 (5 : Int)))) ∧ (leT ((sortZ eZ (cutZ (shufZ (rangeZ 0 ((row_5.1.length : Int) + (1 : Int))) colours_8.2).1 none (some (drawF (shufZ (rangeZ 0 ((row_5.1.length : Int) + (1 : Int))) colours_8.2).2 (5 : Int)).1))), (drawF (shufZ (rangeZ 0 ((row_5.1.length : Int) + (1 : Int))) colours_8.2).2 (5 : Int)).2) fun (fixed_10 : ((List Int) × DW)) => ((k_law_goes fixed_10.2 row_5.1 colours_8.1 fixed_10.1))))))) (r := [.val (scrD p_script), .val (drwTok), .val (.int a1), j3.2.1, j3.2.2.1, j3.2.2.2.1, j3.2.2.2.2]) (fun z6 => [.val (scrD p_script), .val (drwTok), .val (.int a1), .val (.tuple (List.map (eP eZ eZ) z6)), j3.2.2.1, j3.2.2.2.1, j3.2.2.2.2]) (ev_callW (evs_cons (ev_var rfl) (evs_cons ev_cst (evs_cons ev_cst evs_nil))) (t_law_st_row (36) ((9 : Int)) ((4 : Int)) _ h13.1)) h13.2 (fun _ => rfl) (fun row_5 h15 => (bl_asg (f := eZ) (x := (s_law_many row_5.1)) (ok := (fun (many_7 : Int) => ((((rngOk many_7 = true ∧ (many_7).toNat ≤ line)) ∧ (shufOk (rangeZ 0 many_7) row_5.2)) ∧ ((drwOk (shufZ (rangeZ 0 many_7) row_5.2).2 (many_7 + (1 : Int))))) ∧ (leT ((sortZ eZ (cutZ (shufZ (rangeZ 0 many_7) row_5.2).1 none (some (drawF (shufZ (rangeZ 0 many_7) row_5.2).2 (many_7 + (1 : Int))).1))), (drawF (shufZ (rangeZ 0 many_7) row_5.2).2 (many_7 + (1 : Int))).2) fun (colours_8 : ((List Int) × DW)) => ((((rngOk ((row_5.1.length : Int) + (1 : Int)) = true ∧ (((row_5.1.length : Int) + (1 : Int))).toNat ≤ line)) ∧ (shufOk (rangeZ 0 ((row_5.1.length : Int) + (1 : Int))) colours_8.2)) ∧ ((drwOk (shufZ (rangeZ 0 ((row_5.1.length : Int) + (1 : Int))) colours_8.2).2 (5 : Int)))) ∧ (leT ((sortZ eZ (cutZ (shufZ (rangeZ 0 ((row_5.1.length : Int) + (1 : Int))) colours_8.2).1 none (some (drawF (shufZ (rangeZ 0 ((row_5.1.length : Int) + (1 : Int))) colours_8.2).2 (5 : Int)).1))), (drawF (shufZ (rangeZ 0 ((row_5.1.length : Int) + (1 : Int))) colours_8.2).2 (5 : Int)).2) fun (fixed_10 : ((List Int) × DW)) => ((k_law_goes fixed_10.2 row_5.1 colours_8.1 fixed_10.1)))))) (fun many_7 => ⟨[.val (scrD p_script), .val (drwTok), .val (.int a1), .val (.tuple (List.map (eP eZ eZ) row_5.1)), .val (.int many_7), j3.2.2.2.1, j3.2.2.2.2], row_5.2⟩) (ev_call (evs_cons (ev_var rfl) evs_nil) (t_law_many (39) (row_5.1) _ h15.1)) h15.2 (fun _ => rfl) (fun many_7 h16 => (bl_asgW (f := (eT eZ)) (x := ((sortZ eZ (cutZ (shufZ (rangeZ 0 many_7) row_5.2).1 none (some (drawF (shufZ (rangeZ 0 many_7) row_5.2).2 (many_7 + (1 : Int))).1))), (drawF (shufZ (rangeZ 0 many_7) row_5.2).2 (many_7 + (1 : Int))).2)) (ok := (fun (colours_8 : ((List Int) × DW)) => ((((rngOk ((row_5.1.length : Int) + (1 : Int)) = true ∧ (((row_5.1.length : Int) + (1 : Int))).toNat ≤ line)) ∧ (shufOk (rangeZ 0 ((row_5.1.length : Int) + (1 : Int))) colours_8.2)) ∧ ((drwOk (shufZ (rangeZ 0 ((row_5.1.length : Int) + (1 : Int))) colours_8.2).2 (5 : Int)))) ∧ (leT ((sortZ eZ (cutZ (shufZ (rangeZ 0 ((row_5.1.length : Int) + (1 : Int))) colours_8.2).1 none (some (drawF (shufZ (rangeZ 0 ((row_5.1.length : Int) + (1 : Int))) colours_8.2).2 (5 : Int)).1))), (drawF (shufZ (rangeZ 0 ((row_5.1.length : Int) + (1 : Int))) colours_8.2).2 (5 : Int)).2) fun (fixed_10 : ((List Int) × DW)) => ((k_law_goes fixed_10.2 row_5.1 colours_8.1 fixed_10.1))))) (r := [.val (scrD p_script), .val (drwTok), .val (.int a1), .val (.tuple (List.map (eP eZ eZ) row_5.1)), .val (.int many_7), j3.2.2.2.1, j3.2.2.2.2]) (fun z9 => [.val (scrD p_script), .val (drwTok), .val (.int a1), .val (.tuple (List.map (eP eZ eZ) row_5.1)), .val (.int many_7), .val (.tuple (List.map eZ z9)), j3.2.2.2.2]) (ev_tupL (f := eZ) (pk_e rfl (ev_sortL (f := eZ) (pk_e rfl (ev_slTL (f := eZ) (e2_ee rfl rfl (ev_callW (evs_cons (ev_var rfl) (evs_cons (ev_lrg (ev_var rfl) h16.1.1.1) evs_nil)) (t_shuf cZ (by decide) (37) _ (rangeZ 0 many_7) _ rfl h16.1.1.2)) (ev_callW (evs_cons (ev_var rfl) (evs_cons (ev_addI (e2_ve rfl rfl ev_cst rfl)) evs_nil)) (t_law_draw (38) _ _ h16.1.2))))) (sortOk_int _)))) h16.2 (fun _ => rfl) (fun colours_8 h17 => (bl_asgW (f := (eT eZ)) (x := ((sortZ eZ (cutZ (shufZ (rangeZ 0 ((row_5.1.length : Int) + (1 : Int))) colours_8.2).1 none (some (drawF (shufZ (rangeZ 0 ((row_5.1.length : Int) + (1 : Int))) colours_8.2).2 (5 : Int)).1))), (drawF (shufZ (rangeZ 0 ((row_5.1.length : Int) + (1 : Int))) colours_8.2).2 (5 : Int)).2)) (ok := (fun (fixed_10 : ((List Int) × DW)) => ((k_law_goes fixed_10.2 row_5.1 colours_8.1 fixed_10.1)))) (r := [.val (scrD p_script), .val (drwTok), .val (.int a1), .val (.tuple (List.map (eP eZ eZ) row_5.1)), .val (.int many_7), .val (.tuple (List.map eZ colours_8.1)), j3.2.2.2.2]) (fun z11 => [.val (scrD p_script), .val (drwTok), .val (.int a1), .val (.tuple (List.map (eP eZ eZ) row_5.1)), .val (.int many_7), .val (.tuple (List.map eZ colours_8.1)), .val (.tuple (List.map eZ z11))]) (ev_tupL (f := eZ) (pk_e rfl (ev_sortL (f := eZ) (pk_e rfl (ev_slTL (f := eZ) (e2_ee rfl rfl (ev_callW (evs_cons (ev_var rfl) (evs_cons (ev_lrg (ev_addI (e2_ee rfl rfl (ev_lenT (f := (eP eZ eZ)) (pk_v rfl)) ev_cst)) h17.1.1.1) evs_nil)) (t_shuf cZ (by decide) (37) _ (rangeZ 0 ((row_5.1.length : Int) + (1 : Int))) _ rfl h17.1.1.2)) (ev_callW (evs_cons (ev_var rfl) (evs_cons ev_cst evs_nil)) (t_law_draw (38) _ _ h17.1.2))))) (sortOk_int _)))) h17.2 (fun _ => rfl) (fun fixed_10 h18 => (bl_ifsW (x := ((!(s_law_goes fixed_10.2 row_5.1 colours_8.1 fixed_10.1).1), (s_law_goes fixed_10.2 row_5.1 colours_8.1 fixed_10.1).2)) (ok := (fun (_ : (Bool × DW)) => True)) (r := [.val (scrD p_script), .val (drwTok), .val (.int a1), .val (.tuple (List.map (eP eZ eZ) row_5.1)), .val (.int many_7), .val (.tuple (List.map eZ colours_8.1)), .val (.tuple (List.map eZ fixed_10.1))]) (g1 := fun (y12 : (Bool × DW)) => (Sum.inl (false, y12.2))) (g0 := fun (y12 : (Bool × DW)) => (Sum.inr (y12.2))) (ev_not (ev_callW (evs_cons (ev_var rfl) (evs_cons (ev_var rfl) (evs_cons (ev_var rfl) (evs_cons (ev_var rfl) evs_nil)))) (t_law_goes (32) (row_5.1) (colours_8.1) (fixed_10.1) _ h18))) trivial (fun y12 h20 h19 => (bl_retMW (f := eB) (x := (false, y12.2)) ev_cst)) (fun y12 h20 h19 => (bl_nilMW ⟨(.val (.int a1), .val (.tuple (List.map (eP eZ eZ) row_5.1)), .val (.int many_7), .val (.tuple (List.map eZ colours_8.1)), .val (.tuple (List.map eZ fixed_10.1))), ⟨rfl, rfl, rfl, rfl, rfl⟩, rfl⟩)))))))))))⟩) (fun st2 j3 h14 n4 => (bl_retW (f := eB) (x := (true, st2)) ev_cst)))
end Iv

/-! The package's values: rows, signs, rests, choices, transversals. -/
namespace Iv
open PySem
theorem leT_eq {α β : Type} (a : α) (f : α → β) : leT a f = f a := rfl
theorem le_line {n : Nat} (h : n ≤ 1000000) : n ≤ line := by unfold line; omega
theorem lt_line {n : Nat} (h : n ≤ 1000000) : n < line := by unfold line; omega
theorem map_id_filter {α : Type} (p : α → Bool) (l : List α) : List.map (fun (a : α) => a) (List.filter p l) = l.filter p := List.map_id' _
theorem filter_true {α : Type} (l : List α) : l.filter (fun _ => true) = l := List.filter_eq_self.mpr fun _ _ => rfl
/-! ### rows -/
def many (r : Row) : Int := maxZ (r.map fun x => x.1) + 1
structure RowV (r : Row) : Prop where
  ne : 1 ≤ r.length
  le : r.length ≤ 16
  cols : ∀ x ∈ r, 0 ≤ x.1 ∧ x.1 < 4
  lens : ∀ x ∈ r, 1 ≤ x.2 ∧ x.2 ≤ 1000000000000
  dense : ∀ c, 0 ≤ c → c < many r → ∃ x ∈ r, x.1 = c
theorem RowV.nil {r : Row} (h : RowV r) : r.map (fun x => x.1) ≠ [] := by
  have h1 := h.ne
  intro e
  have h2 := congrArg List.length e
  simp only [List.length_map, List.length_nil] at h2; omega
theorem RowV.max {r : Row} (h : RowV r) : (∃ x ∈ r, x.1 = many r - 1) ∧ ∀ x ∈ r, x.1 < many r := by
  obtain ⟨h1, h2⟩ := maxZ_spec h.nil
  unfold many
  obtain ⟨x, hx, e⟩ := List.mem_map.mp h1
  refine ⟨⟨x, hx, by omega⟩, fun y hy => ?_⟩
  have := h2 y.1 (List.mem_map_of_mem hy)
  omega
theorem RowV.many {r : Row} (h : RowV r) : 1 ≤ many r ∧ many r ≤ 4 := by
  obtain ⟨⟨x, hx, e⟩, _⟩ := h.max
  have := h.cols x hx
  omega
theorem RowV.col {r : Row} (h : RowV r) {i : Int} (h0 : 0 ≤ i) (h1 : i < r.length) : 0 ≤ col r i ∧ col r i < Iv.many r := by
  have hm := atZ_mem h0 h1
  exact ⟨(h.cols _ hm).1, h.max.2 _ hm⟩
theorem RowV.len {r : Row} (h : RowV r) {i : Int} (h0 : 0 ≤ i) (h1 : i < r.length) : 1 ≤ len r i ∧ len r i ≤ 1000000000000 := h.lens _ (atZ_mem h0 h1)
theorem v_many (r : Row) : s_many_colours r = many r := rfl
theorem o_many {r : Row} (h : RowV r) : k_many_colours r := ⟨le_line (by have := h.le; omega), h.nil⟩
theorem putFold_keys {α κ β : Type} [DecidableEq κ] (k : α → κ) (v : α → β) : ∀ (l : List α) (acc : List (κ × β)), (acc.map (·.1)).Nodup → ((l.foldl (fun acc a => putZ (k a) (v a) acc) acc).map (·.1)).Nodup ∧ ∀ x, x ∈ (l.foldl (fun acc a => putZ (k a) (v a) acc) acc).map (·.1) ↔ x ∈ acc.map (·.1) ∨ x ∈ l.map k
  | [], acc, h => ⟨h, fun x => by simp⟩
  | a :: l, acc, h => by
    rw [List.foldl_cons]
    have hk := putZ_keys (k a) (v a) acc
    have hn : ((putZ (k a) (v a) acc).map (·.1)).Nodup := by
      rw [hk]
      split
      · exact h
      · rename_i hm
        rw [List.nodup_append]
        refine ⟨h, by simp, fun x hx y hy e => ?_⟩
        rw [List.mem_singleton] at hy
        subst hy; subst e; exact hm hx
    obtain ⟨h1, h2⟩ := putFold_keys k v l _ hn
    refine ⟨h1, fun x => ?_⟩
    rw [h2, hk, List.map_cons, List.mem_cons]
    split
    · rename_i hm
      constructor
      · rintro (h | h)
        · exact .inl h
        · exact .inr (.inr h)
      · rintro (h | rfl | h)
        · exact .inl h
        · exact .inl hm
        · exact .inr h
    · rw [List.mem_append, List.mem_singleton, or_assoc]
theorem putFold_len {α κ β : Type} [DecidableEq κ] (k : α → κ) (v : α → β) (l : List α) : (l.foldl (fun acc a => putZ (k a) (v a) acc) []).length ≤ l.length := by
  have : ∀ (l : List α) (acc : List (κ × β)), (l.foldl (fun acc a => putZ (k a) (v a) acc) acc).length ≤ acc.length + l.length := by
    intro l
    induction l with
    | nil => intro acc; simp
    | cons a l ih =>
      intro acc
      rw [List.foldl_cons]
      have := ih (putZ (k a) (v a) acc)
      have := putZ_len (k a) (v a) acc
      simp only [List.length_cons]; omega
  have := this l []
  simpa using this
theorem v_is_piece {x : Int × Int} (h1 : 0 ≤ x.1 ∧ x.1 < 4) (h2 : 1 ≤ x.2 ∧ x.2 ≤ 1000000000000) : s_is_piece x = true := by
  unfold s_is_piece s_is_whole
  simp [h1, h2]
theorem o_is_piece (x : Int × Int) : k_is_piece x := fun _ _ => le_line (by simp)
theorem v_is_row {r : Row} (h : RowV r) : s_is_row r = true := by
  have h1 : (List.map (fun a1 : Int × Int => s_is_piece a1) r).all id = true := by
    rw [List.all_map, List.all_eq_true]
    intro x hx
    exact v_is_piece (h.cols x hx) (h.lens x hx)
  have h2 : (((List.foldl (fun acc (a2 : Int × Int) => putZ a2.1 true acc) [] (List.filter (fun (a2 : Int × Int) => true) r)).length : Nat) : Int) = s_many_colours r := by
    rw [filter_true, v_many]
    obtain ⟨g1, g2⟩ := putFold_keys (fun a : Int × Int => a.1) (fun _ => true) r [] (by simp)
    have p : ((r.foldl (fun acc (a2 : Int × Int) => putZ a2.1 true acc) []).map (·.1)).Perm (rangeZ 0 (many r)) := by
      apply nodup_ext g1 (asc_nodup (range_asc _ _))
      intro a
      rw [g2, mem_range]
      simp only [List.map_nil, List.not_mem_nil, false_or]
      constructor
      · intro ha
        obtain ⟨x, hx, rfl⟩ := List.mem_map.mp ha
        exact ⟨(h.cols x hx).1, h.max.2 x hx⟩
      · rintro ⟨a0, a1⟩
        obtain ⟨x, hx, e⟩ := h.dense a a0 a1
        exact List.mem_map.mpr ⟨x, hx, e⟩
    have := p.length_eq
    rw [List.length_map, rangeZ_len] at this
    have := h.many
    omega
  have a1 := h.ne
  have a2 := h.le
  unfold s_is_row
  rw [h1, h2]
  have b1 : decide ((1 : Int) ≤ (r.length : Int)) = true := by simp; omega
  have b2 : decide ((r.length : Int) ≤ 16) = true := by simp; omega
  simp [b1, b2]
theorem o_is_row {r : Row} (h : RowV r) : k_is_row r :=
  have hl : r.length ≤ line := le_line (by have := h.le; omega)
  ⟨fun _ _ => ⟨hl, fun x _ => o_is_piece x⟩, fun _ => ⟨hl, o_many h⟩⟩
theorem o_need_row {r : Row} (h : RowV r) : k_need_row r := ⟨o_is_row h, fun e => by rw [v_is_row h] at e; cases e⟩
/-! ### ascending tuples -/
theorem asc_zip : ∀ {l : List Int}, l.Pairwise (· < ·) → (List.map (fun a : Int × Int => decide (a.1 < a.2)) (List.zip l (l.drop 1))).all id = true
  | [], _ => rfl
  | [a], _ => rfl
  | a :: b :: l, h => by
    rw [List.pairwise_cons] at h
    have ih := asc_zip h.2
    simp only [List.drop_succ_cons, List.drop_zero] at ih ⊢
    rw [List.zip_cons_cons, List.map_cons, List.all_cons]
    simp only [id, h.1 b (List.mem_cons_self ..), decide_true, Bool.true_and]
    exact ih
theorem v_ascending {l : List Int} {m : Int} (h : l.Pairwise (· < ·)) (hr : ∀ x ∈ l, 0 ≤ x ∧ x ≤ m) : s_are_ascending l m = true := by
  have h1 : (List.map (fun a1 : Int => (s_is_whole a1 && (decide ((0 : Int) ≤ a1) && decide (a1 ≤ m)))) l).all id = true := by
    rw [List.all_map, List.all_eq_true]
    intro x hx
    have := hr x hx
    simp [s_is_whole, this]
  unfold s_are_ascending
  rw [h1, cutZ_lo _ (by omega)]
  exact asc_zip h
theorem o_ascending {l : List Int} {m : Int} (h : l.length ≤ 100000) : k_are_ascending l m :=
  ⟨fun _ => le_line (by omega), fun _ => le_line (by rw [List.length_zip]; omega)⟩
/-- colours of a row -/
structure ColsV (r : Row) (cs : List Int) : Prop where
  asc : cs.Pairwise (· < ·)
  rng : ∀ c ∈ cs, 0 ≤ c ∧ c < many r
theorem asc_len : ∀ {l : List Int} {a b : Int}, l.Pairwise (· < ·) → (∀ x ∈ l, a ≤ x ∧ x < b) → l.length ≤ (b - a).toNat
  | [], _, _, _, _ => by simp
  | x :: l, a, b, h, hr => by
    rw [List.pairwise_cons] at h
    have h1 := hr x (List.mem_cons_self ..)
    have ih := asc_len (a := x + 1) (b := b) h.2 fun y hy => by
      have := h.1 y hy
      have := hr y (List.mem_cons_of_mem _ hy)
      omega
    rw [List.length_cons]; omega
theorem ColsV.len {r : Row} {cs : List Int} (h : ColsV r cs) (hr : RowV r) : cs.length ≤ 4 := by
  have := asc_len h.asc h.rng
  have := hr.many
  omega
theorem ColsV.nodup {r : Row} {cs : List Int} (h : ColsV r cs) : cs.Nodup := asc_nodup h.asc
structure EndsV (r : Row) (fx : List Int) : Prop where
  asc : fx.Pairwise (· < ·)
  rng : ∀ c ∈ fx, 0 ≤ c ∧ c ≤ r.length
theorem EndsV.len {r : Row} {fx : List Int} (h : EndsV r fx) (hr : RowV r) : fx.length ≤ 17 := by
  have := asc_len (b := r.length + 1) h.asc fun x hx => ⟨(h.rng x hx).1, by have := (h.rng x hx).2; omega⟩
  have := hr.le
  omega
theorem EndsV.nodup {r : Row} {fx : List Int} (h : EndsV r fx) : fx.Nodup := asc_nodup h.asc
theorem o_need_colours {r : Row} {cs : List Int} (hr : RowV r) (h : ColsV r cs) : k_need_colours r cs :=
  ⟨⟨o_many hr, o_ascending (by have := h.len hr; omega)⟩, fun e => by
    rw [v_many, v_ascending h.asc fun x hx => ⟨(h.rng x hx).1, by have := (h.rng x hx).2; omega⟩] at e; cases e⟩
theorem o_need_ends {r : Row} {fx : List Int} (hr : RowV r) (h : EndsV r fx) : k_need_ends r fx :=
  ⟨o_ascending (by have := h.len hr; omega), fun e => by rw [v_ascending h.asc h.rng] at e; cases e⟩
theorem o_need_setting {r : Row} {cs fx : List Int} (hr : RowV r) (h : ColsV r cs) (hf : EndsV r fx) : k_need_setting r cs fx := ⟨o_need_row hr, o_need_colours hr h, o_need_ends hr hf⟩
/-! ### numbers, signs, rests -/
theorem v_numbers (r : Row) (c : Int) : s_numbers_of r c = nums r c := by
  unfold s_numbers_of nums rng
  rw [enum0, List.filter_map, List.map_map]
  have : ((fun a1 : Int × Int × Int => a1.1) ∘ fun i => (i, atZ r i)) = fun i => i := rfl
  rw [this, List.map_id']
  rfl
theorem o_numbers {r : Row} (h : r.length ≤ 100) (c : Int) : k_numbers_of r c := le_line (by rw [enumZ_len]; omega)
theorem v_sign (fx ch : List Int) (n : Int) : s_sign_at fx ch n = sgn fx ch n := by
  unfold s_sign_at leT sgn sg
  simp only [map_id_filter, List.length_append]
  show (bif decide ((((cLe fx n + cLt ch n : Nat)) : Int) % 2 = 0) then (1 : Int) else -1) = _
  by_cases h : (cLe fx n + cLt ch n) % 2 = 0
  · rw [if_pos h]
    have : decide ((((cLe fx n + cLt ch n : Nat)) : Int) % 2 = 0) = true := by simp; omega
    rw [this]; rfl
  · rw [if_neg h]
    have : decide ((((cLe fx n + cLt ch n : Nat)) : Int) % 2 = 0) = false := by simp; omega
    rw [this]; rfl
theorem o_sign {fx ch : List Int} (h1 : fx.length ≤ 1000) (h2 : ch.length ≤ 1000) (n : Int) : k_sign_at fx ch n :=
  ⟨⟨le_line (by omega), le_line (by omega)⟩, le_line (by
    simp only [List.length_map]
    have := List.length_filter_le (fun a1 : Int => decide (a1 ≤ n)) fx
    have := List.length_filter_le (fun a1 : Int => decide (a1 < n)) ch
    omega)⟩
theorem small_sgn (fx ch : List Int) (n : Int) : small (sgn fx ch n) = true := by
  rcases sg_pm (cLe fx n + cLt ch n) with h | h
  · have : sgn fx ch n = 1 := h
    rw [this]; decide
  · have : sgn fx ch n = -1 := h
    rw [this]; decide
theorem vv_rest (r : Row) (ls fx ch : List Int) (j : Int) : s_rest_of r ls fx ch j = restM r ls fx ch j := by
  unfold s_rest_of restM
  simp only [leT_eq]
  rw [v_numbers]
  have : s_rest_of_l1 ls fx ch j = fun (st : Int) n => st + (if (!decide (n = j)) = true then sgn fx ch n * atZ ls n else 0) := by
    funext st n
    unfold s_rest_of_l1 leT
    rw [v_sign]
    by_cases h : n = j <;> simp [h]
  rw [this, foldl_sum, sum_filter]
  simp only [Int.zero_add]
  rfl
theorem o_rest {r : Row} {ls fx ch : List Int} {j : Int} (hr : r.length ≤ 100) (hl : ls.length = r.length) (h1 : fx.length ≤ 1000) (h2 : ch.length ≤ 1000) (hj : 0 ≤ j ∧ j < r.length) : k_rest_of r ls fx ch j := by
  refine ⟨atOk_in hj.1 hj.2, o_numbers hr _, ?_⟩
  rw [v_numbers]
  refine forOk_inv (fun _ => True) trivial fun st n hn _ => ⟨fun _ => ⟨⟨o_sign h1 h2 n, ?_⟩, ?_⟩, trivial⟩
  · have := (mem_nums.mp hn).1
    exact atOk_in this.1 (by omega)
  · unfold mulOk
    rw [v_sign, small_sgn]; rfl
theorem v_right (r : Row) (ls fx ch : List Int) : s_is_right_choice r ls fx ch = rightM r ls fx ch := by
  unfold s_is_right_choice rightM
  rw [List.all_map]
  congr 1
  funext j
  simp only [Function.comp, id]
  rw [vv_rest, absZ_eq]
  exact decide_eq_decide.mpr (by omega)
theorem o_right {r : Row} {ls fx ch : List Int} (hr : r.length ≤ 100) (hl : ls.length = r.length) (h1 : fx.length ≤ 1000) (h2 : ch.length ≤ 1000) (hj : ∀ j ∈ ch, 0 ≤ j ∧ j < r.length) : k_is_right_choice r ls fx ch :=
  ⟨le_line (by omega), fun j h => ⟨o_rest hr hl h1 h2 (hj j h), atOk_in (hj j h).1 (by have := (hj j h).2; omega)⟩⟩
/-! ### folds over ranges -/
theorem foldl_range {σ : Type} {step : σ → Int → σ} (I : Int → σ → Prop) {st : σ} : ∀ {m : Nat}, I 0 st → (∀ (i : Int) st, 0 ≤ i → i < m → I i st → I (i + 1) (step st i)) → I m ((rangeZ 0 m).foldl step st)
  | 0, h0, _ => by rw [range_nil (by omega)]; exact h0
  | m + 1, h0, h => by
    have e : rangeZ 0 ((m + 1 : Nat) : Int) = rangeZ 0 (m : Int) ++ [(m : Int)] := by
      rw [show ((m + 1 : Nat) : Int) = (m : Int) + 1 by omega]
      exact range_snoc (by omega)
    rw [e, List.foldl_append]
    have ih := foldl_range I (m := m) h0 fun i st a b => h i st a (by omega)
    have := h m _ (by omega) (by omega) ih
    rw [show ((m + 1 : Nat) : Int) = (m : Int) + 1 by omega]
    exact this
theorem forOk_app {σ α : Type} {step : σ → α → σ} {ok : σ → α → Prop} : ∀ {a b : List α} {st : σ}, forOk step ok st (a ++ b) ↔ forOk step ok st a ∧ forOk step ok (a.foldl step st) b
  | [], b, st => by simp [forOk]
  | x :: a, b, st => by simp only [List.cons_append, forOk, forOk_app (a := a), List.foldl_cons, and_assoc]
theorem forOk_range {σ : Type} {step : σ → Int → σ} {ok : σ → Int → Prop} (I : Int → σ → Prop) {st : σ} : ∀ {m : Nat}, I 0 st → (∀ (i : Int) st, 0 ≤ i → i < m → I i st → ok st i ∧ I (i + 1) (step st i)) → forOk step ok st (rangeZ 0 m)
  | 0, h0, _ => by rw [range_nil (by omega)]; trivial
  | m + 1, h0, h => by
    have e : rangeZ 0 ((m + 1 : Nat) : Int) = rangeZ 0 (m : Int) ++ [(m : Int)] := by
      rw [show ((m + 1 : Nat) : Int) = (m : Int) + 1 by omega]
      exact range_snoc (by omega)
    rw [e, forOk_app]
    refine ⟨forOk_range I h0 fun i st a b => h i st a (by omega), ?_, trivial⟩
    exact (h m _ (by omega) (by omega) (foldl_range I (m := m) h0 fun i st a b hi => (h i st a (by omega) hi).2)).1
theorem foldl_list {σ α : Type} [Inhabited α] (step : σ → α → σ) (st : σ) (xs : List α) : xs.foldl step st = (rangeZ 0 xs.length).foldl (fun st i => step st (atZ xs i)) st := by
  conv => lhs; rw [list_as_range xs]
  rw [List.foldl_map]
theorem forOk_map {σ α β : Type} (f : β → α) (step : σ → α → σ) (ok : σ → α → Prop) : ∀ (l : List β) (st : σ), forOk step ok st (l.map f) ↔ forOk (fun st i => step st (f i)) (fun st i => ok st (f i)) st l
  | [], st => Iff.rfl
  | x :: l, st => by simp only [List.map_cons, forOk, forOk_map f step ok l]
theorem forOk_list {σ α : Type} [Inhabited α] (step : σ → α → σ) (ok : σ → α → Prop) (st : σ) (xs : List α) : forOk step ok st xs ↔ forOk (fun st i => step st (atZ xs i)) (fun st i => ok st (atZ xs i)) st (rangeZ 0 xs.length) := by
  conv => lhs; rw [list_as_range xs]
  rw [forOk_map]
/-! ### leaned lengths -/
theorem pow4_fold : ∀ (r : Row) (a : Int), List.foldl s_lengths_leaned_l1 a r = a * 4 ^ r.length
  | [], a => by simp
  | x :: r, a => by
    rw [List.foldl_cons, pow4_fold r, List.length_cons, Int.pow_succ]
    unfold s_lengths_leaned_l1 leT
    rw [Int.mul_assoc, Int.mul_comm 4]
def leanPre (r : Row) (k : Int) : List Int := (rangeZ 0 k).map fun i => len r i * 4 ^ r.length + 3 ^ i.toNat
theorem leanPre_step (r : Row) {k : Int} (h : 0 ≤ k) : leanPre r (k + 1) = leanPre r k ++ [len r k * 4 ^ r.length + 3 ^ k.toNat] := by
  unfold leanPre
  rw [range_snoc h, List.map_append]; rfl
theorem lean_inv (r : Row) : (List.foldl (s_lengths_leaned_l2 (4 ^ r.length)) ([], 1) r) = (leanedM r, 3 ^ r.length) := by
  rw [foldl_list]
  have := foldl_range (step := fun st i => s_lengths_leaned_l2 (4 ^ r.length) st (atZ r i)) (fun k st => st = (leanPre r k, 3 ^ k.toNat)) (st := ([], 1)) (m := r.length) (by simp [leanPre, range_nil]) (by
    intro i st h0 h1 e
    subst e
    unfold s_lengths_leaned_l2 leT
    simp only
    rw [leanPre_step r h0]
    have : (i + 1).toNat = i.toNat + 1 := by omega
    rw [this, Int.pow_succ]; rfl)
  rw [this]
  simp [leanPre, leanedM, rng]
theorem v_lengths (r : Row) : s_lengths_leaned r = leanedM r := by
  unfold s_lengths_leaned
  simp only [leT_eq]
  rw [pow4_fold, Int.one_mul, lean_inv]
theorem o_lengths {r : Row} (h : RowV r) : k_lengths_leaned r := by
  have hl := h.le
  unfold k_lengths_leaned
  simp only [leT_eq]
  rw [pow4_fold, Int.one_mul, forOk_list]
  refine forOk_range (fun k st => st = (leanPre r k, 3 ^ k.toNat)) (by simp [leanPre, range_nil]) ?_
  intro i st h0 h1 e
  subst e
  refine ⟨⟨?_, ?_⟩, ?_⟩
  · unfold mulOk
    have := h.len h0 h1
    have : small (len r i) = true := by rw [small_iff]; unfold big; omega
    have h2 : small (atZ r i).2 = true := this
    rw [h2]; rfl
  · refine lt_line ?_
    simp only [leanPre, List.length_map, rangeZ_len]; omega
  · unfold s_lengths_leaned_l2 leT
    simp only
    rw [leanPre_step r h0]
    have : (i + 1).toNat = i.toNat + 1 := by omega
    rw [this, Int.pow_succ]; rfl
/-! ### choices -/
theorem v_choices (r : Row) (cs : List Int) : s_choices_of r cs = chsM r cs := by
  unfold s_choices_of leT chsM rawM
  congr 2
  have : s_choices_of_l1 r = rawStep r := by
    funext st c
    unfold s_choices_of_l1 leT rawStep
    simp only [filter_true, v_numbers]
  rw [this]
theorem sortOk_lists {L : List (List Int)} (h : ∀ o ∈ L, o ≠ []) : sortOk (List.map (eT eZ) L) = true := by
  have h1 : allAlike (L.map (eT eZ)) = true := by
    have key : ∀ a b : List Int, W.alike (eT eZ a) (eT eZ b) = true := by
      intro a b
      simp only [eT, W.alike]
      induction a generalizing b with
      | nil => cases b <;> simp [W.alikeAll]
      | cons x a ih =>
        cases b with
        | nil => simp [W.alikeAll]
        | cons y b => simp only [List.map_cons, W.alikeAll, alike_int, ih b, Bool.and_self]
    simp [allAlike, key]
  have h2 : (L.map (eT eZ)).all isTup = true := by
    rw [List.all_map, List.all_eq_true]
    intro o ho
    cases o with
    | nil => exact absurd rfl (h _ ho)
    | cons x o => rfl
  have h3 : ((L.map (eT eZ)).all fun x => decide (x.depth ≤ 64)) = true := by
    rw [List.all_map, List.all_eq_true]
    intro o _
    have := (cT cZ).dpt o
    simp only [cT, cZ] at this
    simp only [Function.comp, decide_eq_true_eq]
    exact Nat.le_trans this (by decide)
  simp only [sortOk, h1, h2, h3, Bool.or_true, Bool.true_or, Bool.and_self]
theorem sortOk_one {α : Type} {f : α → D} {L : List α} (h : L.length ≤ 1) : sortOk (List.map f L) = true := by
  unfold sortOk
  rw [List.length_map]
  simp [h]
/-- lists of one length can be sorted -/
theorem sortOk_same {L : List (List Int)} {n : Nat} (h : ∀ o ∈ L, o.length = n) (h0 : n = 0 → L.length ≤ 1) : sortOk (List.map (eT eZ) L) = true := by
  by_cases hn : n = 0
  · exact sortOk_one (h0 hn)
  · refine sortOk_lists fun o ho e => ?_
    have := h o ho
    rw [e] at this
    exact hn this.symm
theorem raw_bound {r : Row} {cs : List Int} (hr : r.length ≤ 16) (hc : cs.length ≤ 4) : (rawM r cs).length ≤ 65536 := by
  have := raw_len r cs [[]]
  have h2 : r.length ^ cs.length ≤ 16 ^ 4 := Nat.le_trans (Nat.pow_le_pow_left hr _) (Nat.pow_le_pow_right (by omega) hc)
  unfold rawM
  simp at this
  omega
theorem chs_bound {r : Row} {cs : List Int} (hr : r.length ≤ 16) (hc : cs.length ≤ 4) : (chsM r cs).length ≤ 65536 := by
  unfold chsM
  rw [sortZ_len, List.length_map]
  exact raw_bound hr hc
theorem o_choices {r : Row} {cs : List Int} (hr : r.length ≤ 16) (hc : cs.length ≤ 4) : k_choices_of r cs := by
  have e : s_choices_of_l1 r = rawStep r := by
    funext st c
    unfold s_choices_of_l1 leT rawStep
    simp only [filter_true, v_numbers]
  unfold k_choices_of leT
  rw [e]
  have pre : ∀ cs : List Int, cs.length ≤ 4 → forOk (rawStep r) (k_choices_of_l1 r) [[]] cs := by
    intro cs hc
    rw [forOk_list]
    have hp : ∀ k : Int, 0 ≤ k → k ≤ cs.length → (rawM r (cs.take k.toNat)).length ≤ 65536 := fun k h0 h1 => raw_bound hr (by rw [List.length_take]; omega)
    refine forOk_range (fun k st => st = rawM r (cs.take k.toNat)) (by simp [rawM]) ?_
    intro i st h0 h1 es
    subst es
    have hnext : rawStep r (rawM r (cs.take i.toNat)) (atZ cs i) = rawM r (cs.take (i + 1).toNat) := by
      have : (i + 1).toNat = i.toNat + 1 := by omega
      rw [this]
      have hi : i.toNat < cs.length := by omega
      rw [List.take_succ_eq_append_getElem hi]
      unfold rawM
      rw [List.foldl_append, atZ_in h0 h1]; rfl
    refine ⟨⟨le_line (by have := hp i h0 (by omega); omega), ?_, ?_⟩, hnext⟩
    · have := hp (i + 1) (by omega) (by omega)
      rw [← hnext] at this
      simp only [filter_true, v_numbers]
      exact le_line (by unfold rawStep at this; omega)
    · intro o ho
      refine ⟨trivial, fun _ => ⟨o_numbers (by omega) _, le_line ?_, fun b _ => ⟨trivial, fun _ => le_line ?_⟩⟩⟩
      · rw [v_numbers]
        have := nums_len r (atZ cs i)
        omega
      · obtain ⟨h2, _⟩ := mem_raw.mp ho
        have := congrArg List.length h2
        simp only [List.length_map, List.length_take] at this
        simp only [List.length_singleton]
        omega
  refine ⟨pre cs hc, le_line (by have := raw_bound hr hc; unfold rawM at this; omega), ?_⟩
  refine sortOk_same (n := cs.length) ?_ ?_
  · intro o ho
    obtain ⟨o', ho', rfl⟩ := List.mem_map.mp ho
    obtain ⟨h1, _⟩ := mem_raw.mp ho'
    rw [sortZ_len, ← h1, List.length_map]
  · intro h0
    have : cs = [] := List.length_eq_zero_iff.mp h0
    subst this
    simp
/-! ### transversals -/
theorem v_trans_in (r : Row) (cs fx : List Int) : s_transversals_in r cs fx = transM r cs fx := by
  unfold s_transversals_in leT transM
  simp only [map_id_filter, v_choices, v_lengths, v_right]
theorem ch_len {r : Row} {cs ch : List Int} (hr : RowV r) (hc : ColsV r cs) (h : IsCh r cs ch) : ch.length ≤ 4 := by
  rw [h.len]; exact hc.len hr
theorem o_trans_in {r : Row} {cs fx : List Int} (hr : RowV r) (hc : ColsV r cs) (hf : fx.length ≤ 100) : k_transversals_in r cs fx := by
  have h1 := hr.le
  have h2 := hc.len hr
  refine ⟨o_lengths hr, ?_⟩
  show k_choices_of r cs ∧ _
  refine ⟨o_choices h1 h2, ?_, ?_⟩
  · rw [v_choices]
    exact le_line (by have := chs_bound h1 h2; omega)
  · intro ch hch
    rw [v_choices, mem_chs hc.nodup] at hch
    rw [v_lengths]
    exact o_right (by omega) (leaned_len r) (by omega) (by have := ch_len hr hc hch; omega) hch.rng
theorem v_trans (r : Row) (cs fx : List Int) : s_transversals r cs fx = transM r cs fx := v_trans_in r cs fx
theorem o_trans {r : Row} {cs fx : List Int} (hr : RowV r) (hc : ColsV r cs) (hf : EndsV r fx) : k_transversals r cs fx := ⟨o_need_setting hr hc hf, o_trans_in hr hc (by have := hf.len hr; omega)⟩
theorem trans_bound {r : Row} {cs fx : List Int} (hr : RowV r) (hc : ColsV r cs) : (transM r cs fx).length ≤ 65536 :=
  Nat.le_trans (List.length_filter_le _ _) (chs_bound hr.le (hc.len hr))
/-! ### whether one is a transversal -/
theorem colmap (r : Row) (ch : List Int) : List.map (fun a1 : Int => (atZ r a1).1) ch = ch.map (col r) := rfl
theorem v_cut {r : Row} {cs ch : List Int} (hc : cs.Pairwise (· < ·)) (h : IsCh r cs ch) : s_colours_cut r ch = cs := by
  unfold s_colours_cut
  rw [colmap]
  exact sortZ_uniq tokZ (hc.imp fun h => by rw [dle_int]; simp; omega) h.cut.symm
theorem v_choice_of {r : Row} {cs fx ch : List Int} (hc : cs.Nodup) (h : IsCh r cs ch) : s_is_choice_of r fx ch = rightM r (leanedM r) fx ch := by
  have h1 : s_are_ascending ch ((r.length : Int) - 1) = true := v_ascending h.asc fun x hx => by have := h.rng x hx; omega
  have h2 : (List.foldl (fun acc (a1 : Int) => putZ (atZ r a1).1 true acc) [] (List.filter (fun (a1 : Int) => true) ch)).length = ch.length := by
    rw [filter_true]
    obtain ⟨g1, g2⟩ := putFold_keys (fun a : Int => col r a) (fun _ => true) ch [] (by simp)
    have p := (List.perm_ext_iff_of_nodup g1 (h.cols hc)).mpr fun x => by rw [g2]; simp
    have := p.length_eq
    rw [List.length_map, List.length_map] at this
    exact this
  unfold s_is_choice_of
  rw [h1, h2]
  have : decide ((ch.length : Int) < (ch.length : Int)) = false := by simp
  rw [this, v_lengths, v_right]; rfl
theorem o_choice_of {r : Row} {cs fx ch : List Int} (hr : RowV r) (hc : ColsV r cs) (hf : fx.length ≤ 100) (h : IsCh r cs ch) : k_is_choice_of r fx ch := by
  have hl := ch_len hr hc h
  have h1 := hr.le
  refine ⟨o_ascending (by omega), fun _ => ⟨⟨le_line (by omega), fun j hj => ⟨trivial, fun _ => atOk_in (h.rng j hj).1 (h.rng j hj).2⟩⟩, fun _ => ⟨o_lengths hr, ?_⟩⟩⟩
  rw [v_lengths]
  exact o_right (by omega) (leaned_len r) (by omega) (by omega) h.rng
theorem v_is_trans {r : Row} {cs fx ch : List Int} (hc : cs.Pairwise (· < ·)) (h : IsCh r cs ch) : s_is_transversal r cs fx ch = rightM r (leanedM r) fx ch := by
  unfold s_is_transversal
  rw [v_choice_of (asc_nodup hc) h, v_cut hc h]
  simp
theorem o_is_trans {r : Row} {cs fx ch : List Int} (hr : RowV r) (hc : ColsV r cs) (hf : EndsV r fx) (h : IsCh r cs ch) : k_is_transversal r cs fx ch :=
  ⟨o_need_setting hr hc hf, o_choice_of hr hc (by have := hf.len hr; omega) h, fun _ => ⟨le_line (by have := ch_len hr hc h; omega), fun j hj => atOk_in (h.rng j hj).1 (h.rng j hj).2⟩⟩
/-! ### corners -/
theorem v_corners (r : Row) (cs : List Int) : s_corners_of r cs = (rangeZ 0 (r.length + 1)).flatMap fun e => (transM r cs [e]).map fun ch => (e, ch) := by
  unfold s_corners_of s_corners_in
  simp only [leT_eq]
  have : s_corners_in_l1 r cs = fun st e => st ++ (transM r cs [e]).map fun ch => (e, ch) := by
    funext st e
    unfold s_corners_in_l1 leT
    rw [v_trans_in]
  rw [this, foldl_app]; rfl
theorem corners_bound {r : Row} {cs : List Int} (hr : RowV r) (hc : ColsV r cs) : ∀ l : List Int, (l.flatMap fun e => (transM r cs [e]).map fun ch => (e, ch)).length ≤ l.length * 65536
  | [] => by simp
  | e :: l => by
    rw [List.flatMap_cons, List.length_append, List.length_map, List.length_cons]
    have := corners_bound hr hc l
    have := trans_bound (fx := [e]) hr hc
    omega
theorem corners_line {r : Row} {cs : List Int} (hr : RowV r) (hc : ColsV r cs) : (s_corners_of r cs).length ≤ line := by
  rw [v_corners]
  have := corners_bound hr hc (rangeZ 0 (r.length + 1))
  rw [rangeZ_len] at this
  have := hr.le
  have h2 : ((r.length : Int) + 1 - 0).toNat = r.length + 1 := by omega
  rw [h2] at *
  unfold line
  omega
theorem o_corners {r : Row} {cs : List Int} (hr : RowV r) (hc : ColsV r cs) : k_corners_of r cs := by
  have h1 := hr.le
  have e : s_corners_in_l1 r cs = fun st e => st ++ (transM r cs [e]).map fun ch => (e, ch) := by
    funext st e
    unfold s_corners_in_l1 leT
    rw [v_trans_in]
  refine ⟨o_need_row hr, o_need_colours hr hc, rng_ok (by omega) (by omega), ?_⟩
  rw [e]
  have er : (r.length : Int) + 1 = ((r.length + 1 : Nat) : Int) := by omega
  rw [er]
  refine forOk_range (fun k st => st = (rangeZ 0 k).flatMap fun e => (transM r cs [e]).map fun ch => (e, ch)) (by simp [range_nil]) ?_
  intro i st h0 h2 es
  subst es
  have hb := corners_bound hr hc (rangeZ 0 i)
  rw [rangeZ_len] at hb
  have hb2 := trans_bound (fx := [i]) hr hc
  refine ⟨⟨⟨o_trans_in hr hc (by simp), ?_⟩, ?_⟩, ?_⟩
  · rw [v_trans_in]; exact le_line (by omega)
  · rw [v_trans_in, List.length_map]
    have : (i - 0).toNat ≤ 16 := by omega
    unfold line
    have := Nat.mul_le_mul_right 65536 this
    omega
  · rw [range_snoc h0, List.flatMap_append, List.flatMap_singleton]
theorem corners_at {r : Row} {cs : List Int} {e : Int} (h : 0 ≤ e ∧ e ≤ r.length) : (List.filter (fun a : Int × List Int => decide (a.1 = e)) (s_corners_of r cs)).map (fun a => a.2) = transM r cs [e] := by
  rw [v_corners, range_split (b := e) h.1 (by omega), range_cons (a := e) (by omega), List.flatMap_append, List.flatMap_cons, List.filter_append, List.filter_append]
  have out : ∀ l : List Int, (∀ x ∈ l, x ≠ e) → List.filter (fun a : Int × List Int => decide (a.1 = e)) (l.flatMap fun e => (transM r cs [e]).map fun ch => (e, ch)) = [] := by
    intro l hl
    rw [List.filter_eq_nil_iff]
    intro a ha
    obtain ⟨x, hx, ha⟩ := List.mem_flatMap.mp ha
    obtain ⟨ch, _, rfl⟩ := List.mem_map.mp ha
    simpa using hl x hx
  rw [out _ fun x hx => by rw [mem_range] at hx; omega, out _ fun x hx => by rw [mem_range] at hx; omega, List.filter_eq_self.mpr fun a ha => by
    obtain ⟨ch, _, rfl⟩ := List.mem_map.mp ha
    simp]
  simp [List.map_map, Function.comp_def]
theorem v_turned (r : Row) : s_turned r = r.reverse := rfl
theorem o_turned {r : Row} (hr : RowV r) : k_turned r := o_need_row hr
end Iv

/-! The law's own values: sums by ends, choices, drawn rows. -/
namespace Iv
open PySem
theorem w_many (r : Row) : s_law_many r = many r := rfl
theorem p_many {r : Row} (h : RowV r) : k_law_many r := ⟨le_line (by have := h.le; omega), h.nil⟩
/-! ### leaned -/
theorem w_leaned (r : Row) : s_law_leaned r = leanedM r := by
  rw [← v_lengths]; rfl
theorem p_leaned {r : Row} (h : RowV r) : k_law_leaned r := by
  have := o_lengths h
  exact this
/-! ### choices -/
theorem lawStep (r : Row) : s_law_choices_l1 r = rawStep r := by
  funext st c
  unfold s_law_choices_l1 rawStep
  simp only [leT_eq]
  have : s_law_choices_l2 r c = fun st o => st ++ (nums r c).map fun n => o ++ [n] := by
    funext st o; rfl
  rw [this, foldl_app]; rfl
theorem w_choices (r : Row) (cs : List Int) : s_law_choices r cs = chsM r cs := by
  unfold s_law_choices chsM rawM
  simp only [leT_eq]
  rw [lawStep]
theorem p_choices {r : Row} {cs : List Int} (hr : r.length ≤ 16) (hc : cs.length ≤ 4) : k_law_choices r cs := by
  unfold k_law_choices
  simp only [leT_eq]
  rw [lawStep]
  have pre : forOk (rawStep r) (k_law_choices_l1 r) [[]] cs := by
    rw [forOk_list]
    have hp : ∀ k : Int, 0 ≤ k → k ≤ cs.length → (rawM r (cs.take k.toNat)).length ≤ 65536 := fun k h0 h1 => raw_bound hr (by rw [List.length_take]; omega)
    refine forOk_range (fun k st => st = rawM r (cs.take k.toNat)) (by simp [rawM]) ?_
    intro i st h0 h1 es
    subst es
    have hnext : rawStep r (rawM r (cs.take i.toNat)) (atZ cs i) = rawM r (cs.take (i + 1).toNat) := by
      have : (i + 1).toNat = i.toNat + 1 := by omega
      rw [this]
      have hi : i.toNat < cs.length := by omega
      rw [List.take_succ_eq_append_getElem hi]
      unfold rawM
      rw [List.foldl_append, atZ_in h0 h1]; rfl
    refine ⟨?_, hnext⟩
    unfold k_law_choices_l1
    simp only [leT_eq]
    have e2 : s_law_choices_l2 r (atZ cs i) = fun st o => st ++ (nums r (atZ cs i)).map fun n => o ++ [n] := by
      funext st o; rfl
    rw [e2]
    have hb := hp i h0 (by omega)
    have hlen : ∀ o ∈ rawM r (cs.take i.toNat), o.length ≤ 4 := by
      intro o ho
      obtain ⟨h2, _⟩ := mem_raw.mp ho
      have := congrArg List.length h2
      simp only [List.length_map, List.length_take] at this
      omega
    generalize rawM r (cs.take i.toNat) = R at hb hlen
    rw [forOk_list]
    have hn := nums_len r (atZ cs i)
    refine forOk_range (fun k st => st.length ≤ k.toNat * 16) (by simp) ?_
    intro k st g0 g1 hs
    refine ⟨⟨⟨rng_ok (by omega) (by omega), le_line (by rw [rangeZ_len]; omega), fun n hn => ⟨?_, fun _ => ?_⟩⟩, ?_⟩, ?_⟩
    · rw [mem_range] at hn; exact atOk_in hn.1 hn.2
    · have := hlen _ (atZ_mem g0 g1)
      exact le_line (by simp only [List.length_singleton]; omega)
    · have : (List.filter (fun (a11 : Int) => (decide ((atZ r a11).1 = atZ cs i))) (rangeZ 0 (r.length : Int))).length ≤ 16 := Nat.le_trans hn hr
      rw [List.length_map]
      unfold line
      have : k.toNat * 16 ≤ 65536 * 16 := Nat.mul_le_mul_right _ (by omega)
      omega
    · simp only [List.length_append, List.length_map]
      have : (k + 1).toNat = k.toNat + 1 := by omega
      rw [this, Nat.add_mul]; omega
  refine ⟨pre, le_line (by have := raw_bound hr hc; unfold rawM at this; omega), ?_⟩
  refine sortOk_same (n := cs.length) ?_ ?_
  · intro o ho
    obtain ⟨o', ho', rfl⟩ := List.mem_map.mp ho
    obtain ⟨h1, _⟩ := mem_raw.mp ho'
    rw [sortZ_len, ← h1, List.length_map]
  · intro h0
    have : cs = [] := List.length_eq_zero_iff.mp h0
    subst this
    simp
/-! ### sums by ends -/
theorem sum_one {f : Int → Int} {l : List Int} (hn : l.Nodup) (e : Int) : (l.map fun n => if n = e then f n else 0).sum = if e ∈ l then f e else 0 := by
  by_cases h : e ∈ l
  · rw [sum_split (f := fun n => if n = e then f n else 0) hn h, if_pos h]
    have : ((l.filter fun n => !decide (n = e)).map fun n => if n = e then f n else 0).sum = 0 := by
      rw [show ((l.filter fun n => !decide (n = e)).map fun n => if n = e then f n else 0) = (l.filter fun n => !decide (n = e)).map fun _ => (0 : Int) from ?_, sum_map_zero]
      apply List.map_congr_left
      intro n hn
      rw [List.mem_filter] at hn
      have : n ≠ e := by simpa using hn.2
      rw [if_neg this]
    rw [this, if_pos rfl]; omega
  · rw [if_neg h, show (l.map fun n => if n = e then f n else 0) = l.map fun _ => (0 : Int) from ?_, sum_map_zero]
    apply List.map_congr_left
    intro n hn
    have : n ≠ e := fun q => h (q ▸ hn)
    rw [if_neg this]
theorem preS_zero (r : Row) (ls : List Int) (c : Int) : preS r ls c 0 = 0 := by
  unfold preS
  rw [show ((nums r c).map fun n => atZ ls n * (if n < 0 then 1 else 0)) = (nums r c).map fun _ => (0 : Int) from ?_, sum_map_zero]
  apply List.map_congr_left
  intro n hn
  have := (mem_nums.mp hn).1
  rw [if_neg (by omega), Int.mul_zero]
theorem preS_all (r : Row) (ls : List Int) (c : Int) : preS r ls c r.length = ((nums r c).map fun n => atZ ls n).sum := by
  unfold preS
  apply sum_congr
  intro n hn
  have := (mem_nums.mp hn).1
  rw [if_pos (by omega), Int.mul_one]
theorem preS_succ {r : Row} {ls : List Int} {c e : Int} (h0 : 0 ≤ e) (h1 : e < r.length) : preS r ls c (e + 1) = preS r ls c e + if col r e = c then atZ ls e else 0 := by
  have : (if col r e = c then atZ ls e else 0) = ((nums r c).map fun n => if n = e then atZ ls n else 0).sum := by
    rw [sum_one (f := fun n => atZ ls n) (asc_nodup (nums_asc r c))]
    by_cases h : col r e = c
    · rw [if_pos h, if_pos (mem_nums.mpr ⟨⟨h0, h1⟩, h⟩)]
    · rw [if_neg h, if_neg fun hm => h (mem_nums.mp hm).2]
  rw [this]
  unfold preS
  rw [← sum_map_add]
  apply sum_congr
  intro n _
  by_cases a : n < e
  · rw [if_pos (by omega), if_pos a, if_neg (by omega)]; omega
  · by_cases b : n = e
    · rw [if_pos (by omega), if_neg a, if_pos b]; omega
    · rw [if_neg (by omega), if_neg a, if_neg b]; omega
def vecS (r : Row) (ls : List Int) (e : Int) : List Int := (rangeZ 0 (many r)).map fun c => preS r ls c e
theorem vecS_len {r : Row} (ls : List Int) (e : Int) : (vecS r ls e).length = (many r).toNat := by simp [vecS, rangeZ_len]
theorem vecS_at {r : Row} (ls : List Int) (e : Int) {c : Int} (h0 : 0 ≤ c) (h1 : c < many r) : atZ (vecS r ls e) c = preS r ls c e := by
  unfold vecS
  rw [atZ_map (fun c => preS r ls c e) h0 (by rw [rangeZ_len]; omega), atZ_range h0 (by omega)]
  simp
theorem vecS_step {r : Row} {ls : List Int} (hr : RowV r) {e : Int} (h0 : 0 ≤ e) (h1 : e < r.length) : setZ (vecS r ls e) (col r e) (atZ (vecS r ls e) (col r e) + atZ ls e) = vecS r ls (e + 1) := by
  have hc := hr.col h0 h1
  apply list_ext_at
  · rw [setZ_len, vecS_len, vecS_len]
  · intro c g0 g1
    rw [setZ_len, vecS_len] at g1
    rw [atZ_set _ hc.1 (by rw [vecS_len]; omega) g0 (by rw [vecS_len]; omega), vecS_at _ _ g0 (by omega), vecS_at _ _ hc.1 hc.2, vecS_at _ _ g0 (by omega), preS_succ h0 h1]
    by_cases h : col r e = c
    · rw [if_pos h, if_pos h, h]
    · rw [if_neg h, if_neg h]; omega
def sumsM (r : Row) (ls : List Int) : List (List Int) := (rangeZ 0 (r.length + 1)).map (vecS r ls)
theorem zip_eq {α β : Type} [Inhabited α] [Inhabited β] {xs : List α} {ys : List β} (h : ys.length = xs.length) : List.zip xs ys = (rangeZ 0 xs.length).map fun i => (atZ xs i, atZ ys i) := by
  apply list_ext_at
  · rw [List.length_zip, List.length_map, rangeZ_len]; omega
  · intro i h0 h1
    rw [List.length_zip] at h1
    rw [atZ_map (fun i => (atZ xs i, atZ ys i)) h0 (by rw [rangeZ_len]; omega), atZ_range h0 (by omega), atZ_in h0 (by rw [List.length_zip]; omega), List.getElem_zip, Int.zero_add, atZ_in h0 (by omega), atZ_in h0 (by omega)]
theorem sums_fold {r : Row} {ls : List Int} (hr : RowV r) (hl : ls.length = r.length) : List.foldl s_law_st_sums_l1 ([], vecS r ls 0) (List.zip r ls) = ((rangeZ 0 r.length).map (vecS r ls), vecS r ls r.length) := by
  rw [zip_eq hl, List.foldl_map]
  refine foldl_range (fun k st => st = ((rangeZ 0 k).map (vecS r ls), vecS r ls k)) (by simp [range_nil]) ?_
  intro i st h0 h1 es
  subst es
  unfold s_law_st_sums_l1
  simp only [leT_eq]
  rw [range_snoc h0, List.map_append]
  have := vecS_step (ls := ls) hr h0 h1
  unfold col at this
  rw [this]; rfl
theorem vec0 (r : Row) (ls : List Int) : repZ [0] (many r) = vecS r ls 0 := by
  apply list_ext_at
  · rw [repZ_one, List.length_replicate, vecS_len]
  · intro c h0 h1
    rw [repZ_one, List.length_replicate] at h1
    rw [atZ_rep _ h0 (by omega), vecS_at _ _ h0 (by omega), preS_zero]
theorem w_sums {r : Row} {ls : List Int} (hr : RowV r) (hl : ls.length = r.length) : s_law_st_sums r ls = sumsM r ls := by
  unfold s_law_st_sums
  simp only [leT_eq]
  rw [w_many, vec0 r ls, sums_fold hr hl]
  unfold sumsM
  rw [range_snoc (by omega), List.map_append]; rfl
theorem p_sums {r : Row} {ls : List Int} (hr : RowV r) (hl : ls.length = r.length) : k_law_st_sums r ls := by
  have hm := hr.many
  have h16 := hr.le
  unfold k_law_st_sums
  simp only [leT_eq]
  rw [w_many, vec0 r ls, sums_fold hr hl]
  refine ⟨⟨p_many hr, by unfold big; omega, by unfold big; omega, by decide, le_line (by simp; omega)⟩, ?_, le_line (by simp [rangeZ_len]; omega)⟩
  rw [zip_eq hl, forOk_map]
  refine forOk_range (fun k st => st = ((rangeZ 0 k).map (vecS r ls), vecS r ls k)) (by simp [range_nil]) ?_
  intro i st h0 h1 es
  subst es
  have hc := hr.col h0 h1
  have hok : atOk (vecS r ls i) (atZ r i).1 := atOk_in hc.1 (by rw [vecS_len]; have := hc.2; unfold col at this; omega)
  refine ⟨⟨lt_line (by simp [rangeZ_len]; omega), hok, hok⟩, ?_⟩
  unfold s_law_st_sums_l1
  simp only [leT_eq]
  rw [range_snoc h0, List.map_append]
  have := vecS_step (ls := ls) hr h0 h1
  unfold col at this
  rw [this]; rfl
theorem sums_at {r : Row} {ls : List Int} {e c : Int} (h0 : 0 ≤ e) (h1 : e ≤ r.length) (g0 : 0 ≤ c) (g1 : c < many r) : atZ (atZ (sumsM r ls) e) c = preS r ls c e := by
  unfold sumsM
  rw [atZ_map (vecS r ls) h0 (by rw [rangeZ_len]; omega), atZ_range h0 (by omega), Int.zero_add, vecS_at _ _ g0 g1]
theorem sums_len (r : Row) (ls : List Int) : (sumsM r ls).length = r.length + 1 := by simp [sumsM, rangeZ_len]
theorem sums_last {r : Row} {ls : List Int} {c : Int} (g0 : 0 ≤ c) (g1 : c < many r) : atZ (atZ (sumsM r ls) (-1)) c = preS r ls c r.length := by
  unfold sumsM
  rw [range_snoc (by omega), List.map_append, List.map_cons, List.map_nil, atZ_last, vecS_at _ _ g0 g1]
/-! ### offsets by sums -/
theorem cond_sg (k : Nat) : (bif decide (((k : Int) % 2) = 0) then (1 : Int) else -1) = sg k := by
  unfold sg
  by_cases h : k % 2 = 0
  · have : decide (((k : Int) % 2) = 0) = true := by simp; omega
    rw [if_pos h, this]; rfl
  · have : decide (((k : Int) % 2) = 0) = false := by simp; omega
    rw [if_neg h, this]; rfl
theorem cond_sg1 (k : Nat) : (bif decide (((k : Int) % 2) = 1) then (1 : Int) else -1) = -sg k := by
  unfold sg
  by_cases h : k % 2 = 0
  · have : decide (((k : Int) % 2) = 1) = false := by simp; omega
    rw [if_pos h, this]; rfl
  · have : decide (((k : Int) % 2) = 1) = true := by simp; omega
    rw [if_neg h, this]; rfl
/-- what is found at a mark that is a chosen piece -/
def offV (r : Row) (ls fx ch : List Int) (place j : Int) : Int := (-sg (fx.length + ch.length) * preS r ls (col r j) r.length - altZ (fun x : Int × Int => 2 * preS r ls (col r j) x.1) (marksM fx ch)) * (bif decide ((place % 2) = 0) then 1 else -1)
theorem marks_in {r : Row} {fx ch : List Int} (h1 : ∀ a ∈ fx, 0 ≤ a ∧ a ≤ r.length) (h2 : ∀ a ∈ ch, 0 ≤ a ∧ a < r.length) {x : Int × Int} (h : x ∈ marksM fx ch) : 0 ≤ x.1 ∧ x.1 ≤ r.length ∧ (x.2 = 1 → x.1 ∈ ch) := by
  rw [(marks_perm fx ch).mem_iff, List.mem_append] at h
  rcases h with h | h
  · obtain ⟨a, ha, rfl⟩ := List.mem_map.mp h
    have := h1 a ha
    exact ⟨this.1, this.2, fun e => by simp at e⟩
  · obtain ⟨a, ha, rfl⟩ := List.mem_map.mp h
    have := h2 a ha
    exact ⟨this.1, by simp only; omega, fun _ => ha⟩
theorem mem_enum {α : Type} {x : Int × α} : ∀ {l : List α} {k : Nat}, x ∈ enumZ k l → x.2 ∈ l ∧ ∃ n : Nat, x.1 = n
  | a :: l, k, h => by
    rw [enumZ, List.mem_cons] at h
    rcases h with rfl | h
    · exact ⟨List.mem_cons_self .., k, rfl⟩
    · obtain ⟨h1, h2⟩ := mem_enum h
      exact ⟨List.mem_cons_of_mem _ h1, h2⟩
theorem off_step {r : Row} {ls fx ch : List Int} (hr : RowV r) (h1 : ∀ a ∈ fx, 0 ≤ a ∧ a ≤ r.length) (h2 : ∀ a ∈ ch, 0 ≤ a ∧ a < r.length) (st : List (Int × Int)) {x : Int × Int × Int} (hx : x ∈ enumZ 0 (marksM fx ch)) :
    s_law_st_offsets_l1 r (sumsM r ls) (marksM fx ch) (-sg (fx.length + ch.length)) st x = if x.2.2 = 1 then putZ x.2.1 (offV r ls fx ch x.1 x.2.1) st else st := by
  unfold s_law_st_offsets_l1
  simp only [leT_eq]
  by_cases hk : x.2.2 = 1
  · have hm := marks_in h1 h2 (mem_enum hx).1
    have hch := h2 _ (hm.2.2 hk)
    have hc := hr.col hch.1 hch.2
    have e : (List.map (fun (a12 : Int × Int × Int) => (((2 : Int) * (atZ (atZ (sumsM r ls) a12.2.1) (atZ r x.2.1).1)) * (bif decide ((a12.1 % (2 : Int)) = (0 : Int)) then (1 : Int) else (-(1 : Int))))) (enumZ 0 (marksM fx ch))).sum = altZ (fun y : Int × Int => 2 * preS r ls (col r x.2.1) y.1) (marksM fx ch) := by
      have := alt_enum (fun y : Int × Int => 2 * preS r ls (col r x.2.1) y.1) (fun p => bif decide ((p % (2 : Int)) = (0 : Int)) then (1 : Int) else (-(1 : Int))) (fun k => cond_sg k) (marksM fx ch) 0
      rw [show sg 0 = 1 from rfl, Int.one_mul] at this
      rw [← this]
      apply sum_congr
      intro y hy
      have hym := marks_in h1 h2 (mem_enum hy).1
      rw [show (atZ r x.2.1).1 = col r x.2.1 from rfl, sums_at hym.1 hym.2.1 hc.1 hc.2]
    rw [e]
    have hk' : decide (x.2.2 = 1) = true := by simp [hk]
    rw [hk', if_pos hk, show (atZ r x.2.1).1 = col r x.2.1 from rfl, sums_last hc.1 hc.2]
    rfl
  · have hk' : decide (x.2.2 = 1) = false := by simp [hk]
    rw [hk', if_neg hk]; rfl
theorem enum_app {α : Type} : ∀ (a b : List α) (k : Nat), enumZ k (a ++ b) = enumZ k a ++ enumZ (k + a.length) b
  | [], b, k => by simp [enumZ]
  | x :: a, b, k => by
    simp only [List.cons_append, enumZ, enum_app a b (k + 1), List.length_cons]
    have : k + 1 + a.length = k + (a.length + 1) := by omega
    rw [this]
theorem foldl_congr {σ α : Type} {f g : σ → α → σ} : ∀ {l : List α} {st : σ}, (∀ st a, a ∈ l → f st a = g st a) → l.foldl f st = l.foldl g st
  | [], _, _ => rfl
  | a :: l, st, h => by
    rw [List.foldl_cons, List.foldl_cons, h st a (List.mem_cons_self ..)]
    exact foldl_congr fun st b hb => h st b (List.mem_cons_of_mem _ hb)
theorem look_fold (V : Int → Int → Int) (j : Int) : ∀ (l : List (Int × Int × Int)) (st : List (Int × Int)), (∀ x ∈ l, x.2.2 = 1 → x.2.1 ≠ j) → lookZ (l.foldl (fun st x => if x.2.2 = 1 then putZ x.2.1 (V x.1 x.2.1) st else st) st) j = lookZ st j
  | [], st, _ => rfl
  | x :: l, st, h => by
    rw [List.foldl_cons, look_fold V j l _ fun y hy => h y (List.mem_cons_of_mem _ hy)]
    split
    · rename_i hk
      rw [lookZ_put, if_neg (h x (List.mem_cons_self ..) hk)]
    · rfl
theorem w_offsets {r : Row} {ls fx ch : List Int} (hr : RowV r) (hl : ls.length = r.length) (hf : fx.Nodup) (h1 : ∀ a ∈ fx, 0 ≤ a ∧ a ≤ r.length) (hn : ch.Nodup) (h2 : ∀ a ∈ ch, 0 ≤ a ∧ a < r.length) (hc : (ch.map (col r)).Nodup) {j : Int} (hj : j ∈ ch) :
    lookZ (s_law_st_offsets r ls fx ch) j = some (offM r ls fx ch j) := by
  unfold s_law_st_offsets
  simp only [leT_eq]
  rw [w_sums hr hl]
  show lookZ (List.foldl (s_law_st_offsets_l1 r (sumsM r ls) (marksM fx ch) (bif decide ((((marksM fx ch).length : Int) % 2) = 1) then (1 : Int) else -1)) [] (enumZ 0 (marksM fx ch))) j = _
  rw [cond_sg1, marks_len, foldl_congr fun st x hx => off_step hr h1 h2 st hx]
  have hm : (j, (1 : Int)) ∈ marksM fx ch := by
    rw [(marks_perm fx ch).mem_iff, List.mem_append]
    exact .inr (List.mem_map.mpr ⟨j, hj, rfl⟩)
  obtain ⟨A, B, hAB⟩ := List.append_of_mem hm
  have hnd : (marksM fx ch).Nodup := by
    rw [(marks_perm fx ch).nodup_iff, List.nodup_append]
    refine ⟨?_, ?_, ?_⟩
    · unfold List.Nodup; rw [List.pairwise_map]; exact hf.imp fun hne e => hne (by simpa using e)
    · unfold List.Nodup; rw [List.pairwise_map]; exact hn.imp fun hne e => hne (by simpa using e)
    · intro x hx y hy e
      obtain ⟨a, _, rfl⟩ := List.mem_map.mp hx
      obtain ⟨b, _, rfl⟩ := List.mem_map.mp hy
      simp at e
  have hspot := marks_spot (fx := []) (ch := []) hf hn hAB
  have hB : ∀ x ∈ enumZ (0 + (A.length + 1)) B, x.2.2 = 1 → x.2.1 ≠ j := by
    intro x hx e1 e2
    have := (mem_enum hx).1
    rw [hAB, List.nodup_append, List.nodup_cons] at hnd
    exact hnd.2.1.1 (by
      have : x.2 = (j, 1) := Prod.ext e2 e1
      rw [← this]; exact (mem_enum hx).1)
  have e1 : enumZ 0 (marksM fx ch) = enumZ 0 A ++ (((A.length : Nat) : Int), (j, (1 : Int))) :: enumZ (0 + (A.length + 1)) B := by
    rw [hAB, enum_app, enumZ]
    simp only [Nat.zero_add]
  rw [e1, List.foldl_append, List.foldl_cons, look_fold (offV r ls fx ch) j _ _ hB]
  simp only [if_true]
  rw [lookZ_put, if_pos rfl]
  unfold offV
  rw [cond_sg, hspot, preS_all]
  have := off_eq (ls := ls) (fx := fx) hn hc hj (h2 j hj)
  rw [show sg (cLe fx j + cLt ch j) = sgn fx ch j from rfl, this]
theorem small_cond (b : Bool) : small (bif b then (1 : Int) else -1) = true := by cases b <;> decide
theorem small_sg (k : Nat) : small (sg k) = true := by rcases sg_pm k with h | h <;> rw [h] <;> decide
theorem p_offsets {r : Row} {ls fx ch : List Int} (hr : RowV r) (hl : ls.length = r.length) (hf : fx.length ≤ 100) (h1 : ∀ a ∈ fx, 0 ≤ a ∧ a ≤ r.length) (hcl : ch.length ≤ 100) (h2 : ∀ a ∈ ch, 0 ≤ a ∧ a < r.length) : k_law_st_offsets r ls fx ch := by
  unfold k_law_st_offsets
  simp only [leT_eq]
  rw [w_sums hr hl]
  refine ⟨p_sums hr hl, ⟨⟨le_line (by omega), le_line (by omega)⟩, le_line (by simp; omega)⟩, ?_⟩
  show forOk (s_law_st_offsets_l1 r (sumsM r ls) (marksM fx ch) (bif decide ((((marksM fx ch).length : Int) % 2) = 1) then (1 : Int) else -1)) (k_law_st_offsets_l1 r (sumsM r ls) (marksM fx ch) (bif decide ((((marksM fx ch).length : Int) % 2) = 1) then (1 : Int) else -1)) [] (enumZ 0 (marksM fx ch))
  rw [cond_sg1, marks_len]
  have hml := marks_len fx ch
  have key : ∀ (l : List (Int × Int × Int)) (st : List (Int × Int)), (∀ x ∈ l, x ∈ enumZ 0 (marksM fx ch)) → st.length + l.length ≤ 1000 → forOk (s_law_st_offsets_l1 r (sumsM r ls) (marksM fx ch) (-sg (fx.length + ch.length))) (k_law_st_offsets_l1 r (sumsM r ls) (marksM fx ch) (-sg (fx.length + ch.length))) st l := by
    intro l
    induction l with
    | nil => intro _ _ _; trivial
    | cons x l ih =>
      intro st hx hs
      rw [List.length_cons] at hs
      refine ⟨fun hk => ?_, ih _ (fun y hy => hx y (List.mem_cons_of_mem _ hy)) ?_⟩
      · have hk : x.2.2 = 1 := by simpa using hk
        have hm := marks_in h1 h2 (mem_enum (hx x (List.mem_cons_self ..))).1
        have hch := h2 _ (hm.2.2 hk)
        have hc := hr.col hch.1 hch.2
        have hv : ∀ e : Int, 0 ≤ e → e ≤ r.length → atOk (atZ (sumsM r ls) e) (col r x.2.1) := fun e a b => by
          have : atZ (sumsM r ls) e = vecS r ls e := by
            unfold sumsM
            rw [atZ_map (vecS r ls) a (by rw [rangeZ_len]; omega), atZ_range a (by omega), Int.zero_add]
          rw [this]
          exact atOk_in hc.1 (by rw [vecS_len]; omega)
        have hv' : atOk (atZ (sumsM r ls) (-1)) (col r x.2.1) := by
          have : atZ (sumsM r ls) (-1) = vecS r ls r.length := by
            unfold sumsM
            rw [range_snoc (by omega), List.map_append, List.map_cons, List.map_nil, atZ_last]
          rw [this]
          exact atOk_in hc.1 (by rw [vecS_len]; omega)
        have hcs : ∀ b : Bool, mulOk 1 1 → small (bif b then (1 : Int) else (-(1 : Int))) = true := fun b _ => small_cond b
        simp only [leT_eq]
        refine ⟨atOk_in hch.1 hch.2, ⟨le_line (by rw [enumZ_len]; omega), fun y hy => ?_⟩, ⟨⟨⟨atOk_last (by intro e; have := sums_len r ls; rw [e] at this; simp at this), hv'⟩, ?_⟩, ?_⟩, lt_line (by omega)⟩
        · have hym := marks_in h1 h2 (mem_enum hy).1
          refine ⟨⟨atOk_in hym.1 (by rw [sums_len]; omega), hv _ hym.1 hym.2.1⟩, ?_⟩
          unfold mulOk
          rw [small_cond, Bool.or_true]
        · unfold mulOk
          have : small (-sg (fx.length + ch.length)) = true := by rcases sg_pm (fx.length + ch.length) with h | h <;> rw [h] <;> decide
          rw [this]; rfl
        · unfold mulOk
          rw [small_cond, Bool.or_true]
      · rw [off_step hr h1 h2 st (hx x (List.mem_cons_self ..))]
        split
        · have := putZ_len x.2.1 (offV r ls fx ch x.1 x.2.1) st
          omega
        · omega
  exact key _ _ (fun _ h => h) (by rw [enumZ_len, hml]; simp; omega)
/-! ### transversals by sums -/
theorem w_is {r : Row} {cs fx ch : List Int} (hr : RowV r) (hcs : cs.Nodup) (hf : EndsV r fx) (h : IsCh r cs ch) : s_law_st_is r fx ch = rightM r (leanedM r) fx ch := by
  unfold s_law_st_is
  simp only [leT_eq]
  rw [w_leaned]
  apply Bool.eq_iff_iff.mpr
  rw [right_iff, decide_eq_true_eq, List.map_eq_nil_iff, List.filter_eq_nil_iff]
  apply forall_congr'
  intro j
  apply forall_congr'
  intro hj
  rw [w_offsets hr (leaned_len r) hf.nodup hf.rng (asc_nodup h.asc) h.rng (h.cols hcs) hj, Option.getD_some, ← off_right]
  simp only [Bool.not_eq_true', Bool.and_eq_false_imp, decide_eq_true_eq, decide_eq_false_iff_not]
  omega
theorem p_is {r : Row} {cs fx ch : List Int} (hr : RowV r) (hc : ColsV r cs) (hf : EndsV r fx) (h : IsCh r cs ch) : k_law_st_is r fx ch := by
  unfold k_law_st_is
  simp only [leT_eq]
  rw [w_leaned]
  have hl := ch_len hr hc h
  refine ⟨p_leaned hr, p_offsets hr (leaned_len r) (by have := hf.len hr; omega) hf.rng (by omega) h.rng, le_line (by omega), fun j hj => ⟨?_, fun _ => atOk_in (h.rng j hj).1 (by rw [leaned_len]; exact (h.rng j hj).2)⟩⟩
  rw [w_offsets hr (leaned_len r) hf.nodup hf.rng (asc_nodup h.asc) h.rng (h.cols hc.nodup) hj]; rfl
theorem w_all {r : Row} {cs fx : List Int} (hr : RowV r) (hcs : cs.Nodup) (hf : EndsV r fx) : s_law_st_all r cs fx = transM r cs fx := by
  unfold s_law_st_all transM
  rw [map_id_filter, w_choices]
  apply List.filter_congr
  intro ch hch
  exact w_is hr hcs hf ((mem_chs hcs).mp hch)
theorem p_all {r : Row} {cs fx : List Int} (hr : RowV r) (hc : ColsV r cs) (hf : EndsV r fx) : k_law_st_all r cs fx := by
  refine ⟨p_choices hr.le (hc.len hr), ?_, fun ch hch => ?_⟩
  · rw [w_choices]; exact le_line (by have := chs_bound (cs := cs) hr.le (hc.len hr); omega)
  · rw [w_choices, mem_chs hc.nodup] at hch
    exact p_is hr hc hf hch
end Iv

/-! Drawn rows. -/
namespace Iv
open PySem
/-- draws: so many at most have been -/
def Tn (w : DW) (n : Int) : Prop := 0 ≤ w.turn ∧ w.turn ≤ n
theorem Tn.mono {w : DW} {a b : Int} (h : Tn w a) (hab : a ≤ b) : Tn w b := ⟨h.1, by have := h.2; omega⟩
theorem Tn.draw {w : DW} {n : Int} (h : Tn w n) (room : Int) : Tn (drawF w room).2 (n + 1) := by
  have h1 := draw_turn w room
  have h2 := h.1
  have h3 := h.2
  exact ⟨by omega, by omega⟩
theorem Tn.ok {w : DW} {n room : Int} (h : Tn w n) (hn : n < 1000000000) (h0 : 0 < room) (h1 : room ≤ 1000000000000000) : drwOk w room := by
  have h2 := h.1
  have h3 := h.2
  exact ⟨h2, by omega, h0, by omega⟩
theorem Tn.shuf {α : Type} {w : DW} {n : Int} (h : Tn w n) (l : List α) : Tn (shufZ l w).2 (n + l.length) := by
  have h1 := shufZ_turn l w
  have h2 := h.1
  have h3 := h.2
  exact ⟨by omega, by omega⟩
theorem Tn.shok {α : Type} {w : DW} {n : Int} (h : Tn w n) (hn : n < 1000000000) {l : List α} (hl : l.length ≤ 900) : shufOk l w := by
  have h2 := h.1
  have h3 := h.2
  exact ⟨h2, by omega, hl⟩
theorem mapW_turn {α β : Type} {g : α → DW → β × DW} (hg : ∀ a w, w.turn ≤ (g a w).2.turn ∧ (g a w).2.turn ≤ w.turn + 1) : ∀ (l : List α) (w : DW), w.turn ≤ (mapW g l w).2.turn ∧ (mapW g l w).2.turn ≤ w.turn + l.length
  | [], w => by simp [mapW]
  | a :: l, w => by
    have h1 := hg a w
    have h2 := mapW_turn hg l (g a w).2
    simp only [mapW, List.length_cons]
    omega
theorem Tn.map {α β : Type} {w : DW} {n : Int} (h : Tn w n) {g : α → DW → β × DW} (hg : ∀ a w, w.turn ≤ (g a w).2.turn ∧ (g a w).2.turn ≤ w.turn + 1) (l : List α) : Tn (mapW g l w).2 (n + l.length) := by
  have h1 := mapW_turn hg l w
  have h2 := h.1
  have h3 := h.2
  exact ⟨by omega, by omega⟩
theorem mapW_ok {α β : Type} {g : α → DW → β × DW} {ok : α → DW → Prop} (hg : ∀ a w, w.turn ≤ (g a w).2.turn ∧ (g a w).2.turn ≤ w.turn + 1) : ∀ (l : List α) (w : DW) (n : Int), Tn w n → n + l.length < 1000000000 → (∀ a ∈ l, ∀ w n, Tn w n → n < 1000000000 → ok a w) → mapWOk g ok l w
  | [], _, _, _, _, _ => trivial
  | a :: l, w, n, h, hn, ho => by
    rw [List.length_cons] at hn
    refine ⟨ho a (List.mem_cons_self ..) w n h (by omega), mapW_ok hg l _ (n + 1) ?_ (by omega) fun b hb => ho b (List.mem_cons_of_mem _ hb)⟩
    have h1 := hg a w
    have h2 := h.1
    have h3 := h.2
    exact ⟨by omega, by omega⟩
theorem mapW_of {α β : Type} {g : α → DW → β × DW} : ∀ {l : List α} {w : DW} {x : β}, x ∈ (mapW g l w).1 → ∃ a ∈ l, ∃ w', x = (g a w').1
  | a :: l, w, x, h => by
    simp only [mapW, List.mem_cons] at h
    rcases h with rfl | h
    · exact ⟨a, List.mem_cons_self .., w, rfl⟩
    · obtain ⟨b, hb, w', e⟩ := mapW_of h
      exact ⟨b, List.mem_cons_of_mem _ hb, w', e⟩
theorem mapW_to {α β : Type} {g : α → DW → β × DW} : ∀ {l : List α} {w : DW} {a : α}, a ∈ l → ∃ w', (g a w').1 ∈ (mapW g l w).1
  | b :: l, w, a, h => by
    simp only [mapW, List.mem_cons]
    rcases List.mem_cons.mp h with rfl | h
    · exact ⟨w, .inl rfl⟩
    · obtain ⟨w', h'⟩ := mapW_to (w := (g b w).2) h
      exact ⟨w', .inr h'⟩
theorem draw_le (w : DW) {room : Int} (h : 0 < room) : 0 ≤ (drawF w room).1 ∧ (drawF w room).1 ≤ room - 1 := by
  have := draw_range w h
  omega
/-- colours as they are drawn: each one of a row's, all of them -/
structure DrC (cs : List Int) (n k : Int) : Prop where
  len : (cs.length : Int) = k
  rng : ∀ c ∈ cs, 0 ≤ c ∧ c < n
  all : ∀ c, 0 ≤ c → c < n → c ∈ cs
theorem rowV_of {cs : List Int} {n k : Int} (h : DrC cs n k) (hn : 1 ≤ n ∧ n ≤ 4) (hk : n ≤ k ∧ k ≤ 16) {r : Row} (hr : r.map (·.1) = cs) (hl : ∀ x ∈ r, 1 ≤ x.2 ∧ x.2 ≤ 1000000000000) : RowV r ∧ many r = n ∧ (r.length : Int) = k := by
  have hlen : r.length = cs.length := by rw [← hr, List.length_map]
  have hkl := h.len
  have hne : r.map (fun x => x.1) ≠ [] := by
    intro e
    have := congrArg List.length e
    simp only [List.length_map, List.length_nil] at this
    omega
  have hm : many r = n := by
    obtain ⟨g1, g2⟩ := maxZ_spec hne
    have e : r.map (fun x => x.1) = cs := hr
    rw [e] at g1 g2
    have h1 := (h.rng _ g1).2
    have h2 := g2 (n - 1) (h.all _ (by omega) (by omega))
    unfold many
    rw [e]; omega
  refine ⟨⟨by omega, by omega, fun x hx => ?_, hl, fun c c0 c1 => ?_⟩, hm, by omega⟩
  · have := h.rng x.1 (hr ▸ List.mem_map_of_mem hx)
    omega
  · rw [hm] at c1
    have := h.all c c0 c1
    rw [← hr] at this
    obtain ⟨x, hx, e⟩ := List.mem_map.mp this
    exact ⟨x, hx, e⟩
theorem condP {α β : Type} (b : Bool) (x y : α × β) : ((bif b then x else y).1, (bif b then x else y).2) = bif b then x else y := by cases b <;> rfl
abbrev gC (n : Int) : Int → DW → Int × DW := fun a w => bif decide (a < n) then (a, w) else ((drawF w n).1, (drawF w n).2)
theorem gC_turn (n a : Int) (w : DW) : w.turn ≤ (gC n a w).2.turn ∧ (gC n a w).2.turn ≤ w.turn + 1 := by
  unfold gC
  cases decide (a < n) with
  | true => simp only [cond_true]; omega
  | false => exact draw_turn w n
theorem gC_spec {n a : Int} (w : DW) (h0 : 0 ≤ a) (hn : 0 < n) : (0 ≤ (gC n a w).1 ∧ (gC n a w).1 < n) ∧ (a < n → (gC n a w).1 = a) := by
  unfold gC
  by_cases h : a < n
  · rw [decide_eq_true h]; exact ⟨⟨h0, h⟩, fun _ => rfl⟩
  · rw [decide_eq_false h]; exact ⟨draw_range w hn, fun q => absurd q h⟩
abbrev gL (room : Int) : Int → DW → (Int × Int) × DW := fun a w => ((a, 1 + (drawF w room).1), (drawF w room).2)
theorem gL_turn (room a : Int) (w : DW) : w.turn ≤ (gL room a w).2.turn ∧ (gL room a w).2.turn ≤ w.turn + 1 := draw_turn w room
theorem gL_map (room : Int) : ∀ (l : List Int) (w : DW), ((mapW (gL room) l w).1).map (·.1) = l
  | [], _ => rfl
  | a :: l, w => by
    simp only [mapW, List.map_cons]
    rw [gL_map room l]
abbrev rooms : List Int := [1, 2, 5, 20, 1000000, 1000000000000]
/-- a drawn row is one -/
theorem st_row {w : DW} {pieces most t : Int} (hm : 1 ≤ most ∧ most ≤ 4) (hp : most ≤ pieces ∧ pieces ≤ 16) (ht : Tn w t) (hb : t < 900000000) :
    k_law_st_row w pieces most ∧ RowV (s_law_st_row w pieces most).1 ∧ (((s_law_st_row w pieces most).1.length : Int) ≤ pieces) ∧ many (s_law_st_row w pieces most).1 ≤ most ∧ Tn (s_law_st_row w pieces most).2 (t + 100) := by
  unfold k_law_st_row s_law_st_row s_law_pick k_law_pick
  simp only [leT_eq, condP]
  have d1 := draw_le w (room := most) (by omega)
  have t1 := ht.draw most
  generalize hn : 1 + (drawF w most).1 = n at *
  generalize (drawF w most).2 = w1 at *
  have d2 := draw_le w1 (room := pieces - n + 1) (by omega)
  have t2 := t1.draw (pieces - n + 1)
  generalize hk : n + (drawF w1 (pieces - n + 1)).1 = k at *
  generalize (drawF w1 (pieces - n + 1)).2 = w2 at *
  have t3 := t2.draw 4
  generalize (drawF w2 4).1 = way at *
  generalize (drawF w2 4).2 = w3 at *
  have hrl : (rangeZ 0 k).length = k.toNat := by rw [rangeZ_len]; omega
  have t4 := t3.map (gC_turn n) (rangeZ 0 k)
  have ok4 : mapWOk (gC n) (fun a w => decide (a < n) = false → drwOk w n) (rangeZ 0 k) w3 := mapW_ok (gC_turn n) _ _ _ t3 (by rw [hrl]; omega) fun a _ w m hw hm _ => hw.ok hm (by omega) (by omega)
  have dc : DrC (mapW (gC n) (rangeZ 0 k) w3).1 n k := by
    refine ⟨by rw [mapW_len, hrl]; omega, fun c hc => ?_, fun c c0 c1 => ?_⟩
    · obtain ⟨a, ha, w', rfl⟩ := mapW_of hc
      rw [mem_range] at ha
      exact (gC_spec w' ha.1 (by omega)).1
    · obtain ⟨w', h⟩ := mapW_to (g := gC n) (w := w3) (mem_range.mpr ⟨c0, (by omega : c < k)⟩)
      rw [(gC_spec w' c0 (by omega)).2 c1] at h
      exact h
  have hgC : (fun (a6 : Int) (w7 : DW) => bif decide (a6 < n) then (a6, w7) else ((drawF w7 n).1, (drawF w7 n).2)) = gC n := rfl
  generalize hC : mapW (gC n) (rangeZ 0 k) w3 = C at *
  have hCl : C.1.length = k.toNat := by have := dc.len; omega
  -- by turns or shuffled
  have t5 : Tn (bif decide (way = 0) then (List.map (fun a => a % n) (rangeZ 0 k), C.2) else ((shufZ C.1 C.2).1, (shufZ C.1 C.2).2)).2 (t + 1 + 1 + 1 + (rangeZ 0 k).length + k.toNat) := by
    cases decide (way = 0) with
    | true => exact t4.mono (by omega)
    | false =>
      have := t4.shuf C.1
      rw [hCl] at this
      exact this
  have dc5 : DrC (bif decide (way = 0) then (List.map (fun a => a % n) (rangeZ 0 k), C.2) else ((shufZ C.1 C.2).1, (shufZ C.1 C.2).2)).1 n k := by
    cases decide (way = 0) with
    | true =>
      refine ⟨by simp only [cond_true, List.length_map]; rw [hrl]; omega, fun c hc => ?_, fun c c0 c1 => ?_⟩
      · obtain ⟨a, _, rfl⟩ := List.mem_map.mp hc
        exact ⟨Int.emod_nonneg _ (by omega), Int.emod_lt_of_pos _ (by omega)⟩
      · exact List.mem_map.mpr ⟨c, mem_range.mpr ⟨c0, by omega⟩, Int.emod_eq_of_lt c0 c1⟩
    | false =>
      have p := shufZ_perm C.1 C.2
      refine ⟨by simp only [cond_false]; rw [p.length_eq]; exact dc.len, fun c hc => dc.rng c (p.subset hc), fun c c0 c1 => p.symm.subset (dc.all c c0 c1)⟩
  have ok5 : decide (way = 0) = false → shufOk C.1 C.2 := fun _ => t4.shok (by rw [hrl]; omega) (by omega)
  generalize (bif decide (way = 0) then (List.map (fun a => a % n) (rangeZ 0 k), C.2) else ((shufZ C.1 C.2).1, (shufZ C.1 C.2).2)) = Q at *
  have hQl : Q.1.length = k.toNat := by have := dc5.len; omega
  have d6 := draw_range Q.2 (room := 6) (by omega)
  have t6 := t5.draw 6
  have hroom : 1 ≤ atZ rooms (drawF Q.2 6).1 ∧ atZ rooms (drawF Q.2 6).1 ≤ 1000000000000 := by
    have hm := atZ_mem (xs := rooms) d6.1 (by simpa using d6.2)
    simp only [rooms, List.mem_cons, List.not_mem_nil, or_false] at hm
    rcases hm with h | h | h | h | h | h <;> rw [h] <;> omega
  have hatok : atOk rooms (drawF Q.2 6).1 := atOk_in d6.1 (by simpa using d6.2)
  have e6 : ((([1, 2, 5, 20, 1000000, 1000000000000] : List Int).length : Nat) : Int) = 6 := rfl
  rw [e6]
  generalize hR : atZ rooms (drawF Q.2 6).1 = room at *
  generalize hw6 : (drawF Q.2 6).2 = w6 at *
  have t7 := t6.map (gL_turn room) Q.1
  have ok7 : mapWOk (gL room) (fun a w => drwOk w room) Q.1 w6 := mapW_ok (gL_turn room) _ _ _ t6 (by rw [hrl]; omega) fun a _ w m hw hm => hw.ok hm (by omega) (by omega)
  have hmap := gL_map room Q.1 w6
  have hval := rowV_of dc5 (by omega) (by omega) hmap (fun x hx => by
    obtain ⟨a, _, w', rfl⟩ := mapW_of hx
    have := draw_le w' (room := room) (by omega)
    simp only; omega)
  rw [hrl, hQl] at t7
  refine ⟨⟨ht.ok (by omega) (by omega) (by omega), t1.ok (by omega) (by omega) (by omega), t2.ok (by omega) (by omega) (by omega), ⟨rng_ok (by omega) (by omega), le_line (by rw [hrl]; omega), ok4⟩, ⟨fun _ => ⟨rng_ok (by omega) (by omega), le_line (by rw [hrl]; omega), fun _ _ => by omega⟩, ok5⟩, ⟨t5.ok (by rw [hrl]; omega) (by omega) (by omega), hatok⟩, le_line (by omega), ok7⟩, hval.1, ?_, ?_, t7.mono (by omega)⟩
  · have := hval.2.2; show _ ≤ _; exact this ▸ (by omega)
  · have := hval.2.1; show _ ≤ _; exact this ▸ (by omega)
end Iv

/-! Colours that cannot be parted. -/
namespace Iv
open PySem
theorem forR_all {σ α ρ : Type} {step : σ → α → ρ ⊕ σ} (st : σ) : ∀ {l : List α}, (∀ a ∈ l, step st a = .inr st) → forR step st l = .inr st
  | [], _ => rfl
  | a :: l, h => by
    rw [forR, h a (List.mem_cons_self ..)]
    exact forR_all st fun b hb => h b (List.mem_cons_of_mem _ hb)
theorem forR_inv {α ρ : Type} {step : Unit → α → ρ ⊕ Unit} : ∀ {l : List α}, forR step () l = .inr () → ∀ a ∈ l, step () a = .inr ()
  | [], _, _, h => by simp at h
  | b :: l, hf, a, h => by
    cases hs : step () b with
    | inl r => simp [forR, hs] at hf
    | inr u =>
      simp only [forR, hs] at hf
      rcases List.mem_cons.mp h with rfl | h
      · exact hs
      · exact forR_inv hf a h
theorem forROk_all {α ρ : Type} {step : Unit → α → ρ ⊕ Unit} {ok : Unit → α → Prop} : ∀ {l : List α}, (∀ a ∈ l, ok () a) → forROk step ok () l
  | [], _ => trivial
  | a :: l, h => ⟨h a (List.mem_cons_self ..), fun _ _ => forROk_all fun b hb => h b (List.mem_cons_of_mem _ hb)⟩
theorem look_keys {α β : Type} [DecidableEq α] (l : List (α × β)) (k : α) : (lookZ l k).isSome = true ↔ k ∈ l.map (·.1) := by
  unfold lookZ
  rw [Option.isSome_map, List.find?_isSome]
  constructor
  · rintro ⟨x, hx, e⟩
    simp only [decide_eq_true_eq] at e
    exact List.mem_map.mpr ⟨x, hx, e⟩
  · intro h
    obtain ⟨x, hx, e⟩ := List.mem_map.mp h
    exact ⟨x, hx, by simpa using e⟩
theorem merge_keys {α β : Type} [DecidableEq α] (k : α) : ∀ (l acc : List (α × β)), k ∈ (mergeZ acc l).map (·.1) ↔ k ∈ acc.map (·.1) ∨ k ∈ l.map (·.1)
  | [], acc => by simp [mergeZ]
  | p :: l, acc => by
    rw [mergeZ, merge_keys k l, putZ_keys, List.map_cons, List.mem_cons]
    split
    · rename_i hm
      constructor
      · rintro (h | h)
        · exact .inl h
        · exact .inr (.inr h)
      · rintro (h | rfl | h)
        · exact .inl h
        · exact .inl hm
        · exact .inr h
    · rw [List.mem_append, List.mem_singleton, or_assoc]
theorem merge_len {α β : Type} [DecidableEq α] : ∀ (l acc : List (α × β)), (mergeZ acc l).length ≤ acc.length + l.length
  | [], acc => by simp [mergeZ]
  | p :: l, acc => by
    rw [mergeZ]
    have := merge_len l (putZ p.1 p.2 acc)
    have := putZ_len p.1 p.2 acc
    rw [List.length_cons]; omega
/-- sums of some pieces with signs, up to an end -/
def preG (r : Row) (c : Int) (s : Int → Int) (e : Int) : Int := preS r ((rng r).map fun n => s n * len r n) c e
theorem preG_succ {r : Row} {c : Int} {s : Int → Int} {e : Int} (h0 : 0 ≤ e) (h1 : e < r.length) : preG r c s (e + 1) = preG r c s e + if col r e = c then s e * len r e else 0 := by
  unfold preG
  rw [preS_succ h0 h1]
  unfold rng
  rw [atZ_map (fun n => s n * len r n) h0 (by rw [rangeZ_len]; omega), atZ_range h0 (by omega), Int.zero_add]
theorem preG_all (r : Row) (c : Int) (s : Int → Int) : preG r c s r.length = sumS r (lensM r) c s := by
  unfold preG sumS
  rw [preS_all]
  apply sum_congr
  intro n hn
  have := (mem_nums.mp hn).1
  unfold rng
  rw [atZ_map (fun n => s n * len r n) this.1 (by rw [rangeZ_len]; omega), atZ_range this.1 (by omega), Int.zero_add, lens_at this.1 this.2]
theorem shift_p (L : List Int) (d k : Int) : k ∈ (L.map fun a => (a + d, true)).map (·.1) ↔ k - d ∈ L := by
  rw [List.map_map, List.mem_map]
  constructor
  · rintro ⟨a, ha, e⟩
    simp only [Function.comp] at e
    have : k - d = a := by omega
    rw [this]; exact ha
  · intro h; exact ⟨_, h, by simp only [Function.comp]; omega⟩
theorem shift_m (L : List Int) (d k : Int) : k ∈ (L.map fun a => (a - d, true)).map (·.1) ↔ k + d ∈ L := by
  rw [List.map_map, List.mem_map]
  constructor
  · rintro ⟨a, ha, e⟩
    simp only [Function.comp] at e
    have : k + d = a := by omega
    rw [this]; exact ha
  · intro h; exact ⟨_, h, by simp only [Function.comp]; omega⟩
theorem plain_step (c : Int) (st : List (Int × Bool)) (x : Int × Int) (k : Int) : (k ∈ (s_law_plain_l2 c st x).map (·.1)) ↔ (if x.1 = c then (k - x.2 ∈ st.map (·.1) ∨ k + x.2 ∈ st.map (·.1)) else k ∈ st.map (·.1)) := by
  unfold s_law_plain_l2
  simp only [leT_eq, filter_true]
  by_cases h : x.1 = c
  · have hd : decide (x.1 = c) = true := by simp [h]
    rw [hd, if_pos h]
    simp only [cond_true]
    rw [merge_keys, List.map_append, List.mem_append, shift_p, shift_m]
    simp only [List.map_nil, List.not_mem_nil, false_or]
  · have hd : decide (x.1 = c) = false := by simp [h]
    rw [hd, if_neg h]; rfl
theorem plain_len (c : Int) (st : List (Int × Bool)) (x : Int × Int) : (s_law_plain_l2 c st x).length ≤ 2 * st.length := by
  unfold s_law_plain_l2
  simp only [leT_eq, filter_true]
  cases decide (x.1 = c) with
  | true =>
    simp only [cond_true]
    refine Nat.le_trans (merge_len _ _) ?_
    simp; omega
  | false => simp only [cond_false]; omega
/-- what is reached by sums is just what signs tell -/
theorem plain_fold (r : Row) (c : Int) (k : Int) : k ∈ (List.foldl (s_law_plain_l2 c) [(0, true)] r).map (·.1) ↔ ∃ s : Int → Int, (∀ n, s n = 1 ∨ s n = -1) ∧ sumS r (lensM r) c s = k := by
  have := foldl_range (step := fun st i => s_law_plain_l2 c st (atZ r i)) (fun i st => ∀ k, k ∈ st.map (·.1) ↔ ∃ s : Int → Int, (∀ n, s n = 1 ∨ s n = -1) ∧ preG r c s i = k) (st := [(0, true)]) (m := r.length) (by
    intro k
    simp only [List.map_cons, List.map_nil, List.mem_singleton]
    constructor
    · rintro rfl
      exact ⟨fun _ => 1, fun _ => .inl rfl, preS_zero _ _ _⟩
    · rintro ⟨s, _, e⟩
      rw [← e]; exact preS_zero _ _ _) (by
    intro i st h0 h1 hi k
    rw [plain_step]
    have hx1 : (atZ r i).1 = col r i := rfl
    have hx2 : (atZ r i).2 = len r i := rfl
    rw [hx1, hx2]
    by_cases hc : col r i = c
    · rw [if_pos hc, hi, hi]
      constructor
      · have upd : ∀ (s : Int → Int) (e : Int), preG r c (fun n => if n = i then e else s n) i = preG r c s i := by
          intro s e
          unfold preG preS
          apply sum_congr
          intro n hn
          have hr := (mem_nums.mp hn).1
          by_cases hlt : n < i
          · unfold rng
            rw [atZ_map (fun n => (if n = i then e else s n) * len r n) hr.1 (by rw [rangeZ_len]; omega), atZ_map (fun n => s n * len r n) hr.1 (by rw [rangeZ_len]; omega), atZ_range hr.1 (by omega), if_neg (by omega)]
          · rw [if_neg hlt, Int.mul_zero, Int.mul_zero]
        rintro (⟨s, hs, e⟩ | ⟨s, hs, e⟩)
        · refine ⟨fun n => if n = i then 1 else s n, fun n => ?_, ?_⟩
          · dsimp only
            split
            · exact .inl rfl
            · exact hs n
          · rw [preG_succ h0 h1, upd, e, if_pos hc, if_pos rfl]; omega
        · refine ⟨fun n => if n = i then -1 else s n, fun n => ?_, ?_⟩
          · dsimp only
            split
            · exact .inr rfl
            · exact hs n
          · rw [preG_succ h0 h1, upd, e, if_pos hc, if_pos rfl]; omega
      · rintro ⟨s, hs, e⟩
        rw [preG_succ h0 h1, if_pos hc] at e
        rcases hs i with h | h
        · rw [h] at e; exact .inl ⟨s, hs, by omega⟩
        · rw [h] at e; exact .inr ⟨s, hs, by omega⟩
    · rw [if_neg hc, hi]
      constructor
      · rintro ⟨s, hs, e⟩
        exact ⟨s, hs, by rw [preG_succ h0 h1, if_neg hc]; omega⟩
      · rintro ⟨s, hs, e⟩
        rw [preG_succ h0 h1, if_neg hc] at e
        exact ⟨s, hs, by omega⟩)
  rw [← foldl_list] at this
  rw [this k]
  constructor
  · rintro ⟨s, hs, e⟩; exact ⟨s, hs, by rw [← preG_all]; exact e⟩
  · rintro ⟨s, hs, e⟩; exact ⟨s, hs, by rw [preG_all]; exact e⟩
open Classical in
theorem w_plain (r : Row) (cs : List Int) : s_law_plain r cs = true ↔ plainM r cs := by
  have hl : ∀ c, s_law_plain_l1 r () c = if (∃ s : Int → Int, (∀ n, s n = 1 ∨ s n = -1) ∧ sumS r (lensM r) c s = 0) then .inl false else .inr () := by
    intro c
    unfold s_law_plain_l1
    simp only [leT_eq]
    by_cases h : ∃ s : Int → Int, (∀ n, s n = 1 ∨ s n = -1) ∧ sumS r (lensM r) c s = 0
    · rw [if_pos h, (look_keys _ _).mpr ((plain_fold r c 0).mpr h)]; rfl
    · rw [if_neg h]
      have : (lookZ (List.foldl (s_law_plain_l2 c) [(0, true)] r) 0).isSome = false := by
        rw [Bool.eq_false_iff]
        intro e
        exact h ((plain_fold r c 0).mp ((look_keys _ _).mp e))
      rw [this]; rfl
  have key : forR (s_law_plain_l1 r) () cs = .inl false ∨ forR (s_law_plain_l1 r) () cs = .inr () := by
    induction cs with
    | nil => exact .inr rfl
    | cons c cs ih =>
      simp only [forR, hl]
      split
      · rename_i h; split at h <;> cases h; exact .inl rfl
      · rename_i h; split at h <;> cases h; exact ih
  unfold s_law_plain
  constructor
  · intro h
    rcases key with e | e
    · rw [e] at h; cases h
    · intro c hc s hs h0
      have := forR_inv e c hc
      rw [hl, if_pos ⟨s, hs, h0⟩] at this
      cases this
  · intro h
    have : forR (s_law_plain_l1 r) () cs = .inr () := forR_all () fun c hc => by
      rw [hl, if_neg]
      rintro ⟨s, hs, h0⟩
      exact h c hc s hs h0
    rw [this]; rfl
theorem p_plain {r : Row} (hr : RowV r) (cs : List Int) : k_law_plain r cs := by
  refine forROk_all fun c _ => ?_
  unfold k_law_plain_l1
  simp only [leT_eq]
  rw [forOk_list]
  have h16 := hr.le
  refine forOk_range (fun k st => st.length ≤ 2 ^ k.toNat) (by simp) ?_
  intro k st h0 h1 hs
  have hp : 2 ^ k.toNat ≤ 2 ^ 16 := Nat.pow_le_pow_right (by omega) (by omega)
  refine ⟨fun _ => ⟨⟨le_line (by omega), le_line (by omega)⟩, le_line (by simp only [filter_true, List.length_map]; omega)⟩, ?_⟩
  have := plain_len c st (atZ r k)
  have e : (k + 1).toNat = k.toNat + 1 := by omega
  rw [e, Nat.pow_succ]; omega
end Iv

/-! The law k13. -/
namespace Iv
open PySem
/-- ends that mean nothing for some colours -/
structure GoodS (r : Row) (cs some : List Int) : Prop where
  nd : some.Nodup
  rng : ∀ e ∈ some, 0 ≤ e ∧ e ≤ r.length
  len : some.length ≤ 2
  sg : ∃ ε : Int, (ε = 1 ∨ ε = -1) ∧ ∀ n : Int, 0 ≤ n → n < r.length → col r n ∈ cs → sg (cLe some n) = ε
theorem togg_ends {r : Row} {cs fx some : List Int} (hf : EndsV r fx) (h : GoodS r cs some) : EndsV r (togg fx some) := by
  refine ⟨togg_asc hf.nodup h.nd, fun e he => ?_⟩
  rw [mem_togg] at he
  rcases he with he | he
  · exact hf.rng e he.1
  · exact h.rng e he.1
theorem good_first (r : Row) (cs : List Int) : GoodS r cs [0] := by
  refine ⟨by simp, by simp, by simp, -1, .inr rfl, fun n h0 _ _ => ?_⟩
  rw [cLe_cons, if_pos h0]; rfl
theorem good_last (r : Row) (cs : List Int) : GoodS r cs [(r.length : Int)] := by
  refine ⟨by simp, by simp, by simp, 1, .inl rfl, fun n _ h1 _ => ?_⟩
  rw [cLe_cons, if_neg (by omega)]; rfl
theorem good_both {r : Row} (hr : RowV r) (cs : List Int) : GoodS r cs [0, (r.length : Int)] := by
  have := hr.ne
  refine ⟨by simp; omega, by simp, by simp, -1, .inr rfl, fun n h0 h1 _ => ?_⟩
  rw [cLe_cons, cLe_cons, if_pos h0, if_neg (by omega)]; rfl
theorem good_block {r : Row} {cs : List Int} {b e : Int} (h0 : 0 ≤ b) (h1 : b < e) (h2 : e ≤ r.length) (h : ∀ n, b ≤ n → n < e → col r n ∉ cs) : GoodS r cs [b, e] := by
  refine ⟨by simp; omega, by simp; omega, by simp, 1, .inl rfl, fun n _ _ hc => ?_⟩
  rw [cLe_cons, cLe_cons]
  by_cases hb : b ≤ n
  · by_cases he : e ≤ n
    · rw [if_pos hb, if_pos he, cLe_nil]; rfl
    · exact absurd hc (h n hb (by omega))
  · rw [if_neg hb, if_neg (by omega)]; rfl
/-! ### blocks -/
theorem block_step (r : Row) (cs : List Int) (a : Int) (st : List (List Int)) (b : Int) : s_law_blocks_l2 r cs a st b = st ++ if ∀ n ∈ rangeZ a b, col r n ∉ cs then [[a, b]] else [] := by
  unfold s_law_blocks_l2
  simp only [leT_eq]
  by_cases h : ∀ n ∈ rangeZ a b, col r n ∉ cs
  · have : List.map (fun (a10 : Int) => (1 : Int)) (List.filter (fun (a10 : Int) => (decide ((atZ r a10).1 ∈ cs))) (rangeZ a b)) = [] := by
      rw [List.map_eq_nil_iff, List.filter_eq_nil_iff]
      intro n hn hd
      exact h n hn (of_decide_eq_true hd)
    rw [if_pos h, this]; rfl
  · have : ¬ List.map (fun (a10 : Int) => (1 : Int)) (List.filter (fun (a10 : Int) => (decide ((atZ r a10).1 ∈ cs))) (rangeZ a b)) = [] := by
      rw [List.map_eq_nil_iff, List.filter_eq_nil_iff]
      intro hh
      exact h fun n hn hm => hh n hn (decide_eq_true hm)
    rw [if_neg h, decide_eq_false this, List.append_nil]; rfl
def blocksM (r : Row) (cs : List Int) : List (List Int) := (rangeZ 0 r.length).flatMap fun a => (rangeZ (a + 1) (r.length + 1)).flatMap fun b => if ∀ n ∈ rangeZ a b, col r n ∉ cs then [[a, b]] else []
theorem blocks_l1 (r : Row) (cs : List Int) (st : List (List Int)) (a : Int) : s_law_blocks_l1 r cs st a = st ++ (rangeZ (a + 1) (r.length + 1)).flatMap fun b => if ∀ n ∈ rangeZ a b, col r n ∉ cs then [[a, b]] else [] := by
  unfold s_law_blocks_l1
  simp only [leT_eq]
  rw [show s_law_blocks_l2 r cs a = fun st b => st ++ if ∀ n ∈ rangeZ a b, col r n ∉ cs then [[a, b]] else [] from funext fun st => funext fun b => block_step r cs a st b, foldl_app]
theorem w_blocks (r : Row) (cs : List Int) : s_law_blocks r cs = blocksM r cs := by
  unfold s_law_blocks
  simp only [leT_eq]
  rw [show s_law_blocks_l1 r cs = fun st a => st ++ _ from funext fun st => funext fun a => blocks_l1 r cs st a, foldl_app]; rfl
theorem good_blocks {r : Row} {cs some : List Int} (h : some ∈ blocksM r cs) : GoodS r cs some := by
  unfold blocksM at h
  obtain ⟨a, ha, h⟩ := List.mem_flatMap.mp h
  obtain ⟨b, hb, h⟩ := List.mem_flatMap.mp h
  rw [mem_range] at ha hb
  split at h
  · rename_i hh
    rw [List.mem_singleton] at h
    subst h
    exact good_block ha.1 (by omega) (by omega) fun n h1 h2 => hh n (mem_range.mpr ⟨h1, h2⟩)
  · simp at h
theorem flat_len {α β : Type} (g : α → List β) (k : Nat) : ∀ (l : List α), (∀ a ∈ l, (g a).length ≤ k) → (l.flatMap g).length ≤ l.length * k
  | [], _ => by simp
  | a :: l, h => by
    rw [List.flatMap_cons, List.length_append, List.length_cons, Nat.add_mul, Nat.one_mul]
    have := flat_len g k l fun b hb => h b (List.mem_cons_of_mem _ hb)
    have := h a (List.mem_cons_self ..)
    omega
theorem inner_len {r : Row} (h : r.length ≤ 16) (cs : List Int) {a : Int} (h0 : 0 ≤ a) (l : List Int) : (l.flatMap fun b => if ∀ n ∈ rangeZ a b, col r n ∉ cs then [[a, b]] else []).length ≤ l.length := by
  have := flat_len (fun b => if ∀ n ∈ rangeZ a b, col r n ∉ cs then [[a, b]] else []) 1 l fun b _ => by split <;> simp
  omega
theorem blocks_len {r : Row} (h : r.length ≤ 16) (cs : List Int) : (blocksM r cs).length ≤ 256 := by
  have := flat_len (fun a => (rangeZ (a + 1) (r.length + 1)).flatMap fun b => if ∀ n ∈ rangeZ a b, col r n ∉ cs then [[a, b]] else []) 16 (rangeZ 0 r.length) fun a ha => by
    rw [mem_range] at ha
    have := inner_len h cs ha.1 (rangeZ (a + 1) (r.length + 1))
    rw [rangeZ_len] at this
    omega
  rw [rangeZ_len] at this
  unfold blocksM
  omega
theorem p_blocks {r : Row} (hr : RowV r) (cs : List Int) : k_law_blocks r cs := by
  have h16 := hr.le
  unfold k_law_blocks
  simp only [leT_eq]
  refine ⟨rng_ok (by omega) (by omega), ?_⟩
  refine forOk_range (fun k st => st.length ≤ k.toNat * 16) (by simp) ?_
  intro a st h0 h1 hs
  have hin := inner_len h16 cs h0 (rangeZ (a + 1) (r.length + 1))
  rw [rangeZ_len] at hin
  refine ⟨⟨⟨rng_ok (by omega) (by omega), rng_ok (by omega) (by omega)⟩, ?_⟩, ?_⟩
  · have key : ∀ (l : List Int) (st : List (List Int)), st.length + l.length ≤ 1000 → (∀ b ∈ l, 0 ≤ b ∧ b ≤ r.length) → forOk (s_law_blocks_l2 r cs a) (k_law_blocks_l2 r cs a) st l := by
      intro l
      induction l with
      | nil => intro _ _ _; trivial
      | cons b l ih =>
        intro st hl hb
        rw [List.length_cons] at hl
        have hbb := hb b (List.mem_cons_self ..)
        refine ⟨⟨⟨⟨rng_ok (by omega) (by omega), rng_ok (by omega) (by omega)⟩, le_line (by rw [rangeZ_len]; omega), fun n hn => ?_⟩, fun _ => lt_line (by omega)⟩, ih _ ?_ fun c hc => hb c (List.mem_cons_of_mem _ hc)⟩
        · rw [mem_range] at hn; exact atOk_in (by omega) (by omega)
        · rw [block_step, List.length_append]
          have : (if ∀ n ∈ rangeZ a b, col r n ∉ cs then [[a, b]] else []).length ≤ 1 := by split <;> simp
          omega
    refine key _ _ ?_ fun b hb => by rw [mem_range] at hb; omega
    rw [rangeZ_len]
    have : a.toNat * 16 ≤ 16 * 16 := Nat.mul_le_mul_right _ (by omega)
    omega
  · rw [blocks_l1, List.length_append]
    have e : (a + 1).toNat = a.toNat + 1 := by omega
    rw [e, Nat.add_mul]
    omega
/-! ### corners at both ends of a piece of another colour -/
theorem corner_same {r : Row} {cs : List Int} (hc : cs.Nodup) {n0 : Int} (h : col r n0 ∉ cs) : transM r cs [n0] = transM r cs [n0 + 1] := by
  unfold transM
  apply List.filter_congr
  intro ch hch
  rw [mem_chs hc] at hch
  refine (right_flip (.inl rfl) fun j hj n hn _ => ?_).symm
  rw [Int.one_mul]
  unfold sgn
  have hne : n ≠ n0 := by
    intro e
    subst e
    exact h (by rw [(mem_nums.mp hn).2]; exact hch.cut.subset (List.mem_map_of_mem hj))
  congr 2
  rw [cLe_cons, cLe_cons]
  by_cases hh : n0 ≤ n
  · rw [if_pos hh, if_pos (by omega)]
  · rw [if_neg hh, if_neg (by omega)]
/-! ### rows turned about -/
theorem rev_many (r : Row) : many r.reverse = many r ∨ r = [] := by
  by_cases h : r = []
  · exact .inr h
  · left
    have h1 : r.map (fun x => x.1) ≠ [] := by simpa using h
    have h2 : r.reverse.map (fun x => x.1) ≠ [] := by simpa using h
    obtain ⟨a1, a2⟩ := maxZ_spec h1
    obtain ⟨b1, b2⟩ := maxZ_spec h2
    have c1 := b2 _ (by rw [List.map_reverse]; exact List.mem_reverse.mpr a1)
    rw [List.map_reverse] at b1
    have c2 := a2 _ (List.mem_reverse.mp b1)
    unfold many
    rw [List.map_reverse] at c1 ⊢
    omega
theorem rowV_rev {r : Row} (h : RowV r) : RowV r.reverse := by
  have hm : many r.reverse = many r := by
    rcases rev_many r with e | e
    · exact e
    · have := h.ne; rw [e] at this; simp at this
  refine ⟨by rw [List.length_reverse]; exact h.ne, by rw [List.length_reverse]; exact h.le, fun x hx => h.cols x (List.mem_reverse.mp hx), fun x hx => h.lens x (List.mem_reverse.mp hx), fun c c0 c1 => ?_⟩
  rw [hm] at c1
  obtain ⟨x, hx, e⟩ := h.dense c c0 c1
  exact ⟨x, List.mem_reverse.mpr hx, e⟩
theorem colsV_rev {r : Row} {cs : List Int} (hr : RowV r) (h : ColsV r cs) : ColsV r.reverse cs := by
  refine ⟨h.asc, fun c hc => ?_⟩
  rcases rev_many r with e | e
  · rw [e]; exact h.rng c hc
  · have := hr.ne; rw [e] at this; simp at this
theorem ends_mirr {r : Row} {fx : List Int} (h : EndsV r fx) : EndsV r.reverse (mirr r.length fx) := by
  refine ⟨mirr_asc h.nodup, fun e he => ?_⟩
  rw [mem_mirr] at he
  have := h.rng _ he
  rw [List.length_reverse]; omega
theorem w_turned {r : Row} {cs fx : List Int} (hc : ColsV r cs) (hf : EndsV r fx) : s_law_turned_goes r cs fx (transM r cs fx) = true := by
  unfold s_law_turned_goes
  simp only [leT_eq]
  rw [v_turned, decide_eq_true (rfl : r.reverse = r.reverse)]
  cases hp : s_law_plain r cs with
  | false => rfl
  | true =>
    have := trans_rev hc.nodup ((w_plain r cs).mp hp) hf.asc
    simp only [Bool.not_true, Bool.or_self, cond_false, v_trans]
    rw [decide_eq_true_eq]
    exact this
theorem p_turned {r : Row} {cs fx : List Int} (hr : RowV r) (hc : ColsV r cs) (hf : EndsV r fx) : k_law_turned_goes r cs fx (transM r cs fx) := by
  unfold k_law_turned_goes
  simp only [leT_eq]
  have hrr := rowV_rev hr
  have hcc := colsV_rev hr hc
  have hff := ends_mirr hf
  refine ⟨⟨o_turned hr, fun _ => p_plain hr cs⟩, fun _ => o_turned hr, fun _ => ⟨le_line (by have := hf.len hr; omega), o_trans hrr hcc hff, ⟨le_line (by have := trans_bound (fx := fx) hr hc; omega), fun ch hch => le_line (by have := ch_len hr hc ((mem_trans hc.nodup).mp hch).1; omega)⟩, ?_⟩⟩
  refine sortOk_same (n := cs.length) ?_ ?_
  · intro o ho
    obtain ⟨ch, hch, rfl⟩ := List.mem_map.mp ho
    rw [sortZ_len, List.length_map, ((mem_trans hc.nodup).mp hch).1.len]
  · intro h0
    have : cs = [] := List.length_eq_zero_iff.mp h0
    subst this
    rw [List.length_map]
    refine Nat.le_trans (List.length_filter_le _ _) ?_
    unfold chsM
    rw [sortZ_len]
    simp [rawM]
/-! ### one row -/
theorem some_good {r : Row} (hr : RowV r) {cs : List Int} (w : DW) {so : List Int} (h : so ∈ ([[0], [(r.length : Int)], [0, (r.length : Int)]] : List (List Int)) ++ cutZ (shufZ (s_law_blocks r cs) w).1 none (some (5 : Int)))   : GoodS r cs so := by
  rw [List.mem_append] at h
  rcases h with h | h
  · simp only [List.mem_cons, List.not_mem_nil, or_false] at h
    rcases h with rfl | rfl | rfl
    · exact good_first r cs
    · exact good_last r cs
    · exact good_both hr cs
  · have := (cutZ_sub _ _ _).subset h
    rw [(shufZ_perm _ _).mem_iff, w_blocks] at this
    exact good_blocks this
theorem trans_good {r : Row} {cs fx some : List Int} (hc : cs.Nodup) (hf : EndsV r fx) (h : GoodS r cs some) : transM r cs (togg fx some) = transM r cs fx := by
  obtain ⟨ε, he, hh⟩ := h.sg
  exact trans_togg hc hf.nodup h.nd he hh
theorem w_goes {r : Row} {cs fx : List Int} (hr : RowV r) (hc : ColsV r cs) (hf : EndsV r fx) (w : DW) : s_law_goes w r cs fx = (true, (shufZ (blocksM r cs) w).2) := by
  unfold s_law_goes
  simp only [leT_eq]
  rw [w_all hr hc.nodup hf, v_trans, decide_eq_true (rfl : transM r cs fx = transM r cs fx)]
  simp only [Bool.not_true, cond_false]
  have h1 : forR (s_law_goes_l1 w r cs fx (transM r cs fx)) () (([[0], [(r.length : Int)], [0, (r.length : Int)]] : List (List Int)) ++ cutZ (shufZ (s_law_blocks r cs) w).1 none (some (5 : Int))) = .inr () := by
    refine forR_all () fun so hs => ?_
    have g := some_good hr w hs
    have hl := togg_ends hf g
    unfold s_law_goes_l1
    simp only [leT_eq]
    have e : s_law_other_way fx so = togg fx so := by
      unfold s_law_other_way togg
      rw [map_id_filter, map_id_filter]
    rw [e, v_trans, w_all hr hc.nodup hl, trans_good hc.nodup hf g, decide_eq_true (rfl : transM r cs fx = transM r cs fx)]
    have h2 : forR (s_law_goes_l2 w r cs (togg fx so)) () (cutZ (transM r cs fx) none (some (3 : Int))) = .inr () := by
      refine forR_all () fun ch hch => ?_
      have := (cutZ_sub _ _ _).subset hch
      rw [← trans_good hc.nodup hf g] at this
      obtain ⟨i1, i2⟩ := (mem_trans hc.nodup).mp this
      unfold s_law_goes_l2
      rw [v_is_trans hc.asc i1, i2]; rfl
    rw [h2]; rfl
  rw [h1]
  simp only [orR]
  have h3 : forR (s_law_goes_l3 w r cs (s_corners_of r cs)) () (enumZ 0 r) = .inr () := by
    refine forR_all () fun x hx => ?_
    rw [enum0] at hx
    obtain ⟨i, hi, rfl⟩ := List.mem_map.mp hx
    rw [mem_range] at hi
    unfold s_law_goes_l3
    by_cases hcc : (atZ r i).1 ∈ cs
    · rw [decide_eq_true hcc]; rfl
    · rw [corners_at (by omega), corners_at (by omega), corner_same hc.nodup hcc, decide_eq_true (rfl : transM r cs [i + 1] = transM r cs [i + 1])]
      simp
  rw [h3]
  simp only [w_turned hc hf, w_blocks]
theorem p_other {fx some : List Int} (h1 : fx.length ≤ 1000) (h2 : some.length ≤ 1000) : k_law_other_way fx some := by
  refine ⟨⟨le_line (by omega), le_line (by omega)⟩, le_line ?_⟩
  simp only [List.length_map]
  have := List.length_filter_le (fun a1 : Int => !decide (a1 ∈ some)) fx
  have := List.length_filter_le (fun a1 : Int => !decide (a1 ∈ fx)) some
  omega
theorem p_goes {r : Row} {cs fx : List Int} (hr : RowV r) (hc : ColsV r cs) (hf : EndsV r fx) {w : DW} {t : Int} (ht : Tn w t) (hb : t < 900000000) : k_law_goes w r cs fx := by
  unfold k_law_goes
  simp only [leT_eq]
  have hbl := blocks_len hr.le cs
  refine ⟨p_all hr hc hf, o_trans hr hc hf, fun _ => ⟨⟨⟨p_blocks hr cs, ?_⟩, ?_⟩, ?_, ?_⟩⟩
  · rw [w_blocks]; exact ht.shok (by omega) (by omega)
  · refine le_line ?_
    have := (cutZ_sub (shufZ (s_law_blocks r cs) w).1 none (some (5 : Int))).length_le
    rw [(shufZ_perm _ _).length_eq, w_blocks] at this
    rw [w_blocks]
    simp only [List.length_cons, List.length_nil]
    omega
  · refine forROk_all fun so hs => ?_
    have g := some_good hr w hs
    have hl := togg_ends hf g
    unfold k_law_goes_l1
    simp only [leT_eq]
    have e : s_law_other_way fx so = togg fx so := by
      unfold s_law_other_way togg
      rw [map_id_filter, map_id_filter]
    rw [e, w_all hr hc.nodup hf]
    refine ⟨p_other (by have := hf.len hr; omega) (by have := g.len; omega), ⟨o_trans hr hc hl, fun _ => p_all hr hc hl⟩, fun _ => forROk_all fun ch hch => ?_⟩
    have := (cutZ_sub _ _ _).subset hch
    exact o_is_trans hr hc hl ((mem_trans hc.nodup).mp this).1
  · intro _ _
    have hcl := corners_line hr hc
    refine ⟨o_corners hr hc, forROk_all fun x _ => fun _ => ⟨hcl, hcl⟩, fun _ _ => ?_⟩
    rw [w_all hr hc.nodup hf]
    exact p_turned hr hc hf
/-! ### the law -/
theorem cut_asc {l : List Int} (h : l.Nodup) (i : Int) : (sortZ eZ (cutZ l none (some i))).Pairwise (· < ·) := sortZ_asc ((cutZ_sub l none (some i)).nodup h)
theorem sub_mem {l : List Int} {i x : Int} (h : x ∈ sortZ eZ (cutZ l none (some i))) : x ∈ l := (cutZ_sub l none (some i)).subset (mem_sortZ.mp h)
theorem law_step {w : DW} {t a : Int} (ht : Tn w t) (hb : t < 100000000) : k_law_l1 w a ∧ ∃ w', s_law_l1 w a = .inr w' ∧ Tn w' (t + 1000) := by
  obtain ⟨a1, a2, a3, a4, a5⟩ := st_row (pieces := 9) (most := 4) (by omega) (by omega) ht (by omega)
  unfold k_law_l1 s_law_l1
  simp only [leT_eq]
  generalize s_law_st_row w 9 4 = R at *
  rw [w_many]
  have hm := a2.many
  have h16 := a2.le
  have b1 := a5.shuf (rangeZ 0 (many R.1))
  have bp := shufZ_perm (rangeZ 0 (many R.1)) R.2
  rw [rangeZ_len] at b1
  have bok : shufOk (rangeZ 0 (many R.1)) R.2 := a5.shok (by omega) (by rw [rangeZ_len]; omega)
  generalize shufZ (rangeZ 0 (many R.1)) R.2 = C at *
  have c1 := b1.draw (many R.1 + 1)
  generalize hx : (drawF C.2 (many R.1 + 1)).1 = x at *
  generalize (drawF C.2 (many R.1 + 1)).2 = w2 at *
  have hc : ColsV R.1 (sortZ eZ (cutZ C.1 none (some x))) := ⟨cut_asc (bp.nodup_iff.mpr (asc_nodup (range_asc _ _))) x, fun c hc => by
    have := bp.subset (sub_mem hc)
    rwa [mem_range] at this⟩
  have d1 := c1.shuf (rangeZ 0 ((R.1.length : Int) + 1))
  have dp := shufZ_perm (rangeZ 0 ((R.1.length : Int) + 1)) w2
  have dok : shufOk (rangeZ 0 ((R.1.length : Int) + 1)) w2 := c1.shok (by omega) (by rw [rangeZ_len]; omega)
  rw [rangeZ_len] at d1
  generalize shufZ (rangeZ 0 ((R.1.length : Int) + 1)) w2 = F at *
  have e1 := d1.draw 5
  generalize (drawF F.2 5).1 = y at *
  generalize (drawF F.2 5).2 = w3 at *
  have hf : EndsV R.1 (sortZ eZ (cutZ F.1 none (some y))) := ⟨cut_asc (dp.nodup_iff.mpr (asc_nodup (range_asc _ _))) y, fun c hc => by
    have := dp.subset (sub_mem hc)
    rw [mem_range] at this; omega⟩
  rw [w_goes a2 hc hf]
  have f1 := e1.shuf (blocksM R.1 (sortZ eZ (cutZ C.1 none (some x))))
  have fl := blocks_len h16 (sortZ eZ (cutZ C.1 none (some x)))
  refine ⟨⟨a1, p_many a2, ⟨⟨⟨rng_ok (by omega) (by omega), le_line (by omega)⟩, bok⟩, b1.ok (by omega) (by omega) (by omega)⟩, ⟨⟨⟨rng_ok (by omega) (by omega), le_line (by omega)⟩, dok⟩, d1.ok (by omega) (by omega) (by omega)⟩, p_goes a2 hc hf e1 (by omega)⟩, _, rfl, f1.mono (by omega)⟩
theorem law_loop : ∀ (l : List Int) (w : DW) (t : Int), Tn w t → t + 1000 * l.length < 90000000 → forROk s_law_l1 k_law_l1 w l ∧ ∃ w', forR s_law_l1 w l = .inr w'
  | [], w, t, _, _ => ⟨trivial, w, rfl⟩
  | a :: l, w, t, ht, hb => by
    rw [List.length_cons] at hb
    obtain ⟨h1, w', h2, h3⟩ := law_step (a := a) ht (by omega)
    obtain ⟨i1, w'', i2⟩ := law_loop l w' (t + 1000) h3 (by omega)
    refine ⟨⟨h1, fun st' e => ?_⟩, w'', ?_⟩
    · rw [h2] at e; cases e; exact i1
    · rw [forR, h2]; exact i2
theorem law_true (ns : List Int) : k_law (begunF ns) ns ∧ (s_law (begunF ns) ns).1 = true := by
  have ht : Tn (begunF ns) 0 := ⟨Int.le_refl _, Int.le_refl _⟩
  have hif : (0 : Int) ≤ (if (6 : Int) < (ns.length : Int) then 6 else (ns.length : Int)) ∧ (if (6 : Int) < (ns.length : Int) then 6 else (ns.length : Int)) ≤ 6 := by split <;> omega
  have hl : (rangeZ 0 (4 + (if (6 : Int) < (ns.length : Int) then 6 else (ns.length : Int)))).length ≤ 10 := by rw [rangeZ_len]; omega
  obtain ⟨h1, w', h2⟩ := law_loop (rangeZ 0 (4 + (if (6 : Int) < (ns.length : Int) then 6 else (ns.length : Int)))) _ 0 ht (by omega)
  refine ⟨⟨rng_ok (by omega) (by omega), h1⟩, ?_⟩
  unfold s_law
  rw [h2]; rfl
end Iv

namespace Iv
open PySem
theorem plain (ns : List Int) (_ : ns.length ≤ 63) : ∃ s', evSs (callF prim (lookT tb) fuel lvl) fuel lawB ⟨([Ent.val (scrD ns)] ++ List.replicate (lawN.length - 1) Ent.no).set 1 (Ent.val drwTok), begunF ns⟩ = some (.ret (.bool true), s') := by
  obtain ⟨h1, h2⟩ := law_true ns
  obtain ⟨o, s', e1, rfl, _⟩ := t_law ns (begunF ns) h1
  rw [h2] at e1
  exact ⟨s', e1⟩
end Iv

namespace Iv
open PySem L2
section
variable {K : PySem.W.Frag} {mg : Str → Option Value}
theorem def1_of {h : Heap} {x : Str} {st : Stmt} {ps : List Str} {f : Addr} {oc kV dc pm cd ct : Value} {od an : Option Addr} {sl : Array (Option Value)} (X : K.In h) (G : h.Ns mainGlobals mg)
    (a : PySem.W.nsIn K mainGlobals x = some (some (.ref f))) (l : K.lookup f = some ⟨oc, od, .func (PySem.W.fnOf x x (defArgs st) (defBody st) (defScope st) .none kV dc pm an cd ct), sl⟩) (c : PySem.W.codeIn K cd x = true) (k : PySem.W.keepIn K (.ref f) = true)
    (hb : ∀ (kV doc pm : Value) (an : Option Addr) (cdv ct : Value) (us : List Value), us.length = ps.length → bindArgs (PySem.W.fnOf x x (defArgs st) (defBody st) (defScope st) .none kV doc pm an cdv ct) ⟨us, []⟩ = pure (ps.zip us)) :
    Def1 K mg x st ps f (PySem.W.fnOf x x (defArgs st) (defBody st) (defScope st) .none kV dc pm an cd ct) :=
  have F := fun_mk (st := st) l c k
  ⟨F, PySem.W.mg_of X G a, F.binds hb⟩
theorem all_mk {l : PySem.W.OpenLaw} {w : World} {h : Heap} {fa : Addr} (X : K.In h) (G : h.Ns mainGlobals mg) (hfa : mg (Str.ofString "law") = some (.ref fa))
    {f0 : Addr} {oc0 kV0 dc0 pm0 cd0 ct0 : Value} {od0 an0 : Option Addr} {sl0 : Array (Option Value)}
    (a0 : PySem.W.nsIn K mainGlobals (Str.ofString "is_whole") = some (some (.ref f0))) (l0 : K.lookup f0 = some ⟨oc0, od0, .func (PySem.W.fnOf (Str.ofString "is_whole") (Str.ofString "is_whole") (defArgs (top 9)) (defBody (top 9)) (defScope (top 9)) .none kV0 dc0 pm0 an0 cd0 ct0), sl0⟩) (c0 : PySem.W.codeIn K cd0 (Str.ofString "is_whole") = true) (k0 : PySem.W.keepIn K (.ref f0) = true)
    {f1 : Addr} {oc1 kV1 dc1 pm1 cd1 ct1 : Value} {od1 an1 : Option Addr} {sl1 : Array (Option Value)}
    (a1 : PySem.W.nsIn K mainGlobals (Str.ofString "is_piece") = some (some (.ref f1))) (l1 : K.lookup f1 = some ⟨oc1, od1, .func (PySem.W.fnOf (Str.ofString "is_piece") (Str.ofString "is_piece") (defArgs (top 10)) (defBody (top 10)) (defScope (top 10)) .none kV1 dc1 pm1 an1 cd1 ct1), sl1⟩) (c1 : PySem.W.codeIn K cd1 (Str.ofString "is_piece") = true) (k1 : PySem.W.keepIn K (.ref f1) = true)
    {f2 : Addr} {oc2 kV2 dc2 pm2 cd2 ct2 : Value} {od2 an2 : Option Addr} {sl2 : Array (Option Value)}
    (a2 : PySem.W.nsIn K mainGlobals (Str.ofString "many_colours") = some (some (.ref f2))) (l2 : K.lookup f2 = some ⟨oc2, od2, .func (PySem.W.fnOf (Str.ofString "many_colours") (Str.ofString "many_colours") (defArgs (top 11)) (defBody (top 11)) (defScope (top 11)) .none kV2 dc2 pm2 an2 cd2 ct2), sl2⟩) (c2 : PySem.W.codeIn K cd2 (Str.ofString "many_colours") = true) (k2 : PySem.W.keepIn K (.ref f2) = true)
    {f3 : Addr} {oc3 kV3 dc3 pm3 cd3 ct3 : Value} {od3 an3 : Option Addr} {sl3 : Array (Option Value)}
    (a3 : PySem.W.nsIn K mainGlobals (Str.ofString "is_row") = some (some (.ref f3))) (l3 : K.lookup f3 = some ⟨oc3, od3, .func (PySem.W.fnOf (Str.ofString "is_row") (Str.ofString "is_row") (defArgs (top 12)) (defBody (top 12)) (defScope (top 12)) .none kV3 dc3 pm3 an3 cd3 ct3), sl3⟩) (c3 : PySem.W.codeIn K cd3 (Str.ofString "is_row") = true) (k3 : PySem.W.keepIn K (.ref f3) = true)
    {f4 : Addr} {oc4 kV4 dc4 pm4 cd4 ct4 : Value} {od4 an4 : Option Addr} {sl4 : Array (Option Value)}
    (a4 : PySem.W.nsIn K mainGlobals (Str.ofString "need_row") = some (some (.ref f4))) (l4 : K.lookup f4 = some ⟨oc4, od4, .func (PySem.W.fnOf (Str.ofString "need_row") (Str.ofString "need_row") (defArgs (top 13)) (defBody (top 13)) (defScope (top 13)) .none kV4 dc4 pm4 an4 cd4 ct4), sl4⟩) (c4 : PySem.W.codeIn K cd4 (Str.ofString "need_row") = true) (k4 : PySem.W.keepIn K (.ref f4) = true)
    {f5 : Addr} {oc5 kV5 dc5 pm5 cd5 ct5 : Value} {od5 an5 : Option Addr} {sl5 : Array (Option Value)}
    (a5 : PySem.W.nsIn K mainGlobals (Str.ofString "are_ascending") = some (some (.ref f5))) (l5 : K.lookup f5 = some ⟨oc5, od5, .func (PySem.W.fnOf (Str.ofString "are_ascending") (Str.ofString "are_ascending") (defArgs (top 14)) (defBody (top 14)) (defScope (top 14)) .none kV5 dc5 pm5 an5 cd5 ct5), sl5⟩) (c5 : PySem.W.codeIn K cd5 (Str.ofString "are_ascending") = true) (k5 : PySem.W.keepIn K (.ref f5) = true)
    {f6 : Addr} {oc6 kV6 dc6 pm6 cd6 ct6 : Value} {od6 an6 : Option Addr} {sl6 : Array (Option Value)}
    (a6 : PySem.W.nsIn K mainGlobals (Str.ofString "need_colours") = some (some (.ref f6))) (l6 : K.lookup f6 = some ⟨oc6, od6, .func (PySem.W.fnOf (Str.ofString "need_colours") (Str.ofString "need_colours") (defArgs (top 15)) (defBody (top 15)) (defScope (top 15)) .none kV6 dc6 pm6 an6 cd6 ct6), sl6⟩) (c6 : PySem.W.codeIn K cd6 (Str.ofString "need_colours") = true) (k6 : PySem.W.keepIn K (.ref f6) = true)
    {f7 : Addr} {oc7 kV7 dc7 pm7 cd7 ct7 : Value} {od7 an7 : Option Addr} {sl7 : Array (Option Value)}
    (a7 : PySem.W.nsIn K mainGlobals (Str.ofString "need_ends") = some (some (.ref f7))) (l7 : K.lookup f7 = some ⟨oc7, od7, .func (PySem.W.fnOf (Str.ofString "need_ends") (Str.ofString "need_ends") (defArgs (top 16)) (defBody (top 16)) (defScope (top 16)) .none kV7 dc7 pm7 an7 cd7 ct7), sl7⟩) (c7 : PySem.W.codeIn K cd7 (Str.ofString "need_ends") = true) (k7 : PySem.W.keepIn K (.ref f7) = true)
    {f8 : Addr} {oc8 kV8 dc8 pm8 cd8 ct8 : Value} {od8 an8 : Option Addr} {sl8 : Array (Option Value)}
    (a8 : PySem.W.nsIn K mainGlobals (Str.ofString "lengths_leaned") = some (some (.ref f8))) (l8 : K.lookup f8 = some ⟨oc8, od8, .func (PySem.W.fnOf (Str.ofString "lengths_leaned") (Str.ofString "lengths_leaned") (defArgs (top 17)) (defBody (top 17)) (defScope (top 17)) .none kV8 dc8 pm8 an8 cd8 ct8), sl8⟩) (c8 : PySem.W.codeIn K cd8 (Str.ofString "lengths_leaned") = true) (k8 : PySem.W.keepIn K (.ref f8) = true)
    {f9 : Addr} {oc9 kV9 dc9 pm9 cd9 ct9 : Value} {od9 an9 : Option Addr} {sl9 : Array (Option Value)}
    (a9 : PySem.W.nsIn K mainGlobals (Str.ofString "turned") = some (some (.ref f9))) (l9 : K.lookup f9 = some ⟨oc9, od9, .func (PySem.W.fnOf (Str.ofString "turned") (Str.ofString "turned") (defArgs (top 18)) (defBody (top 18)) (defScope (top 18)) .none kV9 dc9 pm9 an9 cd9 ct9), sl9⟩) (c9 : PySem.W.codeIn K cd9 (Str.ofString "turned") = true) (k9 : PySem.W.keepIn K (.ref f9) = true)
    {f10 : Addr} {oc10 kV10 dc10 pm10 cd10 ct10 : Value} {od10 an10 : Option Addr} {sl10 : Array (Option Value)}
    (a10 : PySem.W.nsIn K mainGlobals (Str.ofString "numbers_of") = some (some (.ref f10))) (l10 : K.lookup f10 = some ⟨oc10, od10, .func (PySem.W.fnOf (Str.ofString "numbers_of") (Str.ofString "numbers_of") (defArgs (top 20)) (defBody (top 20)) (defScope (top 20)) .none kV10 dc10 pm10 an10 cd10 ct10), sl10⟩) (c10 : PySem.W.codeIn K cd10 (Str.ofString "numbers_of") = true) (k10 : PySem.W.keepIn K (.ref f10) = true)
    {f11 : Addr} {oc11 kV11 dc11 pm11 cd11 ct11 : Value} {od11 an11 : Option Addr} {sl11 : Array (Option Value)}
    (a11 : PySem.W.nsIn K mainGlobals (Str.ofString "sign_at") = some (some (.ref f11))) (l11 : K.lookup f11 = some ⟨oc11, od11, .func (PySem.W.fnOf (Str.ofString "sign_at") (Str.ofString "sign_at") (defArgs (top 22)) (defBody (top 22)) (defScope (top 22)) .none kV11 dc11 pm11 an11 cd11 ct11), sl11⟩) (c11 : PySem.W.codeIn K cd11 (Str.ofString "sign_at") = true) (k11 : PySem.W.keepIn K (.ref f11) = true)
    {f12 : Addr} {oc12 kV12 dc12 pm12 cd12 ct12 : Value} {od12 an12 : Option Addr} {sl12 : Array (Option Value)}
    (a12 : PySem.W.nsIn K mainGlobals (Str.ofString "rest_of") = some (some (.ref f12))) (l12 : K.lookup f12 = some ⟨oc12, od12, .func (PySem.W.fnOf (Str.ofString "rest_of") (Str.ofString "rest_of") (defArgs (top 23)) (defBody (top 23)) (defScope (top 23)) .none kV12 dc12 pm12 an12 cd12 ct12), sl12⟩) (c12 : PySem.W.codeIn K cd12 (Str.ofString "rest_of") = true) (k12 : PySem.W.keepIn K (.ref f12) = true)
    {f13 : Addr} {oc13 kV13 dc13 pm13 cd13 ct13 : Value} {od13 an13 : Option Addr} {sl13 : Array (Option Value)}
    (a13 : PySem.W.nsIn K mainGlobals (Str.ofString "is_right_choice") = some (some (.ref f13))) (l13 : K.lookup f13 = some ⟨oc13, od13, .func (PySem.W.fnOf (Str.ofString "is_right_choice") (Str.ofString "is_right_choice") (defArgs (top 24)) (defBody (top 24)) (defScope (top 24)) .none kV13 dc13 pm13 an13 cd13 ct13), sl13⟩) (c13 : PySem.W.codeIn K cd13 (Str.ofString "is_right_choice") = true) (k13 : PySem.W.keepIn K (.ref f13) = true)
    {f14 : Addr} {oc14 kV14 dc14 pm14 cd14 ct14 : Value} {od14 an14 : Option Addr} {sl14 : Array (Option Value)}
    (a14 : PySem.W.nsIn K mainGlobals (Str.ofString "choices_of") = some (some (.ref f14))) (l14 : K.lookup f14 = some ⟨oc14, od14, .func (PySem.W.fnOf (Str.ofString "choices_of") (Str.ofString "choices_of") (defArgs (top 25)) (defBody (top 25)) (defScope (top 25)) .none kV14 dc14 pm14 an14 cd14 ct14), sl14⟩) (c14 : PySem.W.codeIn K cd14 (Str.ofString "choices_of") = true) (k14 : PySem.W.keepIn K (.ref f14) = true)
    {f15 : Addr} {oc15 kV15 dc15 pm15 cd15 ct15 : Value} {od15 an15 : Option Addr} {sl15 : Array (Option Value)}
    (a15 : PySem.W.nsIn K mainGlobals (Str.ofString "transversals_in") = some (some (.ref f15))) (l15 : K.lookup f15 = some ⟨oc15, od15, .func (PySem.W.fnOf (Str.ofString "transversals_in") (Str.ofString "transversals_in") (defArgs (top 26)) (defBody (top 26)) (defScope (top 26)) .none kV15 dc15 pm15 an15 cd15 ct15), sl15⟩) (c15 : PySem.W.codeIn K cd15 (Str.ofString "transversals_in") = true) (k15 : PySem.W.keepIn K (.ref f15) = true)
    {f16 : Addr} {oc16 kV16 dc16 pm16 cd16 ct16 : Value} {od16 an16 : Option Addr} {sl16 : Array (Option Value)}
    (a16 : PySem.W.nsIn K mainGlobals (Str.ofString "need_setting") = some (some (.ref f16))) (l16 : K.lookup f16 = some ⟨oc16, od16, .func (PySem.W.fnOf (Str.ofString "need_setting") (Str.ofString "need_setting") (defArgs (top 27)) (defBody (top 27)) (defScope (top 27)) .none kV16 dc16 pm16 an16 cd16 ct16), sl16⟩) (c16 : PySem.W.codeIn K cd16 (Str.ofString "need_setting") = true) (k16 : PySem.W.keepIn K (.ref f16) = true)
    {f17 : Addr} {oc17 kV17 dc17 pm17 cd17 ct17 : Value} {od17 an17 : Option Addr} {sl17 : Array (Option Value)}
    (a17 : PySem.W.nsIn K mainGlobals (Str.ofString "transversals") = some (some (.ref f17))) (l17 : K.lookup f17 = some ⟨oc17, od17, .func (PySem.W.fnOf (Str.ofString "transversals") (Str.ofString "transversals") (defArgs (top 28)) (defBody (top 28)) (defScope (top 28)) .none kV17 dc17 pm17 an17 cd17 ct17), sl17⟩) (c17 : PySem.W.codeIn K cd17 (Str.ofString "transversals") = true) (k17 : PySem.W.keepIn K (.ref f17) = true)
    {f18 : Addr} {oc18 kV18 dc18 pm18 cd18 ct18 : Value} {od18 an18 : Option Addr} {sl18 : Array (Option Value)}
    (a18 : PySem.W.nsIn K mainGlobals (Str.ofString "colours_cut") = some (some (.ref f18))) (l18 : K.lookup f18 = some ⟨oc18, od18, .func (PySem.W.fnOf (Str.ofString "colours_cut") (Str.ofString "colours_cut") (defArgs (top 29)) (defBody (top 29)) (defScope (top 29)) .none kV18 dc18 pm18 an18 cd18 ct18), sl18⟩) (c18 : PySem.W.codeIn K cd18 (Str.ofString "colours_cut") = true) (k18 : PySem.W.keepIn K (.ref f18) = true)
    {f19 : Addr} {oc19 kV19 dc19 pm19 cd19 ct19 : Value} {od19 an19 : Option Addr} {sl19 : Array (Option Value)}
    (a19 : PySem.W.nsIn K mainGlobals (Str.ofString "is_choice_of") = some (some (.ref f19))) (l19 : K.lookup f19 = some ⟨oc19, od19, .func (PySem.W.fnOf (Str.ofString "is_choice_of") (Str.ofString "is_choice_of") (defArgs (top 30)) (defBody (top 30)) (defScope (top 30)) .none kV19 dc19 pm19 an19 cd19 ct19), sl19⟩) (c19 : PySem.W.codeIn K cd19 (Str.ofString "is_choice_of") = true) (k19 : PySem.W.keepIn K (.ref f19) = true)
    {f20 : Addr} {oc20 kV20 dc20 pm20 cd20 ct20 : Value} {od20 an20 : Option Addr} {sl20 : Array (Option Value)}
    (a20 : PySem.W.nsIn K mainGlobals (Str.ofString "is_transversal") = some (some (.ref f20))) (l20 : K.lookup f20 = some ⟨oc20, od20, .func (PySem.W.fnOf (Str.ofString "is_transversal") (Str.ofString "is_transversal") (defArgs (top 31)) (defBody (top 31)) (defScope (top 31)) .none kV20 dc20 pm20 an20 cd20 ct20), sl20⟩) (c20 : PySem.W.codeIn K cd20 (Str.ofString "is_transversal") = true) (k20 : PySem.W.keepIn K (.ref f20) = true)
    {f21 : Addr} {oc21 kV21 dc21 pm21 cd21 ct21 : Value} {od21 an21 : Option Addr} {sl21 : Array (Option Value)}
    (a21 : PySem.W.nsIn K mainGlobals (Str.ofString "corners_in") = some (some (.ref f21))) (l21 : K.lookup f21 = some ⟨oc21, od21, .func (PySem.W.fnOf (Str.ofString "corners_in") (Str.ofString "corners_in") (defArgs (top 33)) (defBody (top 33)) (defScope (top 33)) .none kV21 dc21 pm21 an21 cd21 ct21), sl21⟩) (c21 : PySem.W.codeIn K cd21 (Str.ofString "corners_in") = true) (k21 : PySem.W.keepIn K (.ref f21) = true)
    {f22 : Addr} {oc22 kV22 dc22 pm22 cd22 ct22 : Value} {od22 an22 : Option Addr} {sl22 : Array (Option Value)}
    (a22 : PySem.W.nsIn K mainGlobals (Str.ofString "corners_of") = some (some (.ref f22))) (l22 : K.lookup f22 = some ⟨oc22, od22, .func (PySem.W.fnOf (Str.ofString "corners_of") (Str.ofString "corners_of") (defArgs (top 34)) (defBody (top 34)) (defScope (top 34)) .none kV22 dc22 pm22 an22 cd22 ct22), sl22⟩) (c22 : PySem.W.codeIn K cd22 (Str.ofString "corners_of") = true) (k22 : PySem.W.keepIn K (.ref f22) = true)
    {f23 : Addr} {oc23 kV23 dc23 pm23 cd23 ct23 : Value} {od23 an23 : Option Addr} {sl23 : Array (Option Value)}
    (a23 : PySem.W.nsIn K mainGlobals (Str.ofString "_law_st_sums") = some (some (.ref f23))) (l23 : K.lookup f23 = some ⟨oc23, od23, .func (PySem.W.fnOf (Str.ofString "_law_st_sums") (Str.ofString "_law_st_sums") (defArgs (top 36)) (defBody (top 36)) (defScope (top 36)) .none kV23 dc23 pm23 an23 cd23 ct23), sl23⟩) (c23 : PySem.W.codeIn K cd23 (Str.ofString "_law_st_sums") = true) (k23 : PySem.W.keepIn K (.ref f23) = true)
    {f24 : Addr} {oc24 kV24 dc24 pm24 cd24 ct24 : Value} {od24 an24 : Option Addr} {sl24 : Array (Option Value)}
    (a24 : PySem.W.nsIn K mainGlobals (Str.ofString "_law_st_offsets") = some (some (.ref f24))) (l24 : K.lookup f24 = some ⟨oc24, od24, .func (PySem.W.fnOf (Str.ofString "_law_st_offsets") (Str.ofString "_law_st_offsets") (defArgs (top 37)) (defBody (top 37)) (defScope (top 37)) .none kV24 dc24 pm24 an24 cd24 ct24), sl24⟩) (c24 : PySem.W.codeIn K cd24 (Str.ofString "_law_st_offsets") = true) (k24 : PySem.W.keepIn K (.ref f24) = true)
    {f25 : Addr} {oc25 kV25 dc25 pm25 cd25 ct25 : Value} {od25 an25 : Option Addr} {sl25 : Array (Option Value)}
    (a25 : PySem.W.nsIn K mainGlobals (Str.ofString "_law_st_is") = some (some (.ref f25))) (l25 : K.lookup f25 = some ⟨oc25, od25, .func (PySem.W.fnOf (Str.ofString "_law_st_is") (Str.ofString "_law_st_is") (defArgs (top 38)) (defBody (top 38)) (defScope (top 38)) .none kV25 dc25 pm25 an25 cd25 ct25), sl25⟩) (c25 : PySem.W.codeIn K cd25 (Str.ofString "_law_st_is") = true) (k25 : PySem.W.keepIn K (.ref f25) = true)
    {f26 : Addr} {oc26 kV26 dc26 pm26 cd26 ct26 : Value} {od26 an26 : Option Addr} {sl26 : Array (Option Value)}
    (a26 : PySem.W.nsIn K mainGlobals (Str.ofString "_law_st_all") = some (some (.ref f26))) (l26 : K.lookup f26 = some ⟨oc26, od26, .func (PySem.W.fnOf (Str.ofString "_law_st_all") (Str.ofString "_law_st_all") (defArgs (top 39)) (defBody (top 39)) (defScope (top 39)) .none kV26 dc26 pm26 an26 cd26 ct26), sl26⟩) (c26 : PySem.W.codeIn K cd26 (Str.ofString "_law_st_all") = true) (k26 : PySem.W.keepIn K (.ref f26) = true)
    {f27 : Addr} {oc27 kV27 dc27 pm27 cd27 ct27 : Value} {od27 an27 : Option Addr} {sl27 : Array (Option Value)}
    (a27 : PySem.W.nsIn K mainGlobals (Str.ofString "_law_st_row") = some (some (.ref f27))) (l27 : K.lookup f27 = some ⟨oc27, od27, .func (PySem.W.fnOf (Str.ofString "_law_st_row") (Str.ofString "_law_st_row") (defArgs (top 40)) (defBody (top 40)) (defScope (top 40)) .none kV27 dc27 pm27 an27 cd27 ct27), sl27⟩) (c27 : PySem.W.codeIn K cd27 (Str.ofString "_law_st_row") = true) (k27 : PySem.W.keepIn K (.ref f27) = true)
    {f28 : Addr} {oc28 kV28 dc28 pm28 cd28 ct28 : Value} {od28 an28 : Option Addr} {sl28 : Array (Option Value)}
    (a28 : PySem.W.nsIn K mainGlobals (Str.ofString "_law_begun") = some (some (.ref f28))) (l28 : K.lookup f28 = some ⟨oc28, od28, .func (PySem.W.fnOf (Str.ofString "_law_begun") (Str.ofString "_law_begun") (defArgs (top 41)) (defBody (top 41)) (defScope (top 41)) .none kV28 dc28 pm28 an28 cd28 ct28), sl28⟩) (c28 : PySem.W.codeIn K cd28 (Str.ofString "_law_begun") = true) (k28 : PySem.W.keepIn K (.ref f28) = true)
    {f29 : Addr} {oc29 kV29 dc29 pm29 cd29 ct29 : Value} {od29 an29 : Option Addr} {sl29 : Array (Option Value)}
    (a29 : PySem.W.nsIn K mainGlobals (Str.ofString "_law_blended") = some (some (.ref f29))) (l29 : K.lookup f29 = some ⟨oc29, od29, .func (PySem.W.fnOf (Str.ofString "_law_blended") (Str.ofString "_law_blended") (defArgs (top 42)) (defBody (top 42)) (defScope (top 42)) .none kV29 dc29 pm29 an29 cd29 ct29), sl29⟩) (c29 : PySem.W.codeIn K cd29 (Str.ofString "_law_blended") = true) (k29 : PySem.W.keepIn K (.ref f29) = true)
    {f30 : Addr} {oc30 kV30 dc30 pm30 cd30 ct30 : Value} {od30 an30 : Option Addr} {sl30 : Array (Option Value)}
    (a30 : PySem.W.nsIn K mainGlobals (Str.ofString "_law_draw") = some (some (.ref f30))) (l30 : K.lookup f30 = some ⟨oc30, od30, .func (PySem.W.fnOf (Str.ofString "_law_draw") (Str.ofString "_law_draw") (defArgs (top 43)) (defBody (top 43)) (defScope (top 43)) .none kV30 dc30 pm30 an30 cd30 ct30), sl30⟩) (c30 : PySem.W.codeIn K cd30 (Str.ofString "_law_draw") = true) (k30 : PySem.W.keepIn K (.ref f30) = true)
    {f31 : Addr} {oc31 kV31 dc31 pm31 cd31 ct31 : Value} {od31 an31 : Option Addr} {sl31 : Array (Option Value)}
    (a31 : PySem.W.nsIn K mainGlobals (Str.ofString "_law_pick") = some (some (.ref f31))) (l31 : K.lookup f31 = some ⟨oc31, od31, .func (PySem.W.fnOf (Str.ofString "_law_pick") (Str.ofString "_law_pick") (defArgs (top 44)) (defBody (top 44)) (defScope (top 44)) .none kV31 dc31 pm31 an31 cd31 ct31), sl31⟩) (c31 : PySem.W.codeIn K cd31 (Str.ofString "_law_pick") = true) (k31 : PySem.W.keepIn K (.ref f31) = true)
    {f32 : Addr} {oc32 kV32 dc32 pm32 cd32 ct32 : Value} {od32 an32 : Option Addr} {sl32 : Array (Option Value)}
    (a32 : PySem.W.nsIn K mainGlobals (Str.ofString "_law_shuffled") = some (some (.ref f32))) (l32 : K.lookup f32 = some ⟨oc32, od32, .func (PySem.W.fnOf (Str.ofString "_law_shuffled") (Str.ofString "_law_shuffled") (defArgs (top 45)) (defBody (top 45)) (defScope (top 45)) .none kV32 dc32 pm32 an32 cd32 ct32), sl32⟩) (c32 : PySem.W.codeIn K cd32 (Str.ofString "_law_shuffled") = true) (k32 : PySem.W.keepIn K (.ref f32) = true)
    {f33 : Addr} {oc33 kV33 dc33 pm33 cd33 ct33 : Value} {od33 an33 : Option Addr} {sl33 : Array (Option Value)}
    (a33 : PySem.W.nsIn K mainGlobals (Str.ofString "_law_many") = some (some (.ref f33))) (l33 : K.lookup f33 = some ⟨oc33, od33, .func (PySem.W.fnOf (Str.ofString "_law_many") (Str.ofString "_law_many") (defArgs (top 46)) (defBody (top 46)) (defScope (top 46)) .none kV33 dc33 pm33 an33 cd33 ct33), sl33⟩) (c33 : PySem.W.codeIn K cd33 (Str.ofString "_law_many") = true) (k33 : PySem.W.keepIn K (.ref f33) = true)
    {f34 : Addr} {oc34 kV34 dc34 pm34 cd34 ct34 : Value} {od34 an34 : Option Addr} {sl34 : Array (Option Value)}
    (a34 : PySem.W.nsIn K mainGlobals (Str.ofString "_law_leaned") = some (some (.ref f34))) (l34 : K.lookup f34 = some ⟨oc34, od34, .func (PySem.W.fnOf (Str.ofString "_law_leaned") (Str.ofString "_law_leaned") (defArgs (top 47)) (defBody (top 47)) (defScope (top 47)) .none kV34 dc34 pm34 an34 cd34 ct34), sl34⟩) (c34 : PySem.W.codeIn K cd34 (Str.ofString "_law_leaned") = true) (k34 : PySem.W.keepIn K (.ref f34) = true)
    {f35 : Addr} {oc35 kV35 dc35 pm35 cd35 ct35 : Value} {od35 an35 : Option Addr} {sl35 : Array (Option Value)}
    (a35 : PySem.W.nsIn K mainGlobals (Str.ofString "_law_choices") = some (some (.ref f35))) (l35 : K.lookup f35 = some ⟨oc35, od35, .func (PySem.W.fnOf (Str.ofString "_law_choices") (Str.ofString "_law_choices") (defArgs (top 48)) (defBody (top 48)) (defScope (top 48)) .none kV35 dc35 pm35 an35 cd35 ct35), sl35⟩) (c35 : PySem.W.codeIn K cd35 (Str.ofString "_law_choices") = true) (k35 : PySem.W.keepIn K (.ref f35) = true)
    {f36 : Addr} {oc36 kV36 dc36 pm36 cd36 ct36 : Value} {od36 an36 : Option Addr} {sl36 : Array (Option Value)}
    (a36 : PySem.W.nsIn K mainGlobals (Str.ofString "_law_plain") = some (some (.ref f36))) (l36 : K.lookup f36 = some ⟨oc36, od36, .func (PySem.W.fnOf (Str.ofString "_law_plain") (Str.ofString "_law_plain") (defArgs (top 49)) (defBody (top 49)) (defScope (top 49)) .none kV36 dc36 pm36 an36 cd36 ct36), sl36⟩) (c36 : PySem.W.codeIn K cd36 (Str.ofString "_law_plain") = true) (k36 : PySem.W.keepIn K (.ref f36) = true)
    {f37 : Addr} {oc37 kV37 dc37 pm37 cd37 ct37 : Value} {od37 an37 : Option Addr} {sl37 : Array (Option Value)}
    (a37 : PySem.W.nsIn K mainGlobals (Str.ofString "_law_other_way") = some (some (.ref f37))) (l37 : K.lookup f37 = some ⟨oc37, od37, .func (PySem.W.fnOf (Str.ofString "_law_other_way") (Str.ofString "_law_other_way") (defArgs (top 50)) (defBody (top 50)) (defScope (top 50)) .none kV37 dc37 pm37 an37 cd37 ct37), sl37⟩) (c37 : PySem.W.codeIn K cd37 (Str.ofString "_law_other_way") = true) (k37 : PySem.W.keepIn K (.ref f37) = true)
    {f38 : Addr} {oc38 kV38 dc38 pm38 cd38 ct38 : Value} {od38 an38 : Option Addr} {sl38 : Array (Option Value)}
    (a38 : PySem.W.nsIn K mainGlobals (Str.ofString "_law_blocks") = some (some (.ref f38))) (l38 : K.lookup f38 = some ⟨oc38, od38, .func (PySem.W.fnOf (Str.ofString "_law_blocks") (Str.ofString "_law_blocks") (defArgs (top 51)) (defBody (top 51)) (defScope (top 51)) .none kV38 dc38 pm38 an38 cd38 ct38), sl38⟩) (c38 : PySem.W.codeIn K cd38 (Str.ofString "_law_blocks") = true) (k38 : PySem.W.keepIn K (.ref f38) = true)
    {f39 : Addr} {oc39 kV39 dc39 pm39 cd39 ct39 : Value} {od39 an39 : Option Addr} {sl39 : Array (Option Value)}
    (a39 : PySem.W.nsIn K mainGlobals (Str.ofString "_law_goes") = some (some (.ref f39))) (l39 : K.lookup f39 = some ⟨oc39, od39, .func (PySem.W.fnOf (Str.ofString "_law_goes") (Str.ofString "_law_goes") (defArgs (top 52)) (defBody (top 52)) (defScope (top 52)) .none kV39 dc39 pm39 an39 cd39 ct39), sl39⟩) (c39 : PySem.W.codeIn K cd39 (Str.ofString "_law_goes") = true) (k39 : PySem.W.keepIn K (.ref f39) = true)
    {f40 : Addr} {oc40 kV40 dc40 pm40 cd40 ct40 : Value} {od40 an40 : Option Addr} {sl40 : Array (Option Value)}
    (a40 : PySem.W.nsIn K mainGlobals (Str.ofString "_law_turned_goes") = some (some (.ref f40))) (l40 : K.lookup f40 = some ⟨oc40, od40, .func (PySem.W.fnOf (Str.ofString "_law_turned_goes") (Str.ofString "_law_turned_goes") (defArgs (top 53)) (defBody (top 53)) (defScope (top 53)) .none kV40 dc40 pm40 an40 cd40 ct40), sl40⟩) (c40 : PySem.W.codeIn K cd40 (Str.ofString "_law_turned_goes") = true) (k40 : PySem.W.keepIn K (.ref f40) = true)
    {f41 : Addr} {oc41 kV41 dc41 pm41 cd41 ct41 : Value} {od41 an41 : Option Addr} {sl41 : Array (Option Value)}
    (a41 : PySem.W.nsIn K mainGlobals (Str.ofString "law") = some (some (.ref f41))) (l41 : K.lookup f41 = some ⟨oc41, od41, .func (PySem.W.fnOf (Str.ofString "law") (Str.ofString "law") (defArgs (top 54)) (defBody (top 54)) (defScope (top 54)) .none kV41 dc41 pm41 an41 cd41 ct41), sl41⟩) (c41 : PySem.W.codeIn K cd41 (Str.ofString "law") = true) (k41 : PySem.W.keepIn K (.ref f41) = true)
    (z0 : PySem.W.nsIn K mainGlobals (Str.ofString "len") = some none)
    (z1 : PySem.W.nsIn K mainGlobals (Str.ofString "abs") = some none)
    (z2 : PySem.W.nsIn K mainGlobals (Str.ofString "sum") = some none)
    (z3 : PySem.W.nsIn K mainGlobals (Str.ofString "all") = some none)
    (z4 : PySem.W.nsIn K mainGlobals (Str.ofString "any") = some none)
    (z5 : PySem.W.nsIn K mainGlobals (Str.ofString "max") = some none)
    (z6 : PySem.W.nsIn K mainGlobals (Str.ofString "min") = some none)
    (z7 : PySem.W.nsIn K mainGlobals (Str.ofString "sorted") = some none)
    (z8 : PySem.W.nsIn K mainGlobals (Str.ofString "tuple") = some none)
    (z9 : PySem.W.nsIn K mainGlobals (Str.ofString "list") = some none)
    (z10 : PySem.W.nsIn K mainGlobals (Str.ofString "int") = some none)
    (z11 : PySem.W.nsIn K mainGlobals (Str.ofString "dict") = some none)
    (z12 : PySem.W.nsIn K mainGlobals (Str.ofString "range") = some none)
    (z13 : PySem.W.nsIn K mainGlobals (Str.ofString "enumerate") = some none)
    (z14 : PySem.W.nsIn K mainGlobals (Str.ofString "zip") = some none)
    (z15 : PySem.W.nsIn K mainGlobals (Str.ofString "isinstance") = some none)
    (z16 : PySem.W.nsIn K mainGlobals (Str.ofString "bool") = some none)
    (z17 : PySem.W.nsIn K mainGlobals (Str.ofString "str") = some none)
    {t0 : Tok} (q0 : PySem.W.nsIn K mainGlobals (Str.ofString "MOST_PIECES") = some (some (.int 16 t0)))
    {t1 : Tok} (q1 : PySem.W.nsIn K mainGlobals (Str.ofString "MOST_COLOURS") = some (some (.int 4 t1)))
    {t2 : Tok} (q2 : PySem.W.nsIn K mainGlobals (Str.ofString "MOST_LENGTH") = some (some (.int 1000000000000 t2))) :
    ∃ fd : FuncData, (∀ (s : Shared) (v : Value), BindsTo s fd ⟨[v], []⟩ [(Str.ofString "script", v)]) ∧ ∀ base : Heap, K.In base → base.Ns mainGlobals mg → FnOk l.prog w K mg base CX0 (lvl + 1) fa fd ["script"] (spLaw K) := by
  have e := hfa.symm.trans (PySem.W.mg_of X G a41)
  cases e
  have d0 := def1_of (st := top 9) (ps := [(Str.ofString "value")]) X G a0 l0 c0 k0 (fun _ _ _ _ _ _ us hl => match us, hl with | [_], _ => rfl)
  have d1 := def1_of (st := top 10) (ps := [(Str.ofString "value")]) X G a1 l1 c1 k1 (fun _ _ _ _ _ _ us hl => match us, hl with | [_], _ => rfl)
  have d2 := def1_of (st := top 11) (ps := [(Str.ofString "row")]) X G a2 l2 c2 k2 (fun _ _ _ _ _ _ us hl => match us, hl with | [_], _ => rfl)
  have d3 := def1_of (st := top 12) (ps := [(Str.ofString "value")]) X G a3 l3 c3 k3 (fun _ _ _ _ _ _ us hl => match us, hl with | [_], _ => rfl)
  have d4 := def1_of (st := top 13) (ps := [(Str.ofString "row")]) X G a4 l4 c4 k4 (fun _ _ _ _ _ _ us hl => match us, hl with | [_], _ => rfl)
  have d5 := def1_of (st := top 14) (ps := [(Str.ofString "value"), (Str.ofString "most")]) X G a5 l5 c5 k5 (fun _ _ _ _ _ _ us hl => match us, hl with | [_, _], _ => rfl)
  have d6 := def1_of (st := top 15) (ps := [(Str.ofString "row"), (Str.ofString "colours")]) X G a6 l6 c6 k6 (fun _ _ _ _ _ _ us hl => match us, hl with | [_, _], _ => rfl)
  have d7 := def1_of (st := top 16) (ps := [(Str.ofString "row"), (Str.ofString "fixed")]) X G a7 l7 c7 k7 (fun _ _ _ _ _ _ us hl => match us, hl with | [_, _], _ => rfl)
  have d8 := def1_of (st := top 17) (ps := [(Str.ofString "row")]) X G a8 l8 c8 k8 (fun _ _ _ _ _ _ us hl => match us, hl with | [_], _ => rfl)
  have d9 := def1_of (st := top 18) (ps := [(Str.ofString "row")]) X G a9 l9 c9 k9 (fun _ _ _ _ _ _ us hl => match us, hl with | [_], _ => rfl)
  have d10 := def1_of (st := top 20) (ps := [(Str.ofString "row"), (Str.ofString "colour")]) X G a10 l10 c10 k10 (fun _ _ _ _ _ _ us hl => match us, hl with | [_, _], _ => rfl)
  have d11 := def1_of (st := top 22) (ps := [(Str.ofString "fixed"), (Str.ofString "choice"), (Str.ofString "number")]) X G a11 l11 c11 k11 (fun _ _ _ _ _ _ us hl => match us, hl with | [_, _, _], _ => rfl)
  have d12 := def1_of (st := top 23) (ps := [(Str.ofString "row"), (Str.ofString "lengths"), (Str.ofString "fixed"), (Str.ofString "choice"), (Str.ofString "chosen")]) X G a12 l12 c12 k12 (fun _ _ _ _ _ _ us hl => match us, hl with | [_, _, _, _, _], _ => rfl)
  have d13 := def1_of (st := top 24) (ps := [(Str.ofString "row"), (Str.ofString "lengths"), (Str.ofString "fixed"), (Str.ofString "choice")]) X G a13 l13 c13 k13 (fun _ _ _ _ _ _ us hl => match us, hl with | [_, _, _, _], _ => rfl)
  have d14 := def1_of (st := top 25) (ps := [(Str.ofString "row"), (Str.ofString "colours")]) X G a14 l14 c14 k14 (fun _ _ _ _ _ _ us hl => match us, hl with | [_, _], _ => rfl)
  have d15 := def1_of (st := top 26) (ps := [(Str.ofString "row"), (Str.ofString "colours"), (Str.ofString "fixed")]) X G a15 l15 c15 k15 (fun _ _ _ _ _ _ us hl => match us, hl with | [_, _, _], _ => rfl)
  have d16 := def1_of (st := top 27) (ps := [(Str.ofString "row"), (Str.ofString "colours"), (Str.ofString "fixed")]) X G a16 l16 c16 k16 (fun _ _ _ _ _ _ us hl => match us, hl with | [_, _, _], _ => rfl)
  have d17 := def1_of (st := top 28) (ps := [(Str.ofString "row"), (Str.ofString "colours"), (Str.ofString "fixed")]) X G a17 l17 c17 k17 (fun _ _ _ _ _ _ us hl => match us, hl with | [_, _, _], _ => rfl)
  have d18 := def1_of (st := top 29) (ps := [(Str.ofString "row"), (Str.ofString "choice")]) X G a18 l18 c18 k18 (fun _ _ _ _ _ _ us hl => match us, hl with | [_, _], _ => rfl)
  have d19 := def1_of (st := top 30) (ps := [(Str.ofString "row"), (Str.ofString "fixed"), (Str.ofString "value")]) X G a19 l19 c19 k19 (fun _ _ _ _ _ _ us hl => match us, hl with | [_, _, _], _ => rfl)
  have d20 := def1_of (st := top 31) (ps := [(Str.ofString "row"), (Str.ofString "colours"), (Str.ofString "fixed"), (Str.ofString "value")]) X G a20 l20 c20 k20 (fun _ _ _ _ _ _ us hl => match us, hl with | [_, _, _, _], _ => rfl)
  have d21 := def1_of (st := top 33) (ps := [(Str.ofString "row"), (Str.ofString "colours")]) X G a21 l21 c21 k21 (fun _ _ _ _ _ _ us hl => match us, hl with | [_, _], _ => rfl)
  have d22 := def1_of (st := top 34) (ps := [(Str.ofString "row"), (Str.ofString "colours")]) X G a22 l22 c22 k22 (fun _ _ _ _ _ _ us hl => match us, hl with | [_, _], _ => rfl)
  have d23 := def1_of (st := top 36) (ps := [(Str.ofString "row"), (Str.ofString "lengths")]) X G a23 l23 c23 k23 (fun _ _ _ _ _ _ us hl => match us, hl with | [_, _], _ => rfl)
  have d24 := def1_of (st := top 37) (ps := [(Str.ofString "row"), (Str.ofString "lengths"), (Str.ofString "fixed"), (Str.ofString "choice")]) X G a24 l24 c24 k24 (fun _ _ _ _ _ _ us hl => match us, hl with | [_, _, _, _], _ => rfl)
  have d25 := def1_of (st := top 38) (ps := [(Str.ofString "row"), (Str.ofString "fixed"), (Str.ofString "choice")]) X G a25 l25 c25 k25 (fun _ _ _ _ _ _ us hl => match us, hl with | [_, _, _], _ => rfl)
  have d26 := def1_of (st := top 39) (ps := [(Str.ofString "row"), (Str.ofString "colours"), (Str.ofString "fixed")]) X G a26 l26 c26 k26 (fun _ _ _ _ _ _ us hl => match us, hl with | [_, _, _], _ => rfl)
  have d27 := def1_of (st := top 40) (ps := [(Str.ofString "draws"), (Str.ofString "pieces"), (Str.ofString "most")]) X G a27 l27 c27 k27 (fun _ _ _ _ _ _ us hl => match us, hl with | [_, _, _], _ => rfl)
  have d28 := def1_of (st := top 41) (ps := [(Str.ofString "script")]) X G a28 l28 c28 k28 (fun _ _ _ _ _ _ us hl => match us, hl with | [_], _ => rfl)
  have d29 := def1_of (st := top 42) (ps := [(Str.ofString "state")]) X G a29 l29 c29 k29 (fun _ _ _ _ _ _ us hl => match us, hl with | [_], _ => rfl)
  have d30 := def1_of (st := top 43) (ps := [(Str.ofString "state"), (Str.ofString "room")]) X G a30 l30 c30 k30 (fun _ _ _ _ _ _ us hl => match us, hl with | [_, _], _ => rfl)
  have d31 := def1_of (st := top 44) (ps := [(Str.ofString "state"), (Str.ofString "some")]) X G a31 l31 c31 k31 (fun _ _ _ _ _ _ us hl => match us, hl with | [_, _], _ => rfl)
  have d32 := def1_of (st := top 45) (ps := [(Str.ofString "state"), (Str.ofString "some")]) X G a32 l32 c32 k32 (fun _ _ _ _ _ _ us hl => match us, hl with | [_, _], _ => rfl)
  have d33 := def1_of (st := top 46) (ps := [(Str.ofString "row")]) X G a33 l33 c33 k33 (fun _ _ _ _ _ _ us hl => match us, hl with | [_], _ => rfl)
  have d34 := def1_of (st := top 47) (ps := [(Str.ofString "row")]) X G a34 l34 c34 k34 (fun _ _ _ _ _ _ us hl => match us, hl with | [_], _ => rfl)
  have d35 := def1_of (st := top 48) (ps := [(Str.ofString "row"), (Str.ofString "colours")]) X G a35 l35 c35 k35 (fun _ _ _ _ _ _ us hl => match us, hl with | [_, _], _ => rfl)
  have d36 := def1_of (st := top 49) (ps := [(Str.ofString "row"), (Str.ofString "colours")]) X G a36 l36 c36 k36 (fun _ _ _ _ _ _ us hl => match us, hl with | [_, _], _ => rfl)
  have d37 := def1_of (st := top 50) (ps := [(Str.ofString "fixed"), (Str.ofString "some")]) X G a37 l37 c37 k37 (fun _ _ _ _ _ _ us hl => match us, hl with | [_, _], _ => rfl)
  have d38 := def1_of (st := top 51) (ps := [(Str.ofString "row"), (Str.ofString "colours")]) X G a38 l38 c38 k38 (fun _ _ _ _ _ _ us hl => match us, hl with | [_, _], _ => rfl)
  have d39 := def1_of (st := top 52) (ps := [(Str.ofString "draws"), (Str.ofString "row"), (Str.ofString "colours"), (Str.ofString "fixed")]) X G a39 l39 c39 k39 (fun _ _ _ _ _ _ us hl => match us, hl with | [_, _, _, _], _ => rfl)
  have d40 := def1_of (st := top 53) (ps := [(Str.ofString "row"), (Str.ofString "colours"), (Str.ofString "fixed"), (Str.ofString "due")]) X G a40 l40 c40 k40 (fun _ _ _ _ _ _ us hl => match us, hl with | [_, _, _, _], _ => rfl)
  have d41 := def1_of (st := top 54) (ps := [(Str.ofString "script")]) X G a41 l41 c41 k41 (fun _ _ _ _ _ _ us hl => match us, hl with | [_], _ => rfl)
  have hbl : ∀ x, x ∈ blNames → mg x = none := by
    intro x hx
    simp only [blNames, List.mem_cons, List.mem_nil_iff, or_false] at hx
    rcases hx with rfl | rfl | rfl | rfl | rfl | rfl | rfl | rfl | rfl | rfl | rfl | rfl | rfl | rfl | rfl | rfl | rfl | rfl
    · exact PySem.W.mg_none_of X G z0
    · exact PySem.W.mg_none_of X G z1
    · exact PySem.W.mg_none_of X G z2
    · exact PySem.W.mg_none_of X G z3
    · exact PySem.W.mg_none_of X G z4
    · exact PySem.W.mg_none_of X G z5
    · exact PySem.W.mg_none_of X G z6
    · exact PySem.W.mg_none_of X G z7
    · exact PySem.W.mg_none_of X G z8
    · exact PySem.W.mg_none_of X G z9
    · exact PySem.W.mg_none_of X G z10
    · exact PySem.W.mg_none_of X G z11
    · exact PySem.W.mg_none_of X G z12
    · exact PySem.W.mg_none_of X G z13
    · exact PySem.W.mg_none_of X G z14
    · exact PySem.W.mg_none_of X G z15
    · exact PySem.W.mg_none_of X G z16
    · exact PySem.W.mg_none_of X G z17
  have hcs : ∀ x n, cs.lookup x = some n → ∃ u, mg x = some u ∧ RelV (.int n) u := by
    intro x n hx
    obtain ⟨hm⟩ := mem_of_lookup hx
    simp only [cs, List.mem_cons, List.mem_nil_iff, or_false, Prod.mk.injEq] at hm
    rcases hm with ⟨rfl, rfl⟩ | ⟨rfl, rfl⟩ | ⟨rfl, rfl⟩
    · exact ⟨_, PySem.W.mg_of X G q0, _, rfl⟩
    · exact ⟨_, PySem.W.mg_of X G q1, _, rfl⟩
    · exact ⟨_, PySem.W.mg_of X G q2, _, rfl⟩
  have hD : ∀ d ∈ tb, ∃ f fd, Def1 K mg d.name d.st d.ps f fd := by
    intro d hd
    simp only [tb, List.mem_cons, List.mem_nil_iff, or_false] at hd
    rcases hd with rfl | rfl | rfl | rfl | rfl | rfl | rfl | rfl | rfl | rfl | rfl | rfl | rfl | rfl | rfl | rfl | rfl | rfl | rfl | rfl | rfl | rfl | rfl | rfl | rfl | rfl | rfl | rfl | rfl | rfl | rfl | rfl | rfl | rfl | rfl | rfl | rfl | rfl
    · exact ⟨_, _, d0⟩
    · exact ⟨_, _, d1⟩
    · exact ⟨_, _, d2⟩
    · exact ⟨_, _, d3⟩
    · exact ⟨_, _, d4⟩
    · exact ⟨_, _, d5⟩
    · exact ⟨_, _, d6⟩
    · exact ⟨_, _, d7⟩
    · exact ⟨_, _, d8⟩
    · exact ⟨_, _, d9⟩
    · exact ⟨_, _, d10⟩
    · exact ⟨_, _, d11⟩
    · exact ⟨_, _, d12⟩
    · exact ⟨_, _, d13⟩
    · exact ⟨_, _, d14⟩
    · exact ⟨_, _, d15⟩
    · exact ⟨_, _, d16⟩
    · exact ⟨_, _, d17⟩
    · exact ⟨_, _, d18⟩
    · exact ⟨_, _, d19⟩
    · exact ⟨_, _, d20⟩
    · exact ⟨_, _, d21⟩
    · exact ⟨_, _, d22⟩
    · exact ⟨_, _, d23⟩
    · exact ⟨_, _, d24⟩
    · exact ⟨_, _, d25⟩
    · exact ⟨_, _, d26⟩
    · exact ⟨_, _, d27⟩
    · exact ⟨_, _, d31⟩
    · exact ⟨_, _, d32⟩
    · exact ⟨_, _, d33⟩
    · exact ⟨_, _, d34⟩
    · exact ⟨_, _, d35⟩
    · exact ⟨_, _, d36⟩
    · exact ⟨_, _, d37⟩
    · exact ⟨_, _, d38⟩
    · exact ⟨_, _, d39⟩
    · exact ⟨_, _, d40⟩
  refine ⟨PySem.W.fnOf (Str.ofString "law") (Str.ofString "law") (defArgs (top 54)) (defBody (top 54)) (defScope (top 54)) .none kV41 dc41 pm41 an41 cd41 ct41, fun s v => .of_eq rfl, fun base _ _ => ?_⟩
  have FBl : FnOk l.prog w K mg base CX0 1 f29 _ ["state"] spBlended := ok_blended d29.fn (hbl _ (by decide +kernel))
  have FDr := draw_hand (ok_draw d30.fn FBl (hbl _ (by decide +kernel)) d29.at_ d29.fn.kp d29.bi)
  have hH : ∀ x g, prim x = some g → ByHand l.prog w K mg base x g := by
    intro x g hg
    obtain ⟨rfl, rfl⟩ := prim_some hg
    exact ⟨_, _, _, FDr, d30.at_, d30.fn.kp, d30.bi⟩
  have hc := sys_ok (fu := fuel) (fns := fns) (cs := cs) tb_ok tb_nd tb_pr hD hH fns_in hbl hcs lvl
  exact ok_law d41.fn (by decide +kernel) ((ok_begun d28.fn (hbl _ (by decide +kernel))).mono (by decide)) d28.at_ d28.fn.kp d28.bi rfl rfl rfl rfl rfl rfl law_chk hbl hcs hc plain
end
theorem walk {l : PySem.W.OpenLaw} {q : Program} {loose : List Str} {XP : (Str → Option Value) → Heap → Prop} {YP : World → Heap → Prop} {d : DefRec} {K : Params → PySem.W.Frag} (hn : l.most = some 63) (hdf : d.params.defaults = [])
    (hY : ∀ (w : World) (h : Heap), YP w h → (K w.params).In h)
    (F : ∀ (w : World) (mg : Str → Option Value) (fa : Addr) (h : Heap), (K w.params).In h → h.Ns mainGlobals mg → mg d.name = some (.ref fa) →
      ∃ fd : FuncData, (∀ (s : Shared) (u : Value), BindsTo s fd ⟨[u], []⟩ [("script", u)]) ∧ ∀ base : Heap, (K w.params).In base → base.Ns mainGlobals mg → FnOk l.prog w (K w.params) mg base CX0 (lvl + 1) fa fd ["script"] (spLaw (K w.params))) :
    PySem.W.WalkO q loose XP YP l.row.toRowW d [] (fun f vs => PySem.call f vs) :=
  L2.walk_of (n := 63) (k := lvl + 1) (x := "script") (CX := fun _ => CX0) (sp := fun w => spLaw (K w.params)) hn (by decide +kernel) hdf ⟨rfl, by decide +kernel, by decide +kernel⟩ hY F (fun _ _ a ns hl _ hS => ⟨a, ns, rfl, hS, hl, fun _ => rfl⟩) fun _ _ _ _ _ z => z
end Iv
open PySem PySem.W PyProof.Rows in
set_option maxRecDepth 100000 in
set_option maxHeartbeats 0 in
theorem PySem.Challenge.cw_heirshalves_k13_whole_fixed_ends_that_me_holds : PySem.Challenge.rw_heirshalves_k13_whole_fixed_ends_that_me.Holds := by
  w_on; o_law; k_head; (case hw => w_witness2)
  k_fill
  refine Iv.walk (l := PySem.Challenge.rw_heirshalves_k13_whole_fixed_ends_that_me) rfl rfl (fun w h Y => PySem.W.kIn_of Y) ?F
  case F =>
    intro w mg fa h KX G hmg
    refine' Iv.all_mk KX G hmg ?a0 ?l0 ?c0 ?k0 ?a1 ?l1 ?c1 ?k1 ?a2 ?l2 ?c2 ?k2 ?a3 ?l3 ?c3 ?k3 ?a4 ?l4 ?c4 ?k4 ?a5 ?l5 ?c5 ?k5 ?a6 ?l6 ?c6 ?k6 ?a7 ?l7 ?c7 ?k7 ?a8 ?l8 ?c8 ?k8 ?a9 ?l9 ?c9 ?k9 ?a10 ?l10 ?c10 ?k10 ?a11 ?l11 ?c11 ?k11 ?a12 ?l12 ?c12 ?k12 ?a13 ?l13 ?c13 ?k13 ?a14 ?l14 ?c14 ?k14 ?a15 ?l15 ?c15 ?k15 ?a16 ?l16 ?c16 ?k16 ?a17 ?l17 ?c17 ?k17 ?a18 ?l18 ?c18 ?k18 ?a19 ?l19 ?c19 ?k19 ?a20 ?l20 ?c20 ?k20 ?a21 ?l21 ?c21 ?k21 ?a22 ?l22 ?c22 ?k22 ?a23 ?l23 ?c23 ?k23 ?a24 ?l24 ?c24 ?k24 ?a25 ?l25 ?c25 ?k25 ?a26 ?l26 ?c26 ?k26 ?a27 ?l27 ?c27 ?k27 ?a28 ?l28 ?c28 ?k28 ?a29 ?l29 ?c29 ?k29 ?a30 ?l30 ?c30 ?k30 ?a31 ?l31 ?c31 ?k31 ?a32 ?l32 ?c32 ?k32 ?a33 ?l33 ?c33 ?k33 ?a34 ?l34 ?c34 ?k34 ?a35 ?l35 ?c35 ?k35 ?a36 ?l36 ?c36 ?k36 ?a37 ?l37 ?c37 ?k37 ?a38 ?l38 ?c38 ?k38 ?a39 ?l39 ?c39 ?k39 ?a40 ?l40 ?c40 ?k40 ?a41 ?l41 ?c41 ?k41 ?z0 ?z1 ?z2 ?z3 ?z4 ?z5 ?z6 ?z7 ?z8 ?z9 ?z10 ?z11 ?z12 ?z13 ?z14 ?z15 ?z16 ?z17 ?q0 ?q1 ?q2
    (case a0 => k_is)
    (case l0 => k_is)
    (case c0 => k_is)
    (case k0 => k_is)
    (case a1 => k_is)
    (case l1 => k_is)
    (case c1 => k_is)
    (case k1 => k_is)
    (case a2 => k_is)
    (case l2 => k_is)
    (case c2 => k_is)
    (case k2 => k_is)
    (case a3 => k_is)
    (case l3 => k_is)
    (case c3 => k_is)
    (case k3 => k_is)
    (case a4 => k_is)
    (case l4 => k_is)
    (case c4 => k_is)
    (case k4 => k_is)
    (case a5 => k_is)
    (case l5 => k_is)
    (case c5 => k_is)
    (case k5 => k_is)
    (case a6 => k_is)
    (case l6 => k_is)
    (case c6 => k_is)
    (case k6 => k_is)
    (case a7 => k_is)
    (case l7 => k_is)
    (case c7 => k_is)
    (case k7 => k_is)
    (case a8 => k_is)
    (case l8 => k_is)
    (case c8 => k_is)
    (case k8 => k_is)
    (case a9 => k_is)
    (case l9 => k_is)
    (case c9 => k_is)
    (case k9 => k_is)
    (case a10 => k_is)
    (case l10 => k_is)
    (case c10 => k_is)
    (case k10 => k_is)
    (case a11 => k_is)
    (case l11 => k_is)
    (case c11 => k_is)
    (case k11 => k_is)
    (case a12 => k_is)
    (case l12 => k_is)
    (case c12 => k_is)
    (case k12 => k_is)
    (case a13 => k_is)
    (case l13 => k_is)
    (case c13 => k_is)
    (case k13 => k_is)
    (case a14 => k_is)
    (case l14 => k_is)
    (case c14 => k_is)
    (case k14 => k_is)
    (case a15 => k_is)
    (case l15 => k_is)
    (case c15 => k_is)
    (case k15 => k_is)
    (case a16 => k_is)
    (case l16 => k_is)
    (case c16 => k_is)
    (case k16 => k_is)
    (case a17 => k_is)
    (case l17 => k_is)
    (case c17 => k_is)
    (case k17 => k_is)
    (case a18 => k_is)
    (case l18 => k_is)
    (case c18 => k_is)
    (case k18 => k_is)
    (case a19 => k_is)
    (case l19 => k_is)
    (case c19 => k_is)
    (case k19 => k_is)
    (case a20 => k_is)
    (case l20 => k_is)
    (case c20 => k_is)
    (case k20 => k_is)
    (case a21 => k_is)
    (case l21 => k_is)
    (case c21 => k_is)
    (case k21 => k_is)
    (case a22 => k_is)
    (case l22 => k_is)
    (case c22 => k_is)
    (case k22 => k_is)
    (case a23 => k_is)
    (case l23 => k_is)
    (case c23 => k_is)
    (case k23 => k_is)
    (case a24 => k_is)
    (case l24 => k_is)
    (case c24 => k_is)
    (case k24 => k_is)
    (case a25 => k_is)
    (case l25 => k_is)
    (case c25 => k_is)
    (case k25 => k_is)
    (case a26 => k_is)
    (case l26 => k_is)
    (case c26 => k_is)
    (case k26 => k_is)
    (case a27 => k_is)
    (case l27 => k_is)
    (case c27 => k_is)
    (case k27 => k_is)
    (case a28 => k_is)
    (case l28 => k_is)
    (case c28 => k_is)
    (case k28 => k_is)
    (case a29 => k_is)
    (case l29 => k_is)
    (case c29 => k_is)
    (case k29 => k_is)
    (case a30 => k_is)
    (case l30 => k_is)
    (case c30 => k_is)
    (case k30 => k_is)
    (case a31 => k_is)
    (case l31 => k_is)
    (case c31 => k_is)
    (case k31 => k_is)
    (case a32 => k_is)
    (case l32 => k_is)
    (case c32 => k_is)
    (case k32 => k_is)
    (case a33 => k_is)
    (case l33 => k_is)
    (case c33 => k_is)
    (case k33 => k_is)
    (case a34 => k_is)
    (case l34 => k_is)
    (case c34 => k_is)
    (case k34 => k_is)
    (case a35 => k_is)
    (case l35 => k_is)
    (case c35 => k_is)
    (case k35 => k_is)
    (case a36 => k_is)
    (case l36 => k_is)
    (case c36 => k_is)
    (case k36 => k_is)
    (case a37 => k_is)
    (case l37 => k_is)
    (case c37 => k_is)
    (case k37 => k_is)
    (case a38 => k_is)
    (case l38 => k_is)
    (case c38 => k_is)
    (case k38 => k_is)
    (case a39 => k_is)
    (case l39 => k_is)
    (case c39 => k_is)
    (case k39 => k_is)
    (case a40 => k_is)
    (case l40 => k_is)
    (case c40 => k_is)
    (case k40 => k_is)
    (case a41 => k_is)
    (case l41 => k_is)
    (case c41 => k_is)
    (case k41 => k_is)
    (case z0 => k_is)
    (case z1 => k_is)
    (case z2 => k_is)
    (case z3 => k_is)
    (case z4 => k_is)
    (case z5 => k_is)
    (case z6 => k_is)
    (case z7 => k_is)
    (case z8 => k_is)
    (case z9 => k_is)
    (case z10 => k_is)
    (case z11 => k_is)
    (case z12 => k_is)
    (case z13 => k_is)
    (case z14 => k_is)
    (case z15 => k_is)
    (case z16 => k_is)
    (case z17 => k_is)
    (case q0 => k_is)
    (case q1 => k_is)
    (case q2 => k_is)
