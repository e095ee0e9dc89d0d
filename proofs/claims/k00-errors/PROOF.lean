import PyProof.Rows.All
import Wide.All
import OpenK.AllK
import Wide.FinOn
import HandS.Base
import HandS.Call
import HandS.List
import HandS.ForMost
import HandS.Exc
import HandS.Deep
import HandS.Flow
import HandS.Style
import HandS.HeadHook1
import HandS.TupAny
import HandS.TupMul
import HandS.TupLe
import HandS.Text
import HandS.Star
import HandS.ForExc
import HandS.WordsExc
import HandS.IsInst
import HandS.Zip
import HandS.Comp
import KE.KUnpack
import KE.KExcSuper
import KE.KExcInit
import HandS.ExcInit
import HandS.ExcValue
import HandS.TryMany
import HandS.ExcField
import HandS.ExcIs
import OpenK.KMore
import HandS.ExcOwn
import HandS.SortOrd
import HandS.SortRule
import PyProof.TupleOfSeq
import HandS.TupSets
import KE.KeyNested
import HandS.Defaults
import HandS.HeadHook2
import HandS.HeadEnd
import KE.KStateDown
import HandS.Ends
import HandS.More
import HandS.Words
import HandS.Head0
import HandS.Head1
import HandS.Head2
import PySem.Challenge.RW_touchrights_k00_errors_made_by_hand
set_option Elab.async false
set_option maxHeartbeats 4000000
section
set_option linter.all false
set_option maxRecDepth 100000
/-! DlEv: a small language of data and what it evaluates to (plain Lean, no machine). -/
namespace Dl
open PySem L2
abbrev D := PyData

/-- a value: data that stays as it is, or a list that nobody else knows -/
inductive Vl where
  | fr (d : D) | ow (xs : List D)
def Vl.d : Vl → D
  | .fr d => d
  | .ow xs => .list xs
/-- a slot -/
inductive Sl where
  | un | fr (d : D) | ow (xs : List D)
abbrev Env := List Sl
def Vl.sl : Vl → Sl
  | .fr d => .fr d
  | .ow xs => .ow xs

inductive R (α : Type) where
  | ok (a : α) | exc (c : Nat) (xs : List D) (ρ : Env) | stuck
def R.bind {α β : Type} (r : R α) (f : α → R β) : R β := match r with
  | .ok a => f a
  | .exc c xs ρ => .exc c xs ρ
  | .stuck => .stuck
def R.opt {α β : Type} (o : Option α) (f : α → R β) : R β := match o with
  | some a => f a
  | none => .stuck

inductive BOp where
  | add | sub | mul | fdiv | mod | pow
  deriving DecidableEq
inductive COp where
  | eq | ne | lt | le | gt | ge | is | isnot | in_ | notin
  deriving DecidableEq
inductive Ty where
  | str | tuple | list | int | bool
  deriving DecidableEq
inductive BI where
  | len | tuple | list | sorted | sset | sset2 | all | any | sum | abs | int | min | max | lrange | lrange2
  deriving DecidableEq

mutual
inductive T where
  | nm (i : Nat) | tp (ts : Ts)
inductive Ts where
  | nil | cons (t : T) (ts : Ts)
end
mutual
inductive E where
  | lit (d : D) | con (x : Str) (d : D)
  | var (i : Nat) | pk (i : Nat) | mv (i : Nat)
  | neg (a : E) | notE (a : E)
  | bin (o : BOp) (a b : E) | rep (a b : E) | cmp (o : COp) (a b : E) | chain (o1 o2 : COp) (a b c : E)
  | andE (a b : E) | orE (a b : E) | ite (t a b : E)
  | idx (a b : E) | slice (a lo hi : E) | rev (a : E) | abs_
  | lst (es : Es) | tup (es : Es)
  | call (f : Nat) (es : Es) | callk (f : Nat) (perm : List Nat) (es : Es) | calls (fs : List Nat) (i : E) (es : Es) | call0 (f : Nat) | callio (f i : Nat) (es : Es) | callt (f : Nat) (a : E) (es : Es)
  | bi (b : BI) (es : Es)
  | comp (gs : Gs)
  | app (i : Nat) (a : E) | ext (i : Nat) (a : E) | pop0 (i : Nat) | pop1 (i : Nat) (a : E)
  | isin (a : E) (ts : List Ty)
  | mkx (x f : Str) (kw : Bool) (a : E) | mk0 (x : Str) | attr (a : E) (f : Str) (tab : List Str) | isx (a : E) (cs : List Str) (tab : List (Str × Bool))
inductive Es where
  | nil | cons (star : Bool) (e : E) (es : Es)
inductive It where
  | of (a : E) | zip (a b : E) | enum (a : E) | rng (a : E) | rng2 (a b : E)
inductive Gs where
  | elt (e : E) | cons (t : T) (it : It) (ifs : Es) (g : Gs)
end

/-! ### exceptions as data: the name of the class, the field -/
def excD0 (x : Str) : D := .dict [(.none, .str x)]
def excD (x f : Str) (d : D) : D := .dict [(.none, .str x), (.str f, d)]
/-- a field, of these classes -/
def attrD (f : Str) (tab : List Str) : D → Option D
  | .dict [(.none, .str x), (.str g, v)] => if decide (g = f) && tab.any (fun y => decide (y = x)) then some v else none
  | _ => none
def clsD : D → Option Str
  | .dict ((.none, .str x) :: _) => some x
  | _ => none
/-- isinstance, by a table of classes -/
def isxD (tab : List (Str × Bool)) (d : D) : Option Bool := (clsD d).bind fun x => (tab.find? fun p => decide (p.1 = x)).map (·.2)
/-! ### primitives on data -/
def items? : D → Option (List D)
  | .list xs => some xs
  | .tuple xs => some xs
  | _ => none
def small (i : Int) : Bool := decide (-(2 ^ 64) < i) && decide (i < 2 ^ 64)
def inRng (i : Int) : Bool := decide (-(2 ^ 62) ≤ i) && decide (i < 2 ^ 62)
def fits (n : Nat) : Bool := Nat.ble n 16777216
def truD : D → Option Bool
  | .none => some false
  | .bool b => some b
  | .int i => some (i != 0)
  | .str x => if fits x.length then some ((x.length : Int) != 0) else none
  | .list xs => some (!xs.isEmpty)
  | .tuple xs => some (!xs.isEmpty)
  | .dict _ => none
def codes (x : Str) : List Nat := x.cps.toList
def ltN : List Nat → List Nat → Bool
  | [], [] => false
  | [], _ :: _ => true
  | _ :: _, [] => false
  | x :: xs, y :: ys => if x = y then ltN xs ys else decide (x < y)
mutual
/-- x < y, where Python has an answer for these -/
def ltD : D → D → Option Bool
  | .int i, .int j => some (decide (i < j))
  | .str x, .str y => some (ltN (codes x) (codes y))
  | .tuple xs, .tuple ys => if cmpL xs ys then some (lexL xs ys) else none
  | _, _ => none
/-- each pair is equal or has an answer -/
def cmpL : List D → List D → Bool
  | x :: xs, y :: ys => (PyData.eqv x y || (ltD x y).isSome) && cmpL xs ys
  | _, _ => true
def lexL : List D → List D → Bool
  | [], [] => false
  | [], _ :: _ => true
  | _ :: _, [] => false
  | x :: xs, y :: ys => if PyData.eqv x y then lexL xs ys else (ltD x y).getD false
end
def shp (d : D) : Bool := SeqAt.shaped d
def gtD (a b : D) : Option Bool := match a, b with
  | .int i, .int j => some (decide (j < i))
  | .str x, .str y => some (ltN (codes y) (codes x))
  | _, _ => none
def leD (a b : D) : Option Bool := match a, b with
  | .int i, .int j => some (decide (i ≤ j))
  | .str x, .str y => some (!ltN (codes y) (codes x))
  | _, _ => none
def geD (a b : D) : Option Bool := match a, b with
  | .int i, .int j => some (decide (j ≤ i))
  | .str x, .str y => some (!ltN (codes x) (codes y))
  | _, _ => none
/-- a stable sort by insertion -/
def insG {α : Type} (lt : α → α → Bool) (x : α) : List α → List α
  | [] => [x]
  | y :: r => if lt y x then y :: insG lt x r else x :: y :: r
def sortG {α : Type} (lt : α → α → Bool) : List α → List α
  | [] => []
  | x :: r => insG lt x (sortG lt r)
def ltB (x y : D) : Bool := (ltD x y).getD false
/-- any two of them compare -/
def allCmp (xs : List D) : Bool := xs.all fun x => xs.all fun y => (ltD x y).isSome
def kdD : D → Nat
  | .int _ => 1
  | .str _ => 2
  | .tuple _ => 3
  | _ => 0
/-- the first items, where all are tuples that have one -/
def headsD : List D → Option (List D)
  | [] => some []
  | .tuple (h :: _) :: r => (headsD r).map (h :: ·)
  | _ => none
/-- all of k's kind -/
def allKd (k : Nat) (xs : List D) : Bool := xs.all fun x => Nat.beq (kdD x) k
def kindOk (xs : List D) : Bool := allKd 1 xs || allKd 2 xs || (match headsD xs with
  | some hs => allKd 1 hs || allKd 2 hs || allKd 3 hs
  | none => false)
def sortD (xs : List D) : Option (List D) := if allCmp xs && kindOk xs then some (sortG ltB xs) else none
def memD (x : D) (xs : List D) : Bool := xs.any fun z => PyData.eqv z x
def dedupD : List D → List D
  | [] => []
  | x :: r => if memD x r then dedupD r else x :: dedupD r
/-- what may stand in a set here: no bools, at most n levels deep -/
def hashB : Nat → D → Bool
  | _, .none => true
  | _, .int _ => true
  | _, .str _ => true
  | n + 1, .tuple xs => xs.all (hashB n)
  | _, _ => false
def ssetD (xs : List D) : Option (List D) := if xs.all (hashB 8) && Nat.ble (dedupD xs).length (if allKd 3 xs then 63 else 4000) then sortD (dedupD xs) else none
def boolsD : List D → Option (List Bool)
  | [] => some []
  | .bool b :: r => (boolsD r).map (b :: ·)
  | _ :: _ => none
def intsD : List D → Option (List Int)
  | [] => some []
  | .int b :: r => (intsD r).map (b :: ·)
  | _ :: _ => none

def addD : D → D → Option Vl
  | .int i, .int j => some (.fr (.int (i + j)))
  | .str x, .str y => if fits (x.length + y.length) then some (.fr (.str (x ++ y))) else none
  | .list xs, .list ys => if fits (xs.length + ys.length) then some (.ow (xs ++ ys)) else none
  | .tuple xs, .tuple ys => if fits (xs.length + ys.length) then some (.fr (.tuple (xs ++ ys))) else none
  | _, _ => none
def rep {α : Type} (xs : List α) (k : Nat) : List α := (List.replicate k xs).flatten
def mulD : D → D → Option Vl
  | .int i, .int j => if small i || small j then some (.fr (.int (i * j))) else none
  | .tuple xs, .int k => if (decide (2 ≤ k) && decide (k ≤ 1000)) && (!xs.isEmpty && Nat.ble xs.length 1000) then some (.fr (.tuple (rep xs k.toNat))) else none
  | _, _ => none
def binD (o : BOp) (a b : D) : Option Vl := match o with
  | .add => addD a b
  | .mul => mulD a b
  | .sub => (match a, b with
    | .int i, .int j => some (.fr (.int (i - j)))
    | _, _ => none)
  | .fdiv => (match a, b with
    | .int i, .int j => if decide (0 < j) && decide (j < 1073741824) then some (.fr (.int (i / j))) else none
    | _, _ => none)
  | .mod => (match a, b with
    | .int i, .int j => if decide (0 < j) then some (.fr (.int (i % j))) else none
    | _, _ => none)
  | .pow => (match a, b with
    | .int i, .int j => if decide (0 ≤ j) && decide (j ≤ 1000) && small i then some (.fr (.int (i ^ j.toNat))) else none
    | _, _ => none)
def strIn (x y : Str) : Bool := !(Builtin.Str.occurrences y x 0 y.length 1).isEmpty
def inD (a b : D) : Option Bool := match b with
  | .str y => (match a with
    | .str x => some (strIn x y)
    | _ => none)
  | .list ys => if shp a && shp (.list ys) then some (memD a ys) else none
  | .tuple ys => if shp a && shp (.tuple ys) then some (memD a ys) else none
  | _ => none
def eqD (a b : D) : Option Bool := if shp a && shp b then some (PyData.eqv a b) else none
def isD (a b : D) : Option Bool := match b with
  | .none => some (match a with | .none => true | _ => false)
  | _ => none
def cmpD (o : COp) (a b : D) : Option Bool := match o with
  | .eq => eqD a b
  | .ne => (eqD a b).map (!·)
  | .lt => if shp a && shp b then ltD a b else none
  | .gt => gtD a b
  | .le => leD a b
  | .ge => geD a b
  | .is => isD a b
  | .isnot => (isD a b).map (!·)
  | .in_ => inD a b
  | .notin => (inD a b).map (!·)
def idxD (a b : D) : Option D := match a, b with
  | .list xs, .int i => atI xs i
  | .tuple xs, .int i => atI xs i
  | .str x, .int i => if fits x.length then (atI (codes x) i).map fun c => .str ⟨#[c]⟩ else none
  | _, _ => none
def partD : Option D → Option (Option Int)
  | none => some none
  | some (.int i) => some (some i)
  | some _ => none
def cutL {α : Type} (xs : List α) (lo hi : Option Int) : List α := (xs.drop (HT.sIx xs.length 0 lo)).take (HT.sIx xs.length xs.length hi - HT.sIx xs.length 0 lo)
def sliceD (a : D) (lo hi : Option Int) : Option Vl := match a with
  | .list xs => some (.ow (cutL xs lo hi))
  | .tuple xs => some (.fr (.tuple (cutL xs lo hi)))
  | .str x => if fits x.length then some (.fr (.str ⟨(cutL (codes x) lo hi).toArray⟩)) else none
  | _ => none
def revD (a : D) : Option Vl := match a with
  | .list xs => some (.ow xs.reverse)
  | .tuple xs => some (.fr (.tuple xs.reverse))
  | _ => none
def isTy : D → Ty → Bool
  | .str _, .str => true
  | .tuple _, .tuple => true
  | .list _, .list => true
  | .int _, .int => true
  | .bool _, .int => true
  | .bool _, .bool => true
  | _, _ => false
/-- whether it is one of these; what is kept in pairs is not asked -/
def isTyO (ts : List Ty) : D → Option Bool
  | .dict _ => none
  | d => some (ts.any (isTy d))
def rangeL (lo : Int) (n : Nat) : List D := (List.range n).map fun k => .int (lo + (k : Nat))
def enumD : Nat → List D → List D
  | _, [] => []
  | k, x :: r => .tuple [.int (k : Nat), x] :: enumD (k + 1) r
def biD (b : BI) (as : List D) : Option Vl := match b, as with
  | .len, [.str x] => if fits x.length then some (.fr (.int x.length)) else none
  | .len, [.list xs] => some (.fr (.int xs.length))
  | .len, [.tuple xs] => some (.fr (.int xs.length))
  | .tuple, [.list xs] => some (.fr (.tuple xs))
  | .tuple, [.tuple xs] => some (.fr (.tuple xs))
  | .list, [.list xs] => some (.ow xs)
  | .list, [.tuple xs] => some (.ow xs)
  | .sorted, [d] => (items? d).bind fun xs => if shp d then (sortD xs).map .ow else none
  | .sset, [d] => (items? d).bind fun xs => if shp d then (ssetD xs).map .ow else none
  | .sset2, [d, e] => (items? d).bind fun xs => (items? e).bind fun ys => if shp d && shp e then (ssetD (xs ++ ys)).map .ow else none
  | .all, [.list xs] => (boolsD xs).map fun bs => .fr (.bool (bs.all id))
  | .any, [.list xs] => (boolsD xs).map fun bs => .fr (.bool (bs.any id))
  | .sum, [.list xs] => (intsD xs).map fun ns => .fr (.int ns.sum)
  | .abs, [.int i] => some (.fr (.int (if i < 0 then -i else i)))
  | .int, [.int i] => some (.fr (.int i))
  | .int, [.bool b] => some (.fr (.int (if b then 1 else 0)))
  | .max, [.int i, .int j] => some (.fr (.int (if j > i then j else i)))
  | .min, [.int i, .int j] => some (.fr (.int (if j < i then j else i)))
  | .lrange, [.int j] => if inRng j && fits j.toNat then some (.ow (rangeL 0 j.toNat)) else none
  | .lrange2, [.int i, .int j] => if inRng i && inRng j && fits (j - i).toNat then some (.ow (rangeL i (j - i).toNat)) else none
  | _, _ => none
/-- what a for, a comprehension walks -/
def walkD : D → Option (List D)
  | .list xs => some xs
  | .tuple xs => some xs
  | .str x => if fits x.length then some ((codes x).map fun c => .str ⟨#[c]⟩) else none
  | _ => none

def zipD : D → D → Option (List D)
  | .list xs, .list ys => some ((xs.zip ys).map fun p => .tuple [p.1, p.2])
  | .tuple xs, .tuple ys => some ((xs.zip ys).map fun p => .tuple [p.1, p.2])
  | _, _ => none
def listD : D → Option (List D)
  | .list xs => some xs
  | _ => none

/-! ### targets -/
def setSl (ρ : Env) (i : Nat) (s : Sl) : Env := ρ.set i s
mutual
def storeD : T → D → Env → Option Env
  | .nm i, d, ρ => some (setSl ρ i (.fr d))
  | .tp ts, d, ρ => (match d with
    | .tuple xs => storeDs ts xs ρ
    | .list xs => storeDs ts xs ρ
    | _ => none)
def storeDs : Ts → List D → Env → Option Env
  | .nil, [], ρ => some ρ
  | .cons t ts, x :: xs, ρ => (storeD t x ρ).bind fun ρ' => storeDs ts xs ρ'
  | _, _, _ => none
end
def wipeE (ρ : Env) : List Nat → Env
  | [] => ρ
  | v :: vs => setSl (wipeE ρ vs) v .un
/-- the slots of vs as in ρ, the others as in ρ' -/
def backE (ρ ρ' : Env) : List Nat → Env
  | [] => ρ'
  | v :: vs => setSl (backE ρ ρ' vs) v ((ρ[v]?).getD .un)

/-! ### calls, operands -/
inductive RC where
  | ok (v : Vl) (io : Option (List D)) | exc (c : Nat) (xs : List D) | stuck
abbrev Calls := Nat → List D → Option (List D) → RC
inductive Op where
  | vl (v : Vl) | sl (i : Nat)
def slD : Sl → Option D
  | .un => none
  | .fr d => some d
  | .ow xs => some (.list xs)
def deref (ρ : Env) : Op → Option D
  | .vl v => some v.d
  | .sl i => (ρ[i]?).bind slD

/-! the slot i is neither changed nor read as a value -/
mutual
def quietT (i : Nat) : T → Bool
  | .nm j => Nat.beq i j == false
  | .tp ts => quietTs i ts
def quietTs (i : Nat) : Ts → Bool
  | .nil => true
  | .cons t ts => quietT i t && quietTs i ts
end
mutual
def quiet (i : Nat) : E → Bool
  | .lit _ => true
  | .con _ _ => true
  | .var j => Nat.beq i j == false
  | .pk _ => true
  | .mv j => Nat.beq i j == false
  | .neg a => quiet i a
  | .notE a => quiet i a
  | .bin _ a b => quiet i a && quiet i b
  | .rep a b => quiet i a && quiet i b
  | .cmp _ a b => quiet i a && quiet i b
  | .chain _ _ a b c => quiet i a && quiet i b && quiet i c
  | .andE a b => quiet i a && quiet i b
  | .orE a b => quiet i a && quiet i b
  | .ite t a b => quiet i t && quiet i a && quiet i b
  | .idx a b => quiet i a && quiet i b
  | .slice a lo hi => quiet i a && quiet i lo && quiet i hi
  | .rev a => quiet i a
  | .abs_ => true
  | .lst es => quiets i es
  | .tup es => quiets i es
  | .call _ es => quiets i es
  | .callk _ _ es => quiets i es
  | .calls _ a es => quiet i a && quiets i es
  | .call0 _ => true
  | .callio _ j es => (Nat.beq i j == false) && quiets i es
  | .callt _ a es => quiet i a && quiets i es
  | .bi _ es => quiets i es
  | .comp gs => quietG i gs
  | .app j a => (Nat.beq i j == false) && quiet i a
  | .ext j a => (Nat.beq i j == false) && quiet i a
  | .pop0 j => Nat.beq i j == false
  | .pop1 j a => (Nat.beq i j == false) && quiet i a
  | .isin a _ => quiet i a
  | .mkx _ _ _ a => quiet i a
  | .mk0 _ => true
  | .attr a _ _ => quiet i a
  | .isx a _ _ => quiet i a
def quiets (i : Nat) : Es → Bool
  | .nil => true
  | .cons _ e es => quiet i e && quiets i es
def quietI (i : Nat) : It → Bool
  | .of a => quiet i a
  | .zip a b => quiet i a && quiet i b
  | .enum a => quiet i a
  | .rng a => quiet i a
  | .rng2 a b => quiet i a && quiet i b
def quietG (i : Nat) : Gs → Bool
  | .elt e => quiet i e
  | .cons t it ifs g => quietT i t && quietI i it && quiets i ifs && quietG i g
end

/-! the slots of targets -/
mutual
def ownT : T → List Nat
  | .nm j => [j]
  | .tp ts => ownTs ts
def ownTs : Ts → List Nat
  | .nil => []
  | .cons t ts => ownT t ++ ownTs ts
end
def ownG : Gs → List Nat
  | .elt _ => []
  | .cons t _ _ g => ownT t ++ ownG g
def oneG : Gs → Bool
  | .cons _ _ _ (.elt _) => true
  | _ => false
/-- a fold of turns over items -/
def turns (f : D → Env → List D → R (Env × List D)) : List D → Env → List D → R (Env × List D)
  | [], ρ, acc => .ok (ρ, acc)
  | x :: xs, ρ, acc => (f x ρ acc).bind fun r => turns f xs r.1 r.2
/-- the slots that are looked at while one walks -/
def opsOf : It → List Nat
  | .of (.pk i) => [i]
  | .zip (.pk i) (.pk j) => [i, j]
  | .zip (.pk i) _ => [i]
  | .zip _ (.pk j) => [j]
  | .enum (.pk i) => [i]
  | _ => []

/-- an operand: a slot's list is looked at, not handed on -/
def opOf (e : E) (f : Env → R (Vl × Env)) (ρ : Env) : R (Op × Env) := match e with
  | .pk i => R.opt ((ρ[i]?).bind slD) fun _ => .ok (.sl i, ρ)
  | _ => (f ρ).bind fun r => .ok (.vl r.1, r.2)
/-- a test -/
def tsOf (e : E) (f : Env → R (Vl × Env)) (ρ : Env) : R (Bool × Env) := (opOf e f ρ).bind fun r => R.opt (deref r.2 r.1) fun d => R.opt (truD d) fun b => .ok (b, r.2)
/-- a part of a slice -/
def ptOf (e : E) (f : Env → R (Vl × Env)) (ρ : Env) : R (Option Int × Env) := match e with
  | .abs_ => .ok (none, ρ)
  | _ => (f ρ).bind fun r => (match r.1 with
    | .fr (.int i) => .ok (some i, r.2)
    | _ => .stuck)
/-- a slot's own list -/
def owOf (ρ : Env) (i : Nat) : Option (List D) := match ρ[i]? with
  | some (.ow xs) => some xs
  | _ => none
/-- a list that only we know -/
def exD (ρ : Env) : Op → Option (List D)
  | .vl (.ow ys) => some ys
  | .sl j => owOf ρ j
  | _ => none
def intOf : Vl → Option Int
  | .fr (.int i) => some i
  | _ => none
/-- what raises here is not spoken of -/
def R.nox {α : Type} : R α → R α
  | .ok a => .ok a
  | _ => .stuck
def callR (g : RC) (ρ : Env) : R (Vl × Env) := match g with
  | .ok v _ => .ok (v, ρ)
  | .exc k xs => .exc k xs ρ
  | .stuck => .stuck
def callIo (g : RC) (ρ : Env) (i : Nat) : R (Vl × Env) := match g with
  | .ok v (some ys) => .ok (v, setSl ρ i (.ow ys))
  | _ => .stuck
def callTm (g : RC) (ρ : Env) : R (Vl × Env) := match g with
  | .ok v (some _) => .ok (v, ρ)
  | _ => .stuck
/-- the things at these places -/
def pickL {α : Type} : List Nat → List α → Option (List α)
  | [], _ => some []
  | i :: is, xs => (xs[i]?).bind fun x => (pickL is xs).map (x :: ·)
def derefs (ρ : Env) : List Op → Option (List D)
  | [] => some []
  | o :: os => (deref ρ o).bind fun d => (derefs ρ os).map (d :: ·)

mutual
def evE (c : Calls) : E → Env → R (Vl × Env)
  | .lit d, ρ => .ok (.fr d, ρ)
  | .con _ d, ρ => .ok (.fr d, ρ)
  | .var i, ρ => (match ρ[i]? with
    | some (.fr d) => .ok (.fr d, ρ)
    | some (.ow xs) => .ok (.fr (.list xs), setSl ρ i (.fr (.list xs)))
    | _ => .stuck)
  | .pk _, _ => .stuck
  | .mv i, ρ => (match ρ[i]? with
    | some (.fr d) => .ok (.fr d, ρ)
    | some (.ow xs) => .ok (.ow xs, setSl ρ i .un)
    | _ => .stuck)
  | .neg a, ρ => (evE c a ρ).bind fun r => (match r.1 with
    | .fr (.int i) => .ok (.fr (.int (-i)), r.2)
    | _ => .stuck)
  | .notE a, ρ => (tsOf a (evE c a) ρ).bind fun r => .ok (.fr (.bool (!r.1)), r.2)
  | .bin o a b, ρ => (opOf a (evE c a) ρ).bind fun r => (opOf b (evE c b) r.2).bind fun q => R.opt (deref q.2 r.1) fun x => R.opt (deref q.2 q.1) fun y => R.opt (binD o x y) fun v => .ok (v, q.2)
  | .rep a b, ρ => (evE c a ρ).bind fun r => (evE c b r.2).bind fun q => (match r.1, q.1 with
    | .ow xs, .fr (.int k) => if inRng k && fits (xs.length * k.toNat) then .ok (.ow (rep xs k.toNat), q.2) else .stuck
    | _, _ => .stuck)
  | .cmp o a b, ρ => (opOf a (evE c a) ρ).bind fun r => (opOf b (evE c b) r.2).bind fun q => R.opt (deref q.2 r.1) fun x => R.opt (deref q.2 q.1) fun y => R.opt (cmpD o x y) fun k => .ok (.fr (.bool k), q.2)
  | .chain o1 o2 a b d, ρ => (opOf a (evE c a) ρ).bind fun r => (opOf b (evE c b) r.2).bind fun q => R.opt (deref q.2 r.1) fun x => R.opt (deref q.2 q.1) fun y => R.opt (cmpD o1 x y) fun k =>
      if k then (opOf d (evE c d) q.2).bind fun p => R.opt (deref p.2 q.1) fun y => R.opt (deref p.2 p.1) fun z => R.opt (cmpD o2 y z) fun k2 => .ok (.fr (.bool k2), p.2)
      else .ok (.fr (.bool false), q.2)
  | .andE a b, ρ => (evE c a ρ).bind fun r => R.opt (truD r.1.d) fun k => if k then evE c b r.2 else .ok (.fr r.1.d, r.2)
  | .orE a b, ρ => (evE c a ρ).bind fun r => R.opt (truD r.1.d) fun k => if k then .ok (r.1, r.2) else evE c b r.2
  | .ite t a b, ρ => (tsOf t (evE c t) ρ).bind fun r => if r.1 then evE c a r.2 else evE c b r.2
  | .idx a b, ρ => (opOf a (evE c a) ρ).bind fun r => (evE c b r.2).bind fun q => R.opt (deref q.2 r.1) fun x => R.opt (idxD x q.1.d) fun d => .ok (.fr d, q.2)
  | .slice a lo hi, ρ => (opOf a (evE c a) ρ).bind fun r => (ptOf lo (evE c lo) r.2).bind fun l => (ptOf hi (evE c hi) l.2).bind fun h => R.opt (deref h.2 r.1) fun x => R.opt (sliceD x l.1 h.1) fun v => .ok (v, h.2)
  | .rev a, ρ => (opOf a (evE c a) ρ).bind fun r => R.opt (deref r.2 r.1) fun x => R.opt (revD x) fun v => .ok (v, r.2)
  | .abs_, _ => .stuck
  | .lst es, ρ => (evEs c es ρ).bind fun r => if fits r.1.length then .ok (.ow r.1, r.2) else .stuck
  | .tup es, ρ => (evEs c es ρ).bind fun r => if fits r.1.length then .ok (.fr (.tuple r.1), r.2) else .stuck
  | .call f es, ρ => (evEs c es ρ).bind fun r => callR (c f r.1 none) r.2
  | .callk f perm es, ρ => (evEs c es ρ).bind fun r => R.opt (pickL perm r.1) fun ds => callR (c f ds none) r.2
  | .calls fs a es, ρ => (evE c a ρ).bind fun r => R.opt (intOf r.1) fun k => R.opt (atI fs k) fun f => (evEs c es r.2).bind fun q => callR (c f q.1 none) q.2
  | .call0 f, ρ => (callR (c f [] none) ρ).nox
  | .callio f i es, ρ => R.opt (owOf ρ i) fun _ => (evEs c es ρ).bind fun r => R.opt (owOf r.2 i) fun xs => callIo (c f r.1 (some xs)) r.2 i
  | .callt f a es, ρ => (evE c a ρ).bind fun q => (match q.1 with
    | .ow xs => (evEs c es q.2).bind fun r => callTm (c f r.1 (some xs)) r.2
    | _ => .stuck)
  | .bi b es, ρ => (evOs c es ρ).bind fun r => R.opt (derefs r.2 r.1) fun ds => R.opt (biD b ds) fun v => .ok (v, r.2)
  | .comp gs, ρ => (evG c gs (wipeE ρ (ownG gs)) []).nox.bind fun r => if oneG gs || fits r.2.length then .ok (.ow r.2, backE ρ r.1 (ownG gs)) else .stuck
  | .app i a, ρ => R.opt (owOf ρ i) fun _ => (evE c a ρ).bind fun r => R.opt (owOf r.2 i) fun xs => if fits (xs.length + 1) then .ok (.fr .none, setSl r.2 i (.ow (xs ++ [r.1.d]))) else .stuck
  | .ext i a, ρ => R.opt (owOf ρ i) fun _ => (opOf a (evE c a) ρ).bind fun r => R.opt (owOf r.2 i) fun xs => R.opt (exD r.2 r.1) fun ys => if fits (xs.length + ys.length) then .ok (.fr .none, setSl r.2 i (.ow (xs ++ ys))) else .stuck
  | .pop0 i, ρ => R.opt (owOf ρ i) fun xs => R.opt (xs.getLast?) fun d => .ok (.fr d, setSl ρ i (.ow xs.dropLast))
  | .pop1 i a, ρ => R.opt (owOf ρ i) fun _ => (evE c a ρ).bind fun r => R.opt (owOf r.2 i) fun xs => R.opt (intOf r.1) fun k => R.opt (ixN xs.length k) fun j => R.opt (xs[j]?) fun d => .ok (.fr d, setSl r.2 i (.ow (xs.eraseIdx j)))
  | .isin a ts, ρ => (opOf a (evE c a) ρ).bind fun r => R.opt (deref r.2 r.1) fun d => R.opt (isTyO ts d) fun b => .ok (.fr (.bool b), r.2)
  | .mkx x f _ a, ρ => (evE c a ρ).bind fun r => .ok (.fr (excD x f r.1.d), r.2)
  | .mk0 x, ρ => .ok (.fr (excD0 x), ρ)
  | .attr a f tab, ρ => (opOf a (evE c a) ρ).bind fun r => R.opt (deref r.2 r.1) fun d => R.opt (attrD f tab d) fun v => .ok (.fr v, r.2)
  | .isx a _ tab, ρ => (opOf a (evE c a) ρ).bind fun r => R.opt (deref r.2 r.1) fun d => R.opt (isxD tab d) fun b => .ok (.fr (.bool b), r.2)
/-- values, from the left; a starred one is spliced -/
def evEs (c : Calls) : Es → Env → R (List D × Env)
  | .nil, ρ => .ok ([], ρ)
  | .cons s e es, ρ => (evE c e ρ).bind fun r => if s then R.opt (items? r.1.d) fun xs => (evEs c es r.2).bind fun q => .ok (xs ++ q.1, q.2) else (evEs c es r.2).bind fun q => .ok (r.1.d :: q.1, q.2)
def evOs (c : Calls) : Es → Env → R (List Op × Env)
  | .nil, ρ => .ok ([], ρ)
  | .cons s e es, ρ => if s then .stuck else (opOf e (evE c e) ρ).bind fun r => (evOs c es r.2).bind fun q => .ok (r.1 :: q.1, q.2)
def evI (c : Calls) : It → Env → R (List D × Env)
  | .of a, ρ => (opOf a (evE c a) ρ).bind fun r => R.opt (deref r.2 r.1) fun d => R.opt (walkD d) fun xs => .ok (xs, r.2)
  | .zip a b, ρ => (opOf a (evE c a) ρ).bind fun r => (opOf b (evE c b) r.2).bind fun q => R.opt (deref q.2 r.1) fun x => R.opt (deref q.2 q.1) fun y => R.opt (zipD x y) fun xs => .ok (xs, q.2)
  | .enum a, ρ => (opOf a (evE c a) ρ).bind fun r => R.opt (deref r.2 r.1) fun x => R.opt (listD x) fun xs => .ok (enumD 0 xs, r.2)
  | .rng a, ρ => (evE c a ρ).bind fun r => (match r.1 with
    | .fr (.int j) => if inRng j && fits j.toNat then .ok (rangeL 0 j.toNat, r.2) else .stuck
    | _ => .stuck)
  | .rng2 a b, ρ => (evE c a ρ).bind fun r => (evE c b r.2).bind fun q => (match r.1, q.1 with
    | .fr (.int i), .fr (.int j) => if inRng i && inRng j && fits (j - i).toNat then .ok (rangeL i (j - i).toNat, q.2) else .stuck
    | _, _ => .stuck)
/-- the clauses of a comprehension, what is made so far -/
def evG (c : Calls) : Gs → Env → List D → R (Env × List D)
  | .elt e, ρ, acc => (evE c e ρ).bind fun r => .ok (r.2, acc ++ [r.1.d])
  | .cons t it ifs g, ρ, acc => (evI c it ρ).bind fun r =>
      if (opsOf it).all (fun i => quiets i ifs && quietG i g && quietT i t) then
        turns (fun x ρ acc => R.opt (storeD t x (wipeE ρ (ownT t ++ ownG g))) fun ρ1 => (evC c ifs ρ1).bind fun q => if q.1 then evG c g q.2 acc else .ok (q.2, acc)) r.1 r.2 acc
      else .stuck
/-- tests, one behind another -/
def evC (c : Calls) : Es → Env → R (Bool × Env)
  | .nil, ρ => .ok (true, ρ)
  | .cons _ e es, ρ => (tsOf e (evE c e) ρ).bind fun r => if r.1 then evC c es r.2 else .ok (false, r.2)
end
def evO (c : Calls) (e : E) (ρ : Env) : R (Op × Env) := opOf e (evE c e) ρ
def evT (c : Calls) (e : E) (ρ : Env) : R (Bool × Env) := tsOf e (evE c e) ρ

/-! ### statements -/
inductive Out where
  | next (ρ : Env) | ret (v : Vl) (ρ : Env) | brk (ρ : Env) | cont (ρ : Env) | exc (c : Nat) (xs : List D) (ρ : Env) | stuck
/-- what a clause's list holds: a literal, the exception's field, that it is one of its class above -/
inductive HI where
  | lit (d : D) | fld | is
inductive HK where
  | set (i : Nat) (his : List HI) | setL (i : Nat) (d : D) | ret (his : List HI) | retL (d : D) | setx (i : Nat) (x f : Str)
structure Hd where
  c : Nat
  sl : Option Nat
  k : HK
mutual
inductive S where
  | tryS (b : Ss) (hs : List Hd)
  | set (t : T) (e : E) | setf (t : T) (e : E) | par (is : List (Nat × Bool)) (es : Es) | sub (i : Nat) (k e : E)
  | ex (e : E) | ifS (t : E) (a b : Ss) | forS (t : T) (it : It) (b : Ss) | whileS (t : E) (b : Ss)
  | ret (e : E) | retf (e : E) | retN | raise (c : Nat) (es : Es) | pass | brk | cont
inductive Ss where
  | nil | cons (s : S) (ss : Ss)
end
def clrE (sl : Option Nat) (ρ : Env) : Env := match sl with
  | some j => setSl ρ j .un
  | none => ρ
def hval (xs : List D) : HI → Option D
  | .lit d => some d
  | .fld => xs.head?
  | .is => some (.bool true)
def hvals (xs : List D) : List HI → Option (List D)
  | [] => some []
  | h :: r => (hval xs h).bind fun d => (hvals xs r).map (d :: ·)
def R.out {α : Type} (r : R α) (f : α → Out) : Out := match r with
  | .ok a => f a
  | .exc c xs ρ => .exc c xs ρ
  | .stuck => .stuck
def optOut {α : Type} (o : Option α) (f : α → Out) : Out := match o with
  | some a => f a
  | none => .stuck
def handD (h : Hd) (xs : List D) (ρ : Env) : Out := match h.k with
  | .set i his => optOut (hvals xs his) fun ds => if fits ds.length then .next (clrE h.sl (setSl (clrE h.sl ρ) i (.fr (.list ds)))) else .stuck
  | .setL i d => .next (clrE h.sl (setSl (clrE h.sl ρ) i (.fr d)))
  | .ret his => optOut (hvals xs his) fun ds => if fits ds.length then .ret (.fr (.list ds)) (clrE h.sl ρ) else .stuck
  | .retL d => .ret (.fr d) (clrE h.sl ρ)
  | .setx i x f => (match h.sl with
    | some j => optOut xs.head? fun d => .next (clrE (some j) (setSl (clrE (some j) ρ) i (.fr (excD x f d))))
    | none => .stuck)
def catchD : List Hd → Nat → List D → Env → Out
  | [], k, xs, ρ => .exc k xs ρ
  | h :: r, k, xs, ρ => if Nat.beq h.c k then handD h xs ρ else catchD r k xs ρ
def storeV (t : T) (v : Vl) (ρ : Env) : Option Env := match t with
  | .nm i => some (setSl ρ i v.sl)
  | t => storeD t v.d ρ
/-- values with what is new among them, where it is to stay new -/
def evVs (c : Calls) : List (Nat × Bool) → Es → Env → R (List Vl × Env)
  | [], .nil, ρ => .ok ([], ρ)
  | i :: is, .cons s e es, ρ => if s then .stuck else (evE c e ρ).bind fun r => (evVs c is es r.2).bind fun q => .ok ((if i.2 then r.1 else .fr r.1.d) :: q.1, q.2)
  | _, _, _ => .stuck
def storeVs : List (Nat × Bool) → List Vl → Env → Option Env
  | [], [], ρ => some ρ
  | i :: is, v :: vs, ρ => storeVs is vs (setSl ρ i.1 v.sl)
  | _, _, _ => none
/-- a loop over items -/
def loopF (f : D → Env → Out) : List D → Env → Out
  | [], ρ => .next ρ
  | x :: xs, ρ => match f x ρ with
    | .next ρ' => loopF f xs ρ'
    | .cont ρ' => loopF f xs ρ'
    | .brk ρ' => .next ρ'
    | o => o
/-- a while, at most n turns -/
def loopW (t : Env → R (Bool × Env)) (f : Env → Out) : Nat → Env → Out
  | 0, _ => .stuck
  | n + 1, ρ => (t ρ).out fun r => if r.1 then (match f r.2 with
    | .next ρ' => loopW t f n ρ'
    | .cont ρ' => loopW t f n ρ'
    | .brk ρ' => .next ρ'
    | o => o) else .next r.2
mutual
def evS (c : Calls) (n : Nat) : S → Env → Out
  | .tryS b hs, ρ => (match evSs c n b ρ with
    | .exc k xs ρ' => catchD hs k xs ρ'
    | o => o)
  | .set t e, ρ => (evE c e ρ).out fun r => optOut (storeV t r.1 r.2) .next
  | .setf t e, ρ => (evE c e ρ).out fun r => optOut (storeD t r.1.d r.2) .next
  | .par is es, ρ => (evVs c is es ρ).out fun r => optOut (storeVs is r.1 r.2) .next
  | .sub i k e, ρ => (evE c e ρ).out fun r => optOut (owOf r.2 i) fun _ => (evE c k r.2).out fun q => optOut (owOf q.2 i) fun xs => optOut (intOf q.1) fun j => optOut (ixN xs.length j) fun m => .next (setSl q.2 i (.ow (xs.set m r.1.d)))
  | .ex e, ρ => (evE c e ρ).out fun r => .next r.2
  | .ifS t a b, ρ => (evT c t ρ).out fun r => if r.1 then evSs c n a r.2 else evSs c n b r.2
  | .forS t it b, ρ => (match opsOf it with
    | [] => (evI c it ρ).out fun r => loopF (fun x ρ => optOut (storeD t x ρ) fun ρ1 => evSs c n b ρ1) r.1 r.2
    | _ => .stuck)
  | .whileS t b, ρ => loopW (evT c t) (evSs c n b) n ρ
  | .ret e, ρ => (evE c e ρ).out fun r => .ret r.1 r.2
  | .retf e, ρ => (evE c e ρ).out fun r => .ret (.fr r.1.d) r.2
  | .retN, ρ => .ret (.fr .none) ρ
  | .raise k es, ρ => (evEs c es ρ).out fun r => .exc k r.1 r.2
  | .pass, ρ => .next ρ
  | .brk, ρ => .brk ρ
  | .cont, ρ => .cont ρ
def evSs (c : Calls) (n : Nat) : Ss → Env → Out
  | .nil, ρ => .next ρ
  | .cons s ss, ρ => match evS c n s ρ with
    | .next ρ' => evSs c n ss ρ'
    | o => o
end

/-! ### defs -/
structure FDef where
  np : Nat
  ns : Nat
  io : Bool
  body : Ss
def entry (d : FDef) (as : List D) (io : Option (List D)) : Env :=
  (match io with
  | some xs => [.ow xs]
  | none => []) ++ as.map .fr ++ List.replicate (d.ns - d.np) .un
def endsF (d : FDef) : Out → RC
  | .ret v ρ => if d.io then (match (ρ[0]? : Option Sl) with
    | some (.ow xs) => .ok v (some xs)
    | _ => .stuck) else .ok v none
  | .next ρ => if d.io then (match (ρ[0]? : Option Sl) with
    | some (.ow xs) => .ok (.fr .none) (some xs)
    | _ => .stuck) else .ok (.fr .none) none
  | .exc c xs _ => if d.io then .stuck else .exc c xs
  | _ => .stuck
abbrev Defs := Nat → Option FDef
def loops : Nat := 100000
def runD (Φ : Defs) : Nat → Calls
  | 0, _, _, _ => .stuck
  | n + 1, f, as, io => match Φ f with
    | some d => if (io.isSome == d.io) && Nat.beq ((if d.io then 1 else 0) + as.length) d.np then endsF d (evSs (runD Φ n) loops d.body (entry d as io)) else .stuck
    | none => .stuck
end Dl
end
section
set_option linter.all false
set_option maxRecDepth 100000
set_option maxHeartbeats 2000000
/-! DlRel: what the machine's state has to do with an environment of data; a piece of syntax read by what it evaluates to. -/
namespace L2
open PySem PySem.Spec PyProof.Rows Dl

/-! ### heaps -/
abbrev Ext (H H' : Hp) : Prop := Same H H'
theorem Ext.sqT {K : PySem.W.Frag} {H H' : Hp} {a : Addr} {xs : List V} (e : Same H H') (h : SqT K H a xs) : SqT K H' a xs := by
  rcases h with (h | ⟨o, h⟩) | h
  · exact .inl (.inl (e _ _ h))
  · exact .inl (.inr ⟨o, e _ _ h⟩)
  · exact .inr h
/-- an exception object, of the class cls, its fields at d -/
def ExX (cls : Value) (d : Option Addr) (a : Addr) : HO := .ext fun h => ∃ (oe : Obj) (vs : Array Value), h.get? a = some oe ∧ Zc cls d oe ∧ oe.data = .fields vs
/-! data at any depth, exceptions among it -/
mutual
inductive Dq (K : PySem.W.Frag) (H : Hp) : V → PyData → Prop
  | non : Dq K H .non .none
  | bl (b : Bool) : Dq K H (.bl b) (.bool b)
  | int (i : Int) : Dq K H (.int i) (.int i)
  | str (x : Str) : Dq K H (.str x) (.str x)
  | lst {a : Addr} {xs : List V} {ds : List PyData} : SqL K H a xs → DqAll K H xs ds → Dq K H (.ref a) (.list ds)
  | tup {a : Addr} {xs : List V} {ds : List PyData} : SqT K H a xs → DqAll K H xs ds → Dq K H (.ref a) (.tuple ds)
  | ex0 {a : Addr} {x : Str} : H a = some (ExX (.ref (He.ga K x)) none a) → Dq K H (.ref a) (excD0 x)
  | ex1 {a dd : Addr} {x f : Str} {v : V} {d : PyData} : H a = some (ExX (.ref (He.ga K x)) (some dd) a) → H dd = some (.xd [(f, v)]) → Dq K H v d → Dq K H (.ref a) (excD x f d)
inductive DqAll (K : PySem.W.Frag) (H : Hp) : List V → List PyData → Prop
  | nil : DqAll K H [] []
  | cons {v : V} {vs : List V} {d : PyData} {ds : List PyData} : Dq K H v d → DqAll K H vs ds → DqAll K H (v :: vs) (d :: ds)
end
mutual
theorem Dq.dp {K : PySem.W.Frag} {H : Hp} : ∀ {v : V} {d : D}, Dq K H v d → d.canLay0 = true → Dp K H v d
  | _, _, .non, _ => .non
  | _, _, .bl b, _ => .bl b
  | _, _, .int i, _ => .int i
  | _, _, .str x, _ => .str x
  | _, _, .lst h t, c => .lst h (DqAll.dp t c)
  | _, _, .tup h t, c => .tup h (DqAll.dp t c)
  | _, _, .ex0 .., c => by cases c
  | _, _, .ex1 .., c => by cases c
theorem DqAll.dp {K : PySem.W.Frag} {H : Hp} : ∀ {vs : List V} {ds : List D}, DqAll K H vs ds → PyData.canLayAll0 ds = true → DpAll K H vs ds
  | _, _, .nil, _ => .nil
  | _, _, .cons h t, c => by
    obtain ⟨c1, c2⟩ := Bool.and_eq_true_iff.mp (show (PyData.canLay0 _ && PyData.canLayAll0 _) = true from c)
    exact .cons (Dq.dp h c1) (DqAll.dp t c2)
end
mutual
theorem Dq.ext {K : PySem.W.Frag} {H H' : Hp} (e : Same H H') : ∀ {v : V} {d : D}, Dq K H v d → Dq K H' v d
  | _, _, .non => .non
  | _, _, .bl b => .bl b
  | _, _, .int i => .int i
  | _, _, .str x => .str x
  | _, _, .lst h t => .lst (Same.seq e h) (DqAll.ext e t)
  | _, _, .tup h t => .tup (Ext.sqT e h) (DqAll.ext e t)
  | _, _, .ex0 h => .ex0 (e _ _ h)
  | _, _, .ex1 h h2 t => .ex1 (e _ _ h) (e _ _ h2) (Dq.ext e t)
theorem DqAll.ext {K : PySem.W.Frag} {H H' : Hp} (e : Same H H') : ∀ {vs : List V} {ds : List D}, DqAll K H vs ds → DqAll K H' vs ds
  | _, _, .nil => .nil
  | _, _, .cons h t => .cons (Dq.ext e h) (DqAll.ext e t)
end
theorem DqAll.length {K : PySem.W.Frag} {H : Hp} : ∀ {vs : List V} {ds : List D}, DqAll K H vs ds → vs.length = ds.length
  | _, _, .nil => rfl
  | _, _, .cons _ t => by rw [List.length_cons, List.length_cons, DqAll.length t]
theorem DqAll.get {K : PySem.W.Frag} {H : Hp} : ∀ {vs : List V} {ds : List D} {i : Nat} {d : D}, DqAll K H vs ds → ds[i]? = some d → ∃ v, vs[i]? = some v ∧ Dq K H v d
  | _, _, _, _, .nil, h => by simp at h
  | v :: _, _, 0, _, .cons h _, e => by
    simp at e
    subst e
    exact ⟨v, by simp, h⟩
  | _, _, i + 1, d, .cons _ t, e => by
    obtain ⟨v, h1, h2⟩ := DqAll.get (i := i) (d := d) t (by simpa using e)
    exact ⟨v, by simpa using h1, h2⟩
theorem DqAll.append {K : PySem.W.Frag} {H : Hp} : ∀ {vs ws : List V} {ds es : List D}, DqAll K H vs ds → DqAll K H ws es → DqAll K H (vs ++ ws) (ds ++ es)
  | _, _, _, _, .nil, h => h
  | _, _, _, _, .cons h t, h2 => .cons h (DqAll.append t h2)
theorem DqAll.take {K : PySem.W.Frag} {H : Hp} : ∀ (n : Nat) {vs : List V} {ds : List D}, DqAll K H vs ds → DqAll K H (vs.take n) (ds.take n)
  | 0, _, _, _ => .nil
  | _ + 1, _, _, .nil => .nil
  | n + 1, _, _, .cons h t => .cons h (DqAll.take n t)
theorem DqAll.drop {K : PySem.W.Frag} {H : Hp} : ∀ (n : Nat) {vs : List V} {ds : List D}, DqAll K H vs ds → DqAll K H (vs.drop n) (ds.drop n)
  | 0, _, _, h => h
  | _ + 1, _, _, .nil => .nil
  | n + 1, _, _, .cons _ t => DqAll.drop n t
theorem DqAll.reverse {K : PySem.W.Frag} {H : Hp} : ∀ {vs : List V} {ds : List D}, DqAll K H vs ds → DqAll K H vs.reverse ds.reverse
  | _, _, .nil => .nil
  | _, _, .cons h t => by
    rw [List.reverse_cons, List.reverse_cons]
    exact DqAll.append (DqAll.reverse t) (.cons h .nil)
theorem DqAll.set {K : PySem.W.Frag} {H : Hp} {v : V} {d : D} (h : Dq K H v d) : ∀ (i : Nat) {vs : List V} {ds : List D}, DqAll K H vs ds → DqAll K H (vs.set i v) (ds.set i d)
  | _, _, _, .nil => .nil
  | 0, _, _, .cons _ t => .cons h t
  | i + 1, _, _, .cons g t => .cons g (DqAll.set h i t)
theorem DqAll.erase {K : PySem.W.Frag} {H : Hp} : ∀ (i : Nat) {vs : List V} {ds : List D}, DqAll K H vs ds → DqAll K H (vs.eraseIdx i) (ds.eraseIdx i)
  | _, _, _, .nil => .nil
  | 0, _, _, .cons _ t => t
  | i + 1, _, _, .cons g t => .cons g (DqAll.erase i t)
theorem DqAll.dropLast {K : PySem.W.Frag} {H : Hp} : ∀ {vs : List V} {ds : List D}, DqAll K H vs ds → DqAll K H vs.dropLast ds.dropLast
  | _, _, .nil => .nil
  | _, _, .cons _ .nil => .nil
  | _, _, .cons g (.cons g2 t) => .cons g (DqAll.dropLast (.cons g2 t))
theorem DqAll.reps {K : PySem.W.Frag} {H : Hp} {vs : List V} {ds : List D} (h : DqAll K H vs ds) : ∀ n : Nat, DqAll K H (List.replicate n vs).flatten (rep ds n)
  | 0 => .nil
  | n + 1 => by
    show DqAll K H (List.replicate (n + 1) vs).flatten (List.replicate (n + 1) ds).flatten
    rw [List.replicate_succ, List.replicate_succ, List.flatten_cons, List.flatten_cons]
    exact DqAll.append h (DqAll.reps h n)
theorem DqAll.ints {K : PySem.W.Frag} {H : Hp} : ∀ {vs : List V} {ds : List D} {ns : List Int}, DqAll K H vs ds → intsD ds = some ns → vs = ns.map V.int
  | _, _, ns, .nil, e => by cases e; rfl
  | _, _, ns, .cons h t, e => by
    cases h with
    | int i =>
      unfold intsD at e
      rename_i ds'
      cases q : intsD ds' with
      | none => rw [q] at e; cases e
      | some ms =>
        rw [q] at e
        cases e
        rw [DqAll.ints t q]
        rfl
    | _ => cases e
theorem DqAll.bls {K : PySem.W.Frag} {H : Hp} : ∀ {vs : List V} {ds : List D} {ns : List Bool}, DqAll K H vs ds → boolsD ds = some ns → vs = ns.map V.bl
  | _, _, ns, .nil, e => by cases e; rfl
  | _, _, ns, .cons h t, e => by
    cases h with
    | bl i =>
      unfold boolsD at e
      rename_i ds'
      cases q : boolsD ds' with
      | none => rw [q] at e; cases e
      | some ms =>
        rw [q] at e
        cases e
        rw [DqAll.bls t q]
        rfl
    | _ => cases e
theorem DqAll.of_ints {K : PySem.W.Frag} {H : Hp} : ∀ ns : List Int, DqAll K H (ns.map V.int) (ns.map PyData.int)
  | [] => .nil
  | n :: r => .cons (.int n) (DqAll.of_ints r)

end L2
namespace Dl
open PySem PySem.Spec PyProof.Rows L2

/-! ### the state -/
def OwnAt (ρ : Env) (σ : L2.St) (a : Addr) : Prop := ∃ (i : Nat) (xs : List D), ρ[i]? = some (.ow xs) ∧ σ[i]? = some (some (.ref a))
structure Ok (K : PySem.W.Frag) (P : Option V) (F : Hp) (ρ : Env) (σ : L2.St) (H : Hp) : Prop where
  sub : Same F H
  len : ρ.length = σ.length
  fr : ∀ (i : Nat) (d : D), ρ[i]? = some (.fr d) → ∃ v, σ[i]? = some (some v) ∧ Dq K F v d
  ow : ∀ (i : Nat) (xs : List D), ρ[i]? = some (.ow xs) → ∃ a vs, σ[i]? = some (some (.ref a)) ∧ F a = none ∧ H a = some (.lst vs) ∧ DqAll K F vs xs
  inj : ∀ (i j : Nat) (xs ys : List D) (a : Addr), ρ[i]? = some (.ow xs) → ρ[j]? = some (.ow ys) → σ[i]? = some (some (.ref a)) → σ[j]? = some (some (.ref a)) → i = j
  pin : ∀ v, P = some v → σ[0]? = some (some v)
structure Step (F : Hp) (ρ : Env) (σ : L2.St) (H F' : Hp) (ρ' : Env) (σ' : L2.St) (H' : Hp) : Prop where
  ex : Same F F'
  keep : ∀ a o, H a = some o → ¬ OwnAt ρ σ a → H' a = some o
  new : ∀ a, F' a ≠ none → F a ≠ none ∨ OwnAt ρ σ a ∨ H a = none
  own : ∀ a, OwnAt ρ' σ' a → OwnAt ρ σ a ∨ H a = none
  there : ∀ a, H' a = none → H a = none
section
variable {K : PySem.W.Frag} {P : Option V} {F F1 F2 H H1 H2 : Hp} {ρ ρ1 ρ2 : Env} {σ σ1 σ2 : L2.St}
theorem Step.refl : Step F ρ σ H F ρ σ H := ⟨Same.refl _, fun _ _ h _ => h, fun _ h => .inl h, fun _ h => .inl h, fun _ h => h⟩
theorem Step.trans (a : Step F ρ σ H F1 ρ1 σ1 H1) (b : Step F1 ρ1 σ1 H1 F2 ρ2 σ2 H2) : Step F ρ σ H F2 ρ2 σ2 H2 where
  ex := a.ex.trans b.ex
  keep := fun x o h n => b.keep x o (a.keep x o h n) fun z => by
    rcases a.own x z with q | q
    · exact n q
    · rw [h] at q; cases q
  new := fun x h => by
    rcases b.new x h with q | q | q
    · exact a.new x q
    · rcases a.own x q with z | z
      · exact .inr (.inl z)
      · exact .inr (.inr z)
    · exact .inr (.inr (a.there x q))
  own := fun x h => by
    rcases b.own x h with q | q
    · exact a.own x q
    · exact .inr (a.there x q)
  there := fun x h => a.there x (b.there x h)
theorem Ok.nofr (o : Ok K P F ρ σ H) {a : Addr} (h : OwnAt ρ σ a) : F a = none := by
  obtain ⟨i, xs, h1, h2⟩ := h
  obtain ⟨b, vs, h3, h4, _⟩ := o.ow i xs h1
  rw [h3] at h2
  cases h2
  exact h4
end

/-- a value and what it is: data that stays, or a list of which nobody else knows (new since the start, or a slot's, given up) -/
def RV (K : PySem.W.Frag) (σ : L2.St) (ρ₀ : Env) (H₀ F H : Hp) (ρ : Env) (v : V) : Vl → Prop
  | .fr d => Dq K F v d
  | .ow xs => ∃ p vs, v = .ref p ∧ F p = none ∧ H p = some (.lst vs) ∧ DqAll K F vs xs ∧ ¬ OwnAt ρ σ p ∧ (OwnAt ρ₀ σ p ∨ H₀ p = none)
/-- an operand -/
def RO (K : PySem.W.Frag) (σ : L2.St) (ρ₀ : Env) (H₀ F H : Hp) (ρ : Env) (v : V) : Op → Prop
  | .vl x => RV K σ ρ₀ H₀ F H ρ v x
  | .sl i => σ[i]? = some (some v)
def RB (_ : Env) (_ _ _ : Hp) (_ : Env) (b c : Bool) : Prop := b = c
def RVs (K : PySem.W.Frag) (_ : Env) (_ F _ : Hp) (_ : Env) (vs : List V) (ds : List D) : Prop := DqAll K F vs ds
/-- an exception and what it is: its class by name, its own dict -/
abbrev XRel := Hp → Hp → Value → Option Addr → Nat → List D → Prop
abbrev RRel (β α : Type) := Env → Hp → Hp → Hp → Env → β → α → Prop

/-- what is wanted behind r: a value by RR, or an exception by W -/
def Fin {α β : Type} (K : PySem.W.Frag) (P : Option V) (XR : XRel) (W : WX) (F : Hp) (ρ : Env) (H : Hp) (σ : L2.St) (RR : RRel β α) (r : R (α × Env)) (Q : β → Hp → Prop) : Prop := match r with
  | .ok (a, ρ') => ∀ v F' H', Ok K P F' ρ' σ H' → Step F ρ σ H F' ρ' σ H' → RR ρ H F' H' ρ' v a → Q v H'
  | .exc c xs ρ' => ∀ cls d F' H', Ok K P F' ρ' σ H' → Step F ρ σ H F' ρ' σ H' → XR F' H' cls d c xs → W cls d σ H'
  | .stuck => False
/-- a relation that looks back to the start by what was owned or free there -/
structure Back {α β : Type} (σ : L2.St) (RR : RRel β α) : Prop where
  back : ∀ {F₀ H₀ F₁ H₁ F H : Hp} {ρ₀ ρ₁ ρ : Env} {v : β} {a : α}, Step F₀ ρ₀ σ H₀ F₁ ρ₁ σ H₁ → RR ρ₁ H₁ F H ρ v a → RR ρ₀ H₀ F H ρ v a
theorem back_RV {K : PySem.W.Frag} {σ : L2.St} : Back σ (RV K σ) := ⟨fun {F₀ H₀ F₁ H₁ F H ρ₀ ρ₁ ρ v a} s h => by
  cases a with
  | fr d => exact h
  | ow xs =>
    obtain ⟨p, vs, h1, h2, h3, h4, h5, h6⟩ := h
    refine ⟨p, vs, h1, h2, h3, h4, h5, ?_⟩
    rcases h6 with q | q
    · exact s.own p q
    · exact .inr (s.there p q)⟩
theorem back_RO {K : PySem.W.Frag} {σ : L2.St} : Back σ (RO K σ) := ⟨fun {F₀ H₀ F₁ H₁ F H ρ₀ ρ₁ ρ v a} s h => by
  cases a with
  | vl x => exact back_RV.back (a := x) s h
  | sl i => exact h⟩
theorem back_RB {σ : L2.St} : Back σ RB := ⟨fun _ h => h⟩
theorem back_RVs {K : PySem.W.Frag} {σ : L2.St} : Back σ (RVs K) := ⟨fun _ h => h⟩
section
variable {K : PySem.W.Frag} {P : Option V} {XR : XRel} {W : WX} {F F1 H H1 : Hp} {ρ ρ1 : Env} {σ : L2.St}
theorem Fin.shift {α β : Type} {RR : RRel β α} {r : R (α × Env)} {Q : β → Hp → Prop} (b : Back σ RR) (s : Step F ρ σ H F1 ρ1 σ H1) (h : Fin K P XR W F ρ H σ RR r Q) : Fin K P XR W F1 ρ1 H1 σ RR r Q := by
  cases r with
  | ok a => exact fun v F' H' o s' q => h v F' H' o (s.trans s') (b.back s q)
  | exc c xs ρ' => exact fun cls d F' H' o s' q => h cls d F' H' o (s.trans s') q
  | stuck => exact h
theorem Fin.mono {α β : Type} {RR : RRel β α} {r : R (α × Env)} {Q Q' : β → Hp → Prop} (h : Fin K P XR W F ρ H σ RR r Q) (m : ∀ v H', Q v H' → Q' v H') : Fin K P XR W F ρ H σ RR r Q' := by
  cases r with
  | ok a => exact fun v F' H' o s q => m v H' (h v F' H' o s q)
  | exc c xs ρ' => exact h
  | stuck => exact h
/-- f, then g: f's end is a state from which g's is wanted -/
theorem Fin.bind {α β γ δ : Type} {RR : RRel β α} {RS : RRel δ γ} {r : R (α × Env)} {g : α × Env → R (γ × Env)} {Q : δ → Hp → Prop} (b : Back σ RS) (h : Fin K P XR W F ρ H σ RS (r.bind g) Q) :
    Fin K P XR W F ρ H σ RR r fun v H1 => ∃ F1 ρ1 a, r = .ok (a, ρ1) ∧ Ok K P F1 ρ1 σ H1 ∧ Step F ρ σ H F1 ρ1 σ H1 ∧ RR ρ H F1 H1 ρ1 v a ∧ Fin K P XR W F1 ρ1 H1 σ RS (g (a, ρ1)) Q := by
  cases r with
  | ok a => exact fun v F' H' o s q => ⟨F', a.2, a.1, rfl, o, s, q, Fin.shift b s h⟩
  | exc c xs ρ' => exact h
  | stuck => exact h
/-- the same, all from the start -/
theorem Fin.bind0 {α β γ δ : Type} {RR : RRel β α} {RS : RRel δ γ} {r : R (α × Env)} {g : α × Env → R (γ × Env)} {Q : δ → Hp → Prop} (h : Fin K P XR W F ρ H σ RS (r.bind g) Q) :
    Fin K P XR W F ρ H σ RR r fun v H1 => ∃ F1 ρ1 a, r = .ok (a, ρ1) ∧ Ok K P F1 ρ1 σ H1 ∧ Step F ρ σ H F1 ρ1 σ H1 ∧ RR ρ H F1 H1 ρ1 v a ∧ Fin K P XR W F ρ H σ RS (g (a, ρ1)) Q := by
  cases r with
  | ok a => exact fun v F' H' o s q => ⟨F', a.2, a.1, rfl, o, s, q, h⟩
  | exc c xs ρ' => exact h
  | stuck => exact h
/-- f from here, g's end from the start -/
theorem Fin.bindFrom {α β γ δ : Type} {F0 H0 : Hp} {ρ0 : Env} {RR : RRel β α} {RS : RRel δ γ} {r : R (α × Env)} {g : α × Env → R (γ × Env)} {Q : δ → Hp → Prop} (s0 : Step F0 ρ0 σ H0 F ρ σ H) (h : Fin K P XR W F0 ρ0 H0 σ RS (r.bind g) Q) :
    Fin K P XR W F ρ H σ RR r fun v H1 => ∃ F1 ρ1 a, r = .ok (a, ρ1) ∧ Ok K P F1 ρ1 σ H1 ∧ Step F ρ σ H F1 ρ1 σ H1 ∧ RR ρ H F1 H1 ρ1 v a ∧ Fin K P XR W F0 ρ0 H0 σ RS (g (a, ρ1)) Q := by
  cases r with
  | ok a => exact fun v F' H' o s q => ⟨F', a.2, a.1, rfl, o, s, q, h⟩
  | exc c xs ρ' => exact fun cls d F' H' o s q => h cls d F' H' o (s0.trans s) q
  | stuck => exact h
theorem R.bind_assoc {α β γ : Type} (r : R α) (f : α → R β) (g : β → R γ) : (r.bind f).bind g = r.bind fun a => (f a).bind g := by cases r <;> rfl
theorem R.opt_bind {α β γ : Type} (o : Option α) (f : α → R β) (g : β → R γ) : (R.opt o f).bind g = R.opt o fun a => (f a).bind g := by cases o <;> rfl
theorem Fin.opt {α γ δ : Type} {RS : RRel δ γ} {o : Option α} {g : α → R (γ × Env)} {Q : δ → Hp → Prop} (h : Fin K P XR W F ρ H σ RS (R.opt o g) Q) : ∃ a, o = some a ∧ Fin K P XR W F ρ H σ RS (g a) Q := by
  cases o with
  | none => exact h.elim
  | some a => exact ⟨a, rfl, h⟩

/-- more objects -/
theorem Ok.grow (o : Ok K P F ρ σ H) (e : Same H H1) : Ok K P F ρ σ H1 := ⟨o.sub.trans e, o.len, o.fr, fun i xs q => by
  obtain ⟨a, vs, h1, h2, h3, h4⟩ := o.ow i xs q
  exact ⟨a, vs, h1, h2, e a _ h3, h4⟩, o.inj, o.pin⟩
theorem Step.grow (e : Same H H1) : Step F ρ σ H F ρ σ H1 := ⟨Same.refl _, fun b u q _ => e b u q, fun _ q => .inl q, fun _ q => .inl q, fun _ q => Same.free e q⟩
/-- a new object p that all may know -/
theorem Ok.laid (o : Ok K P F ρ σ H) {p : Addr} {u : HO} (hp : H p = none) : Ok K P (upd F p u) ρ σ (upd H p u) ∧ Step F ρ σ H (upd F p u) ρ σ (upd H p u) ∧ Same F (upd F p u) ∧ Same H (upd H p u) := by
  have hf : F p = none := Same.free o.sub hp
  have eF : Same F (upd F p u) := fun b z q => by rw [upd_ne (ne_of_none q hf)]; exact q
  have eH : Same H (upd H p u) := fun b z q => by rw [upd_ne (ne_of_none q hp)]; exact q
  refine ⟨⟨fun b z q => ?_, o.len, fun i d q => ?_, fun i xs q => ?_, o.inj, o.pin⟩, ⟨eF, fun b z q _ => eH b z q, fun b q => ?_, fun b q => .inl q, fun b q => Same.free eH q⟩, eF, eH⟩
  · by_cases hb : b = p
    · subst hb; rw [upd_same] at q ⊢; exact q
    · rw [upd_ne hb] at q ⊢; exact o.sub b z q
  · obtain ⟨v, h1, h2⟩ := o.fr i d q
    exact ⟨v, h1, Dq.ext eF h2⟩
  · obtain ⟨a, vs, h1, h2, h3, h4⟩ := o.ow i xs q
    have ha : a ≠ p := ne_of_none h3 hp
    refine ⟨a, vs, h1, ?_, eH a _ h3, DqAll.ext eF h4⟩
    rw [upd_ne ha]; exact h2
  · by_cases hb : b = p
    · subst hb; exact .inr (.inr hp)
    · rw [upd_ne hb] at q; exact .inl q
end

/-! ### readings -/
section
variable {K : PySem.W.Frag} {P : Option V} {XR : XRel} {W : WX} {F F1 H H1 : Hp} {ρ ρ1 : Env} {σ : L2.St}
end

section
variable (K : PySem.W.Frag) (P : Option V) (XR : XRel) (W : WX)
def tE (f : Env → R (Vl × Env)) : TE := fun σ H Q => ∃ F ρ, Ok K P F ρ σ H ∧ Fin K P XR W F ρ H σ (RV K σ) (f ρ) Q
def tO (f : Env → R (Op × Env)) : TE := fun σ H Q => ∃ F ρ, Ok K P F ρ σ H ∧ Fin K P XR W F ρ H σ (RO K σ) (f ρ) Q
def tT (f : Env → R (Bool × Env)) : TT := fun σ H Q => ∃ F ρ, Ok K P F ρ σ H ∧ Fin K P XR W F ρ H σ RB (f ρ) Q
def tVs (f : Env → R (List D × Env)) : TA := fun σ H Q => ∃ F ρ, Ok K P F ρ σ H ∧ Fin K P XR W F ρ H σ (RVs K) (f ρ) Q
end
theorem PE.imp {X : Cx} {e : Expr} {t t' : TE} (h : PE X e t) (i : ∀ σ H Q, t' σ H Q → t σ H Q) : PE X e t' := ⟨fun pins s σ H Q I q => h.run pins s σ H Q I (i σ H Q q)⟩
theorem PT.imp {X : Cx} {e : Expr} {t t' : TT} (h : PT X e t) (i : ∀ σ H Q, t' σ H Q → t σ H Q) : PT X e t' := ⟨fun pins s σ H Q I q => h.run pins s σ H Q I (i σ H Q q)⟩
theorem PA.imp {X : Cx} {e : List Expr} {t t' : TA} (h : PA X e t) (i : ∀ σ H Q, t' σ H Q → t σ H Q) : PA X e t' := ⟨fun pos pins s σ H Q I q => h.run pos pins s σ H Q I (i σ H Q q)⟩
theorem PS.imp {X : Cx} {e : Stmt} {t t' : TS} (h : PS X e t) (i : ∀ D σ H, t' D σ H → t D σ H) : PS X e t' := ⟨fun pins s σ H D I q => h.run pins s σ H D I (i D σ H q)⟩
theorem PSs.imp {X : Cx} {e : List Stmt} {t t' : TS} (h : PSs X e t) (i : ∀ D σ H, t' D σ H → t D σ H) : PSs X e t' := ⟨fun pins s σ H D I q => h.run pins s σ H D I (i D σ H q)⟩

/-! ### what an operand, a value is in the heap as it stands -/
section
variable {K : PySem.W.Frag} {P : Option V} {F F0 F1 F2 H H0 H1 H2 : Hp} {ρ ρ0 ρ1 ρ2 : Env} {σ : L2.St} {v : V}
/-- the top as the heap has it, the items known to all -/
inductive DpT (K : PySem.W.Frag) (F H : Hp) : V → D → Prop
  | non : DpT K F H .non .none
  | bl (b : Bool) : DpT K F H (.bl b) (.bool b)
  | int (i : Int) : DpT K F H (.int i) (.int i)
  | str (x : Str) : DpT K F H (.str x) (.str x)
  | lst {a : Addr} {xs : List V} {ds : List D} : SqL K H a xs → DqAll K F xs ds → DpT K F H (.ref a) (.list ds)
  | tup {a : Addr} {xs : List V} {ds : List D} : SqT K F a xs → DqAll K F xs ds → DpT K F H (.ref a) (.tuple ds)
  | dic {v : V} {kvs : List (D × D)} : Dq K F v (.dict kvs) → DpT K F H v (.dict kvs)
theorem DpT.dp {d : D} (e : Same F H) (h : DpT K F H v d) : Dq K H v d := by
  cases h with
  | non => exact .non
  | bl b => exact .bl b
  | int i => exact .int i
  | str x => exact .str x
  | lst h t => exact .lst h (DqAll.ext e t)
  | tup h t => exact .tup (Ext.sqT e h) (DqAll.ext e t)
  | dic h => exact Dq.ext e h
theorem _root_.L2.Dq.top {d : D} (e : Same F H) (h : Dq K F v d) : DpT K F H v d := by
  cases h with
  | non => exact .non
  | bl b => exact .bl b
  | int i => exact .int i
  | str x => exact .str x
  | lst h t => exact .lst (Same.seq e h) t
  | tup h t => exact .tup h t
  | ex0 h => exact .dic (.ex0 h)
  | ex1 h h2 t => exact .dic (.ex1 h h2 t)
theorem rv_here {x : Vl} (o : Ok K P F ρ σ H) (h : RV K σ ρ0 H0 F H ρ v x) : DpT K F H v x.d := by
  cases x with
  | fr d => exact Dq.top o.sub h
  | ow xs =>
    obtain ⟨p, vs, rfl, _, h3, h4, _⟩ := h
    exact .lst (.inl (.inl h3)) h4
/-- a value stays what it is while others come -/
theorem rv_later {x : Vl} (s : Step F ρ σ H F1 ρ1 σ H1) (h : RV K σ ρ0 H0 F H ρ v x) : RV K σ ρ0 H0 F1 H1 ρ1 v x := by
  cases x with
  | fr d => exact Dq.ext s.ex h
  | ow xs =>
    obtain ⟨p, vs, rfl, h2, h3, h4, h5, h6⟩ := h
    refine ⟨p, vs, rfl, ?_, s.keep p _ h3 h5, DqAll.ext s.ex h4, ?_, h6⟩
    · cases q : F1 p with
      | none => rfl
      | some o =>
        rcases s.new p (by rw [q]; exact fun z => nomatch z) with z | z | z
        · exact absurd h2 z
        · exact absurd z h5
        · rw [h3] at z; cases z
    · intro z
      rcases s.own p z with q | q
      · exact h5 q
      · rw [h3] at q; cases q
theorem ro_later {x : Op} (s : Step F ρ σ H F1 ρ1 σ H1) (h : RO K σ ρ0 H0 F H ρ v x) : RO K σ ρ0 H0 F1 H1 ρ1 v x := by
  cases x with
  | vl x => exact rv_later s h
  | sl i => exact h
theorem ro_here {x : Op} {d : D} (o : Ok K P F ρ σ H) (h : RO K σ ρ0 H0 F H ρ v x) (e : deref ρ x = some d) : DpT K F H v d := by
  cases x with
  | vl x =>
    have e1 : x.d = d := Option.some.inj e
    rw [← e1]
    exact rv_here o h
  | sl i =>
    have h1 : σ[i]? = some (some v) := h
    have e : (ρ[i]?).bind slD = some d := e
    cases q : ρ[i]? with
    | none => rw [q] at e; cases e
    | some s =>
      rw [q] at e
      cases s with
      | un => cases e
      | fr d' =>
        have e1 : d' = d := Option.some.inj e
        subst e1
        obtain ⟨u, h2, h3⟩ := o.fr i d' q
        rw [h1] at h2
        cases h2
        exact Dq.top o.sub h3
      | ow xs =>
        have e1 : PyData.list xs = d := Option.some.inj e
        subst e1
        obtain ⟨a, vs, h2, _, h4, h5⟩ := o.ow i xs q
        rw [h1] at h2
        cases h2
        exact .lst (.inl (.inl h4)) h5
/-- what is new may be made known to all -/
theorem rv_known {x : Vl} (o : Ok K P F ρ σ H) (h : RV K σ ρ0 H0 F H ρ v x) (s : Step F0 ρ0 σ H0 F ρ σ H) : ∃ F', Ok K P F' ρ σ H ∧ Step F0 ρ0 σ H0 F' ρ σ H ∧ Dq K F' v x.d ∧ Same F F' := by
  cases x with
  | fr d => exact ⟨F, o, s, h, Same.refl _⟩
  | ow xs =>
    obtain ⟨p, vs, rfl, h2, h3, h4, h5, h6⟩ := h
    have e : Same F (upd F p (.lst vs)) := fun b u q => by rw [upd_ne (ne_of_none q h2)]; exact q
    refine ⟨upd F p (.lst vs), ⟨fun b u q => ?_, o.len, fun i d q => ?_, fun i ys q => ?_, o.inj, o.pin⟩, ⟨s.ex.trans e, s.keep, fun b q => ?_, s.own, s.there⟩, .lst (.inl (.inl upd_same)) (DqAll.ext e h4), e⟩
    · by_cases hb : b = p
      · subst hb; rw [upd_same] at q; cases q; exact h3
      · rw [upd_ne hb] at q; exact o.sub b u q
    · obtain ⟨u, q1, q2⟩ := o.fr i d q
      exact ⟨u, q1, Dq.ext e q2⟩
    · obtain ⟨a, us, q1, q2, q3, q4⟩ := o.ow i ys q
      refine ⟨a, us, q1, ?_, q3, DqAll.ext e q4⟩
      rw [upd_ne fun z => h5 ⟨i, ys, q, by rw [q1, z]⟩]
      exact q2
    · by_cases hb : b = p
      · subst hb
        rcases h6 with z | z
        · exact .inr (.inl z)
        · exact .inr (.inr z)
      · rw [upd_ne hb] at q
        exact s.new b q
end
end Dl
end
section
set_option linter.all false
set_option maxRecDepth 100000
set_option maxHeartbeats 2000000
/-! DlExp: expressions, one by one. -/
namespace Dl
open PySem PySem.Spec PyProof.Rows L2
section
variable {X : Cx} {P : Option V} {XR : XRel} {W : WX} {a b d e : Expr} {fa fb fd : Env → R (Vl × Env)} {oa ob od : Env → R (Op × Env)} {pos p2 : Pos}
abbrev PD (X : Cx) (P : Option V) (XR : XRel) (W : WX) (e : Expr) (f : Env → R (Vl × Env)) : Prop := PE X e (tE X.K P XR W f)
abbrev PO' (X : Cx) (P : Option V) (XR : XRel) (W : WX) (e : Expr) (f : Env → R (Op × Env)) : Prop := PE X e (tO X.K P XR W f)
abbrev PTd (X : Cx) (P : Option V) (XR : XRel) (W : WX) (e : Expr) (f : Env → R (Bool × Env)) : Prop := PT X e (tT X.K P XR W f)

/-- a step that leaves the state -/
theorem Fin.here {α β : Type} {K : PySem.W.Frag} {F H : Hp} {ρ : Env} {σ : L2.St} {RR : RRel β α} {x : α} {v : β} {Q : β → Hp → Prop} (h : Fin K P XR W F ρ H σ RR (.ok (x, ρ)) Q) (o : Ok K P F ρ σ H) (r : RR ρ H F H ρ v x) : Q v H := h v F H o Step.refl r
theorem pd_lit_non {j pos} : PD X P XR W (.Constant .none j pos) (fun ρ => .ok (.fr .none, ρ)) := PE.imp pe_non fun σ H Q ⟨F, ρ, o, h⟩ => Fin.here h o .non
theorem pd_lit_bl {c : Bool} {j pos} : PD X P XR W (.Constant (.bool c) j pos) (fun ρ => .ok (.fr (.bool c), ρ)) := PE.imp pe_bl fun σ H Q ⟨F, ρ, o, h⟩ => Fin.here h o (.bl c)
theorem pd_lit_int {i : Int} {j pos} : PD X P XR W (.Constant (.int i) j pos) (fun ρ => .ok (.fr (.int i), ρ)) := PE.imp pe_int fun σ H Q ⟨F, ρ, o, h⟩ => Fin.here h o (.int i)
theorem pd_lit_str {i : Str} {j pos} : PD X P XR W (.Constant (.str i) j pos) (fun ρ => .ok (.fr (.str i), ρ)) := PE.imp pe_str fun σ H Q ⟨F, ρ, o, h⟩ => Fin.here h o (.str i)

/-- the slot's list is known to all from now on -/
theorem Ok.freeze {K : PySem.W.Frag} {F H : Hp} {ρ : Env} {σ : L2.St} {i : Nat} {xs : List D} (o : Ok K P F ρ σ H) (h : ρ[i]? = some (.ow xs)) : ∃ F' v, σ[i]? = some (some v) ∧ Ok K P F' (setSl ρ i (.fr (.list xs))) σ H ∧ Step F ρ σ H F' (setSl ρ i (.fr (.list xs))) σ H ∧ Dq K F' v (.list xs) := by
  obtain ⟨a, vs, h1, h2, h3, h4⟩ := o.ow i xs h
  have e : Same F (upd F a (.lst vs)) := fun b u q => by rw [upd_ne (ne_of_none q h2)]; exact q
  have hi : i < ρ.length := (List.getElem?_eq_some_iff.mp h).1
  have dp : Dq K (upd F a (.lst vs)) (.ref a) (.list xs) := .lst (.inl (.inl upd_same)) (DqAll.ext e h4)
  have ow' : ∀ (j : Nat) (ys : List D), (setSl ρ i (.fr (.list xs)))[j]? = some (.ow ys) → j ≠ i ∧ ρ[j]? = some (.ow ys) := fun j ys q => by
    unfold setSl at q
    by_cases hj : i = j
    · subst hj
      rw [List.getElem?_set_self hi] at q
      cases q
    · rw [List.getElem?_set_ne hj] at q
      exact ⟨Ne.symm hj, q⟩
  refine ⟨upd F a (.lst vs), .ref a, h1, ⟨fun b u q => ?_, ?_, fun j d q => ?_, fun j ys q => ?_, fun j k ys zs c q1 q2 => ?_, o.pin⟩, ⟨e, fun _ _ q _ => q, fun b q => ?_, fun b q => ?_, fun _ q => q⟩, dp⟩
  · by_cases hb : b = a
    · subst hb; rw [upd_same] at q; cases q; exact h3
    · rw [upd_ne hb] at q; exact o.sub b u q
  · unfold setSl; rw [List.length_set]; exact o.len
  · unfold setSl at q
    by_cases hj : i = j
    · subst hj
      rw [List.getElem?_set_self hi] at q
      cases q
      exact ⟨_, h1, dp⟩
    · rw [List.getElem?_set_ne hj] at q
      obtain ⟨u, q1, q2⟩ := o.fr j d q
      exact ⟨u, q1, Dq.ext e q2⟩
  · obtain ⟨hj, q0⟩ := ow' j ys q
    obtain ⟨c, us, q1, q2, q3, q4⟩ := o.ow j ys q0
    refine ⟨c, us, q1, ?_, q3, DqAll.ext e q4⟩
    rw [upd_ne fun z => hj (o.inj j i ys xs a q0 h (by rw [q1, z]) h1)]
    exact q2
  · exact o.inj j k ys zs c (ow' j ys q1).2 (ow' k zs q2).2
  · by_cases hb : b = a
    · subst hb; exact .inr (.inl ⟨i, xs, h, h1⟩)
    · rw [upd_ne hb] at q; exact .inl q
  · obtain ⟨j, ys, q1, q2⟩ := q
    exact .inl ⟨j, ys, (ow' j ys q1).2, q2⟩
theorem pd_var {i : Nat} {x : Str} (hN : X.N[i]? = some x) (hv : Vis X.env.scope x) (hd : (x == ("__debug__" : Str)) = false) (hcd : (x == ("__classdict__" : Str)) = false) : PD X P XR W (.Name x pos) (fun ρ => match ρ[i]? with
    | some (.fr d) => .ok (.fr d, ρ)
    | some (.ow xs) => .ok (.fr (.list xs), setSl ρ i (.fr (.list xs)))
    | _ => .stuck) := PE.imp (pe_var hN hv hd hcd) fun σ H Q ⟨F, ρ, o, h⟩ => by
  cases q : ρ[i]? with
  | none => simp only [q] at h; exact h.elim
  | some s =>
    cases s with
    | un => simp only [q] at h; exact h.elim
    | fr d =>
      simp only [q] at h
      obtain ⟨v, h1, h2⟩ := o.fr i d q
      exact ⟨v, h1, Fin.here h o h2⟩
    | ow xs =>
      simp only [q] at h
      obtain ⟨F', v, h1, o', s', d'⟩ := o.freeze q
      exact ⟨v, h1, h v F' H o' s' d'⟩
theorem po_pk {i : Nat} {x : Str} (hN : X.N[i]? = some x) (hv : Vis X.env.scope x) (hd : (x == ("__debug__" : Str)) = false) (hcd : (x == ("__classdict__" : Str)) = false) {f : Env → R (Vl × Env)} :
    PO' X P XR W (.Name x pos) (opOf (.pk i) f) := PE.imp (pe_var hN hv hd hcd) fun σ H Q ⟨F, ρ, o, h⟩ => by
  obtain ⟨d, hd, h⟩ := Fin.opt h
  cases q : ρ[i]? with
  | none => rw [q] at hd; cases hd
  | some s =>
    rw [q] at hd
    cases s with
    | un => cases hd
    | fr d' =>
      obtain ⟨v, h1, _⟩ := o.fr i d' q
      exact ⟨v, h1, Fin.here (x := Op.sl i) h o h1⟩
    | ow xs =>
      obtain ⟨a, vs, h1, _⟩ := o.ow i xs q
      exact ⟨.ref a, h1, Fin.here (x := Op.sl i) h o h1⟩
/-- any other operand -/
theorem po_of {f : Env → R (Vl × Env)} (h : PD X P XR W e f) : PO' X P XR W e (fun ρ => (f ρ).bind fun r => .ok (.vl r.1, r.2)) := PE.imp h fun σ H Q ⟨F, ρ, o, h⟩ => by
  refine ⟨F, ρ, o, ?_⟩
  have h : Fin X.K P XR W F ρ H σ (RO X.K σ) ((f ρ).bind fun r => R.ok (Op.vl r.1, r.2)) Q := h
  generalize f ρ = r at h ⊢
  cases r with
  | ok a => exact h
  | exc c xs ρ' => exact h
  | stuck => exact h
/-- two operands, then an operation on what they are -/
theorem two_imp {r : R2} {G : D → D → Env → R (Vl × Env)} (hr : ∀ (σ : L2.St) (F : Hp) (ρ : Env) (H : Hp) (x y : V) (dx dy : D) (Q : VK), Ok X.K P F ρ σ H → DpT X.K F H x dx → DpT X.K F H y dy → Fin X.K P XR W F ρ H σ (RV X.K σ) (G dx dy ρ) Q → r x y H Q) {σ : L2.St} {H : Hp} {Q : VK}
    (h : tE X.K P XR W (fun ρ => (oa ρ).bind fun r => (ob r.2).bind fun q => R.opt (deref q.2 r.1) fun x => R.opt (deref q.2 q.1) fun y => G x y q.2) σ H Q) : tOp r (tO X.K P XR W oa) (tO X.K P XR W ob) σ H Q := by
  obtain ⟨F, ρ, o, q⟩ := h
  refine ⟨F, ρ, o, ?_⟩
  refine Fin.mono (Fin.bind (RR := RO X.K σ) back_RV q) fun x H1 z => ?_
  obtain ⟨F1, ρ1, a1, _, o1, s1, r1, q1⟩ := z
  refine ⟨F1, ρ1, o1, ?_⟩
  refine Fin.mono (Fin.bind (RR := RO X.K σ) back_RV q1) fun y H2 z => ?_
  obtain ⟨F2, ρ2, a2, _, o2, s2, r2, q2⟩ := z
  obtain ⟨dx, e1, q2⟩ := Fin.opt q2
  obtain ⟨dy, e2, q2⟩ := Fin.opt q2
  exact hr σ F2 ρ2 H2 x y dx dy Q o2 (ro_here o2 (ro_later s2 r1) e1) (ro_here o2 r2 e2) q2
theorem pd_two {r : R2} {G : D → D → Env → R (Vl × Env)} {w : Expr} (h : PE X w (tOp r (tO X.K P XR W oa) (tO X.K P XR W ob)))
    (hr : ∀ (σ : L2.St) (F : Hp) (ρ : Env) (H : Hp) (x y : V) (dx dy : D) (Q : VK), Ok X.K P F ρ σ H → DpT X.K F H x dx → DpT X.K F H y dy → Fin X.K P XR W F ρ H σ (RV X.K σ) (G dx dy ρ) Q → r x y H Q) :
    PD X P XR W w (fun ρ => (oa ρ).bind fun r => (ob r.2).bind fun q => R.opt (deref q.2 r.1) fun x => R.opt (deref q.2 q.1) fun y => G x y q.2) := PE.imp h fun σ H Q q => two_imp hr q
/-- one operand -/
theorem pd_one {r : V → Hp → VK → Prop} {G : D → Env → R (Vl × Env)} {w : Expr} (h : PE X w (tUn r (tO X.K P XR W oa)))
    (hr : ∀ (σ : L2.St) (F : Hp) (ρ : Env) (H : Hp) (x : V) (dx : D) (Q : VK), Ok X.K P F ρ σ H → DpT X.K F H x dx → Fin X.K P XR W F ρ H σ (RV X.K σ) (G dx ρ) Q → r x H Q) :
    PD X P XR W w (fun ρ => (oa ρ).bind fun r => R.opt (deref r.2 r.1) fun x => G x r.2) := PE.imp h fun σ H Q ⟨F, ρ, o, q⟩ => by
  refine ⟨F, ρ, o, ?_⟩
  refine Fin.mono (Fin.bind (RR := RO X.K σ) back_RV q) fun x H1 z => ?_
  obtain ⟨F1, ρ1, a1, _, o1, s1, r1, q1⟩ := z
  obtain ⟨dx, e1, q1⟩ := Fin.opt q1
  exact hr σ F1 ρ1 H1 x dx Q o1 (ro_here o1 r1 e1) q1
/-- a value that is new: an object laid at p -/
theorem fin_list {K : PySem.W.Frag} {F H : Hp} {ρ : Env} {σ : L2.St} {vs : List V} {xs : List D} {Q : VK} {p : Addr} (h : Fin K P XR W F ρ H σ (RV K σ) (.ok (.ow xs, ρ)) Q) (o : Ok K P F ρ σ H) (hp : H p = none) (df : DqAll K F vs xs) : Q (.ref p) (upd H p (.lst vs)) := by
  have e : Same H (upd H p (.lst vs)) := fun b u q => by rw [upd_ne (ne_of_none q hp)]; exact q
  have hf : F p = none := Same.free o.sub hp
  have nown : ∀ b, OwnAt ρ σ b → b ≠ p := fun b ⟨i, ys, q1, q2⟩ z => by
    obtain ⟨c, us, h1, _, h3, _⟩ := o.ow i ys q1
    rw [h1] at q2
    cases q2
    rw [z, hp] at h3
    cases h3
  refine h _ F _ (o.grow e) ⟨Same.refl _, fun b u q _ => e b u q, fun b q => .inl q, fun b q => .inl q, fun b q => Same.free e q⟩ ⟨p, vs, rfl, hf, upd_same, df, fun z => nown p z rfl, .inr hp⟩
end
end Dl
end
section
set_option linter.all false
set_option maxRecDepth 100000
set_option maxHeartbeats 4000000
/-! DlOps: the operators on data. -/
namespace Dl
open PySem PySem.Spec PyProof.Rows L2
theorem fits_le {n : Nat} (h : fits n = true) : n ≤ sizeLine := by
  rw [sizeLine_eq]
  exact Nat.le_of_ble_eq_true h
section
variable {X : Cx} {P : Option V} {XR : XRel} {W : WX}
/-- list + list, whatever lists -/
def rCatL (K : PySem.W.Frag) : R2 := fun x y H Q => ∃ l b xs zs, x = .ref l ∧ y = .ref b ∧ SqL K H l xs ∧ SqL K H b zs ∧ xs.length + zs.length ≤ sizeLine ∧ ∀ p, H p = none → Q (.ref p) (upd H p (.lst (xs ++ zs)))
theorem op_catL : OpR X (binaryOp .Add) (rCatL X.K) := by
  intro pins s σ H x y v u Q I rx ry ⟨l, b, xs, zs, ex, ey, hl, hb, hz, q⟩
  subst ex ey
  cases rx
  cases ry
  obtain ⟨its, r1, ⟨⟨c1, d1, t1, s1⟩, n1, g1, k1, e1, f1⟩, _⟩ := I.list hl
  obtain ⟨its2, r2, ⟨⟨c2, d2, t2, s2⟩, n2, g2, k2, e2, f2⟩, _⟩ := I.list hb
  dsimp only at k1 e1 f1 k2 e2 f2
  subst k1 e1 f1 k2 e2 f2
  have hs : its.toArray.size + its2.toArray.size ≤ sizeLine := by
    rw [List.size_toArray, List.size_toArray, ← r1.length, ← r2.length]
    exact hz
  have ea : its.toArray ++ its2.toArray = (its ++ its2).toArray := by simp
  refine concat_meets ⟨_, g1, rfl⟩ ⟨_, g2, rfl⟩ noFill_list_add seq_list_add F.slot_list_add F.entry_list_add (F.args_list_add_2 _ _) (list_addW l b _ _ n1 n2 none none s1 s2 hs) ⟨g1, g2, ?_⟩
  rw [ea]
  exact ⟨.ref _, _, I.lnew (t' := s.toks) (r1.append r2) (by rw [List.length_append]; exact hz), rfl, q _ I.fresh⟩
abbrev rStrAdd : R2 := fun x y H Q => ∃ i j, x = .str i ∧ y = .str j ∧ i.length + j.length ≤ sizeLine ∧ Q (.str (i ++ j)) H
def rAddD (K : PySem.W.Frag) : R2 := fun x y H Q => (((rI0 fun i j => .int (i + j)) x y H Q ∨ rStrAdd x y H Q) ∨ rCatL K x y H Q) ∨ rCatA K x y H Q
theorem op_addD : OpR X (binaryOp .Add) (rAddD X.K) := ((op_add.or op_add_str).or op_catL).or op_catA
variable {F H : Hp} {ρ : Env} {σ : L2.St} {x y : V} {dx dy : D} {Q : VK}
/-- a new tuple -/
theorem fin_tup {K : PySem.W.Frag} {vs : List V} {xs : List D} {p : Addr} (h : Fin K P XR W F ρ H σ (RV K σ) (.ok (.fr (.tuple xs), ρ)) Q) (o : Ok K P F ρ σ H) (hp : H p = none) (df : DqAll K F vs xs) : Q (.ref p) (upd H p (.tup vs)) := by
  obtain ⟨o', s', eF, _⟩ := o.laid (u := .tup vs) hp
  exact h _ _ _ o' s' (.tup (.inl (.inl upd_same)) (DqAll.ext eF df))
/-- the data itself -/
theorem fin_fr {K : PySem.W.Frag} {v : V} {d : D} (h : Fin K P XR W F ρ H σ (RV K σ) (.ok (.fr d, ρ)) Q) (o : Ok K P F ρ σ H) (r : Dq K F v d) : Q v H := Fin.here h o r
theorem opt_if {c : Bool} {α : Type} {a z : α} (h : (if c = true then some a else none) = some z) : c = true ∧ a = z := by
  cases c with
  | true => exact ⟨rfl, Option.some.inj h⟩
  | false => cases h
theorem add_ok {K : PySem.W.Frag} (o : Ok K P F ρ σ H) (hx : DpT K F H x dx) (hy : DpT K F H y dy) (h : Fin K P XR W F ρ H σ (RV K σ) (R.opt (addD dx dy) fun v => .ok (v, ρ)) Q) : rAddD K x y H Q := by
  obtain ⟨z, e, h⟩ := Fin.opt h
  cases hx with
  | int i => cases hy with
    | int j => cases e; exact .inl (.inl (.inl ⟨i, j, rfl, rfl, fin_fr h o (.int _)⟩))
    | _ => cases e
  | str i => cases hy with
    | str j =>
      obtain ⟨hf, e⟩ := opt_if e
      subst e
      exact .inl (.inl (.inr ⟨i, j, rfl, rfl, fits_le hf, fin_fr h o (.str _)⟩))
    | _ => cases e
  | lst h1 t1 => cases hy with
    | lst h2 t2 =>
      obtain ⟨hf, e⟩ := opt_if e
      subst e
      exact .inl (.inr ⟨_, _, _, _, rfl, rfl, h1, h2, by rw [t1.length, t2.length]; exact fits_le hf, fun p hp => fin_list h o hp (t1.append t2)⟩)
    | _ => cases e
  | tup h1 t1 => cases hy with
    | tup h2 t2 =>
      obtain ⟨hf, e⟩ := opt_if e
      subst e
      refine .inr ⟨_, _, _, _, rfl, rfl, Ext.sqT o.sub h1, Ext.sqT o.sub h2, by rw [t1.length, t2.length]; exact fits_le hf, fun z => ?_, fun _ z => ?_, fun _ _ p hp => fin_tup h o hp (t1.append t2)⟩
      · subst z
        cases t1
        exact fin_fr h o (.tup h2 t2)
      · subst z
        cases t2
        rw [List.append_nil] at h
        exact fin_fr h o (.tup h1 t1)
    | _ => cases e
  | _ => cases e
theorem small_ok {i : Int} (h : small i = true) : -(2 ^ 64) < i ∧ i < 2 ^ 64 := by
  unfold small at h
  simp only [Bool.and_eq_true, decide_eq_true_eq] at h
  exact h
theorem and2 {a b : Bool} (h : (a && b) = true) : a = true ∧ b = true := Bool.and_eq_true_iff.mp h
def rMulD (K : PySem.W.Frag) : R2 := fun x y H Q => (rI CMul fun i j => .int (i * j)) x y H Q ∨ rRepT K x y H Q
theorem op_mulD : OpR X (binaryOp .Mult) (rMulD X.K) := op_mul.or op_repT
theorem mul_ok {K : PySem.W.Frag} (o : Ok K P F ρ σ H) (hx : DpT K F H x dx) (hy : DpT K F H y dy) (h : Fin K P XR W F ρ H σ (RV K σ) (R.opt (mulD dx dy) fun v => .ok (v, ρ)) Q) : rMulD K x y H Q := by
  obtain ⟨z, e, h⟩ := Fin.opt h
  cases hx with
  | int i => cases hy with
    | int j =>
      obtain ⟨hf, e⟩ := opt_if e
      subst e
      refine .inl ⟨i, j, rfl, rfl, ?_, fin_fr h o (.int _)⟩
      rcases Bool.or_eq_true_iff.mp hf with q | q
      · exact .inl (small_ok q)
      · exact .inr (small_ok q)
    | _ => cases e
  | tup h1 t1 => cases hy with
    | int k =>
      obtain ⟨hf, e⟩ := opt_if e
      subst e
      obtain ⟨f1, f2⟩ := and2 hf
      obtain ⟨f3, f4⟩ := and2 f1
      obtain ⟨f5, f6⟩ := and2 f2
      refine .inr ⟨_, k, _, rfl, rfl, Ext.sqT o.sub h1, ?_, of_decide_eq_true f3, of_decide_eq_true f4, by rw [t1.length]; exact Nat.le_of_ble_eq_true f6, fun p hp => fin_tup h o hp (t1.reps _)⟩
      intro z
      subst z
      cases t1
      cases f5
    | _ => cases e
  | _ => cases e
theorem sub_ok {K : PySem.W.Frag} (o : Ok K P F ρ σ H) (hx : DpT K F H x dx) (hy : DpT K F H y dy) (h : Fin K P XR W F ρ H σ (RV K σ) (R.opt (binD .sub dx dy) fun v => .ok (v, ρ)) Q) : (rI0 fun i j => .int (i - j)) x y H Q := by
  obtain ⟨z, e, h⟩ := Fin.opt h
  cases hx with
  | int i => cases hy with
    | int j => cases e; exact ⟨i, j, rfl, rfl, fin_fr h o (.int _)⟩
    | _ => cases e
  | _ => cases e
theorem fdiv_ok {K : PySem.W.Frag} (o : Ok K P F ρ σ H) (hx : DpT K F H x dx) (hy : DpT K F H y dy) (h : Fin K P XR W F ρ H σ (RV K σ) (R.opt (binD .fdiv dx dy) fun v => .ok (v, ρ)) Q) : (rI CDiv fun i j => .int (i / j)) x y H Q := by
  obtain ⟨z, e, h⟩ := Fin.opt h
  cases hx with
  | int i => cases hy with
    | int j =>
      obtain ⟨hf, e⟩ := opt_if e
      subst e
      obtain ⟨f1, f2⟩ := and2 hf
      exact ⟨i, j, rfl, rfl, ⟨of_decide_eq_true f1, of_decide_eq_true f2⟩, fin_fr h o (.int _)⟩
    | _ => cases e
  | _ => cases e
theorem mod_ok {K : PySem.W.Frag} (o : Ok K P F ρ σ H) (hx : DpT K F H x dx) (hy : DpT K F H y dy) (h : Fin K P XR W F ρ H σ (RV K σ) (R.opt (binD .mod dx dy) fun v => .ok (v, ρ)) Q) : (rI (fun _ j => 0 < j) fun i j => .int (i % j)) x y H Q := by
  obtain ⟨z, e, h⟩ := Fin.opt h
  cases hx with
  | int i => cases hy with
    | int j =>
      obtain ⟨hf, e⟩ := opt_if e
      subst e
      exact ⟨i, j, rfl, rfl, of_decide_eq_true hf, fin_fr h o (.int _)⟩
    | _ => cases e
  | _ => cases e
theorem pow_ok {K : PySem.W.Frag} (o : Ok K P F ρ σ H) (hx : DpT K F H x dx) (hy : DpT K F H y dy) (h : Fin K P XR W F ρ H σ (RV K σ) (R.opt (binD .pow dx dy) fun v => .ok (v, ρ)) Q) : (rI CPow fun i j => .int (i ^ j.toNat)) x y H Q := by
  obtain ⟨z, e, h⟩ := Fin.opt h
  cases hx with
  | int i => cases hy with
    | int j =>
      obtain ⟨hf, e⟩ := opt_if e
      subst e
      obtain ⟨f1, f2⟩ := and2 hf
      obtain ⟨f3, f4⟩ := and2 f1
      have g1 := of_decide_eq_true f3
      have g2 := of_decide_eq_true f4
      have g3 := small_ok f2
      exact ⟨i, j, rfl, rfl, ⟨g1, by omega, by omega⟩, fin_fr h o (.int _)⟩
    | _ => cases e
  | _ => cases e
def opOfB : BOp → Operator
  | .add => .Add
  | .sub => .Sub
  | .mul => .Mult
  | .fdiv => .FloorDiv
  | .mod => .Mod
  | .pow => .Pow
theorem pd_bin (k : BOp) {a b : Expr} {pos : Pos} {oa ob : Env → R (Op × Env)} (ha : PO' X P XR W a oa) (hb : PO' X P XR W b ob) :
    PD X P XR W (.BinOp a (opOfB k) b pos) (fun ρ => (oa ρ).bind fun r => (ob r.2).bind fun q => R.opt (deref q.2 r.1) fun x => R.opt (deref q.2 q.1) fun y => R.opt (binD k x y) fun v => .ok (v, q.2)) := by
  cases k with
  | add => exact pd_two (G := fun x y ρ => R.opt (addD x y) fun v => .ok (v, ρ)) (pe_op op_addD ha hb) fun σ F ρ H x y dx dy Q o hx hy h => add_ok o hx hy h
  | sub => exact pd_two (G := fun x y ρ => R.opt (binD .sub x y) fun v => .ok (v, ρ)) (pe_op op_sub ha hb) fun σ F ρ H x y dx dy Q o hx hy h => sub_ok o hx hy h
  | mul => exact pd_two (G := fun x y ρ => R.opt (mulD x y) fun v => .ok (v, ρ)) (pe_op op_mulD ha hb) fun σ F ρ H x y dx dy Q o hx hy h => mul_ok o hx hy h
  | fdiv => exact pd_two (G := fun x y ρ => R.opt (binD .fdiv x y) fun v => .ok (v, ρ)) (pe_op op_fdiv ha hb) fun σ F ρ H x y dx dy Q o hx hy h => fdiv_ok o hx hy h
  | mod => exact pd_two (G := fun x y ρ => R.opt (binD .mod x y) fun v => .ok (v, ρ)) (pe_op op_mod ha hb) fun σ F ρ H x y dx dy Q o hx hy h => mod_ok o hx hy h
  | pow => exact pd_two (G := fun x y ρ => R.opt (binD .pow x y) fun v => .ok (v, ρ)) (pe_op op_pow ha hb) fun σ F ρ H x y dx dy Q o hx hy h => pow_ok o hx hy h
end
end Dl
end
section
set_option linter.all false
set_option maxRecDepth 100000
set_option maxHeartbeats 4000000
/-! DlCmp: comparisons of data. -/
namespace Dl
open PySem PySem.Spec PyProof.Rows L2
theorem ltN_eq : ∀ a b : List Nat, ltN a b = decide (a < b)
  | [], [] => by simp [ltN]
  | [], _ :: _ => by simp [ltN]
  | _ :: _, [] => by simp [ltN]
  | x :: xs, y :: ys => by
    unfold ltN
    rw [ltN_eq xs ys]
    by_cases e : x = y
    · subst e
      rw [if_pos rfl]
      by_cases h : xs < ys
      · rw [decide_eq_true h, decide_eq_true (List.cons_lt_cons_iff.mpr (.inr ⟨rfl, h⟩))]
      · rw [decide_eq_false h, decide_eq_false fun z => ?_]
        rcases List.cons_lt_cons_iff.mp z with q | ⟨_, q⟩
        · exact Nat.lt_irrefl _ q
        · exact h q
    · rw [if_neg e]
      by_cases h : x < y
      · rw [decide_eq_true h, decide_eq_true (List.cons_lt_cons_iff.mpr (.inl h))]
      · rw [decide_eq_false h, decide_eq_false fun z => ?_]
        rcases List.cons_lt_cons_iff.mp z with q | ⟨q, _⟩
        · exact h q
        · exact e q
theorem rc_lt_str {A : Around} {s : Shared} (x y : Str) (t u : Tok) : Ob.RcOp .Lt A s (.str x t) (.str y u) (ltN (codes x) (codes y)) := fun prog w E Q h =>
  (PyProof.Rows.lt_str (by rw [ltN_eq] at h; exact h) : wpAny (model prog w) A (compareOp .Lt (.str x t) (.str y u)) Q E s)
theorem lex_eq : ∀ (xs ys : List D) (e r : Nat → Bool) (z : Bool) (i : Nat), (∀ j, e (i + j) = SeqAt.pairEq xs ys j ∨ min xs.length ys.length ≤ j) → (∀ j x y, xs[j]? = some x → ys[j]? = some y → r (i + j) = (ltD x y).getD false) → z = decide (xs.length < ys.length) →
    Ob.lexAt e r z i (min xs.length ys.length) = lexL xs ys
  | [], [], _, _, _, _, _, _, hz => by rw [hz]; rfl
  | [], _ :: _, _, _, _, _, _, _, hz => by
    rw [List.length_nil, Nat.zero_min, Ob.lexAt_zero, hz]
    simp [lexL]
  | _ :: _, [], _, _, _, _, _, _, hz => by
    rw [List.length_nil, Nat.min_zero, Ob.lexAt_zero, hz]
    simp [lexL]
  | x :: xs, y :: ys, e, r, z, i, he, hr, hz => by
    have e1 : min (x :: xs).length (y :: ys).length = min xs.length ys.length + 1 := by simp only [List.length_cons]; omega
    have h0 : e i = PyData.eqv x y := by
      rcases he 0 with q | q
      · exact q
      · rw [e1] at q; omega
    have r0 : r i = (ltD x y).getD false := hr 0 x y rfl rfl
    rw [e1, Ob.lexAt_succ, h0]
    show _ = if PyData.eqv x y = true then lexL xs ys else (ltD x y).getD false
    split
    · refine lex_eq xs ys e r z (i + 1) (fun j => ?_) (fun j a b h1 h2 => ?_) (by rw [hz]; simp)
      · rcases he (j + 1) with q | q
        · left
          rw [show i + 1 + j = i + (j + 1) by omega, q]
          rfl
        · right
          rw [e1] at q
          omega
      · rw [show i + 1 + j = i + (j + 1) by omega]
        exact hr (j + 1) a b h1 h2
    · exact r0
theorem cmpL_at : ∀ (xs ys : List D) (j : Nat) (x y : D), cmpL xs ys = true → xs[j]? = some x → ys[j]? = some y → PyData.eqv x y = false → ∃ b, ltD x y = some b
  | [], _, _, _, _, _, h, _, _ => by simp at h
  | _ :: _, [], _, _, _, _, _, h, _ => by simp at h
  | a :: xs, b :: ys, 0, x, y, hc, h1, h2, hn => by
    have e1 : a = x := Option.some.inj h1
    have e2 : b = y := Option.some.inj h2
    subst e1 e2
    unfold cmpL at hc
    rw [hn, Bool.false_or] at hc
    exact Option.isSome_iff_exists.mp (and2 hc).1
  | a :: xs, b :: ys, j + 1, x, y, hc, h1, h2, hn => by
    unfold cmpL at hc
    exact cmpL_at xs ys j x y (and2 hc).2 h1 h2 hn
theorem readsAll_at {h : Heap} : ∀ (ds : List D) (vs : List Value) (as : List Addr), ReadsAll h vs ds as → ∀ (j : Nat) (v : Value), vs[j]? = some v → ∃ d bs, ds[j]? = some d ∧ Reads h v d bs
  | [], _, _, r, j, v, e => by cases r; simp at e
  | d :: ds, _, _, r, j, v, e => by
    cases r with
    | cons r1 r2 =>
      cases j with
      | zero =>
        simp at e
        subst e
        exact ⟨d, _, rfl, r1⟩
      | succ j => exact readsAll_at ds _ _ r2 j v (by simpa using e)
theorem canAll_at : ∀ (ds : List D), PyData.canLayAll0 ds = true → ∀ (j : Nat) (d : D), ds[j]? = some d → d.canLay0 = true
  | [], _, j, d, e => by simp at e
  | x :: ds, h, j, d, e => by
    have h' : x.canLay0 = true ∧ PyData.canLayAll0 ds = true := by simpa [PyData.canLayAll0] using h
    cases j with
    | zero =>
      simp at e
      subst e
      exact h'.1
    | succ j => exact canAll_at ds h'.2 j d (by simpa using e)
theorem depth_at : ∀ (ds : List D) (j : Nat) (d : D), ds[j]? = some d → d.depth ≤ PyData.depthAll ds
  | [], j, d, e => by simp at e
  | x :: ds, j, d, e => by
    show d.depth ≤ max x.depth (PyData.depthAll ds)
    cases j with
    | zero =>
      simp at e
      subst e
      exact Nat.le_max_left _ _
    | succ j => exact Nat.le_trans (depth_at ds j d (by simpa using e)) (Nat.le_max_right _ _)
theorem rc_lt : ∀ (n : Nat) (d e : D) (A : Around) (s : Shared) (x y : Value) (as bs : List Addr) (b : Bool), d.depth ≤ n → Reads s.heap x d as → Reads s.heap y e bs → d.canLay0 = true → e.canLay0 = true → A.units + d.depth < cLine → ltD d e = some b → Ob.RcOp .Lt A s x y b := by
  intro n
  induction n with
  | zero =>
    intro d e A s x y as bs b hd rx ry cd ce hu h
    cases rx with
    | none => cases e <;> cases h
    | bool i => cases e <;> cases h
    | int i t =>
      cases ry with
      | int j u => cases h; exact Ob.RcOp.lt_int i j t u
      | _ => cases h
    | str i t =>
      cases ry with
      | str j u => cases h; exact rc_lt_str i j t u
      | _ => cases h
    | tuple => exact absurd hd (Nat.not_succ_le_zero _)
    | list => cases e <;> cases h
    | dict => cases e <;> cases h
  | succ n ih =>
    intro d e A s x y as bs b hd rx ry cd ce hu h
    cases rx with
    | none => cases e <;> cases h
    | bool i => cases e <;> cases h
    | int i t =>
      cases ry with
      | int j u => cases h; exact Ob.RcOp.lt_int i j t u
      | _ => cases h
    | str i t =>
      cases ry with
      | str j u => cases h; exact rc_lt_str i j t u
      | _ => cases h
    | list => cases e <;> cases h
    | dict => cases e <;> cases h
    | @tuple l o vs m xs as h1 h2 h3 h4 =>
      cases ry with
      | @tuple l' o' vs' m' ys bs k1 k2 k3 k4 =>
        have hx : PyData.canLayAll0 xs = true := cd
        have hy : PyData.canLayAll0 ys = true := ce
        have hdx : PyData.depthAll xs + 1 ≤ n + 1 := hd
        have hux : A.units + (PyData.depthAll xs + 1) < cLine := hu
        have hl : s.heap.IsTuple l vs := ⟨_, h1, h2, _, h3⟩
        have hl' : s.heap.IsTuple l' vs' := ⟨_, k1, k2, _, k3⟩
        have n1 : vs.size = xs.length := by simpa using SeqAt.ReadsAll.length _ _ _ h4
        have n2 : vs'.size = ys.length := by simpa using SeqAt.ReadsAll.length _ _ _ k4
        have hh : (if cmpL xs ys = true then some (lexL xs ys) else none) = some b := h
        obtain ⟨hc, hb⟩ := opt_if hh
        have hm : A.in1.units + min (PyData.depthAll xs) (PyData.depthAll ys) < cLine := by
          have : min (PyData.depthAll xs) (PyData.depthAll ys) ≤ PyData.depthAll xs := Nat.min_le_left _ _
          show A.units + 1 + _ < _
          omega
        have R := Ob.RcOp.tuples_lt (A := A) (s := s) (e := SeqAt.pairEq xs ys) (r := fun j => match xs[j]?, ys[j]? with
          | some a, some c => (ltD a c).getD false
          | _, _ => false) hl hl' (by omega) (fun j j1 j2 => by
            have := SeqAt.eqAt_readsAll xs ys A.in1 s vs.toList vs'.toList _ _ h4 k4 hx hy hm j (by simpa using j1) (by simpa using j2)
            simpa using this) (fun j j1 j2 en => by
            have g1 : vs.toList[j]? = some vs[j] := by simp [j1]
            have g2 : vs'.toList[j]? = some vs'[j] := by simp [j2]
            obtain ⟨a, as', ea, ra⟩ := readsAll_at xs _ _ h4 j _ g1
            obtain ⟨c, bs', ec, rc⟩ := readsAll_at ys _ _ k4 j _ g2
            have en' : PyData.eqv a c = false := by
              have z : SeqAt.pairEq xs ys j = PyData.eqv a c := by
                have y1 : xs.getD j .none = a := by rw [List.getD_eq_getElem?_getD, ea]; rfl
                have y2 : ys.getD j .none = c := by rw [List.getD_eq_getElem?_getD, ec]; rfl
                first
                  | (unfold SeqAt.pairEq; rw [ea, ec])
                  | (unfold SeqAt.pairEq; rw [y1, y2])
              rw [← z]
              exact en
            obtain ⟨k, hk⟩ := cmpL_at xs ys j a c hc ea ec en'
            simp only [ea, ec, hk, Option.getD_some]
            have da := depth_at xs j a ea
            exact ih a c A.in1 s _ _ _ _ k (by omega) ra rc (canAll_at xs hx j a ea) (canAll_at ys hy j c ec) (by show A.units + 1 + a.depth < cLine; omega) hk)
        have ee : Ob.lexAt (SeqAt.pairEq xs ys) (fun j => match xs[j]?, ys[j]? with
          | some a, some c => (ltD a c).getD false
          | _, _ => false) (decide (vs.size < vs'.size)) 0 (min vs.size vs'.size) = b := by
          rw [n1, n2, ← hb]
          refine lex_eq xs ys _ _ _ 0 (fun j => .inl (by rw [Nat.zero_add])) (fun j a c ha hc => ?_) rfl
          simp only [Nat.zero_add, ha, hc]
        rw [← ee]
        exact R
      | _ => cases h
end Dl
namespace Dl
open PySem PySem.Spec PyProof.Rows L2
section
variable {X : Cx} {P : Option V} {XR : XRel} {W : WX}
def rCmp (K : PySem.W.Frag) (k : COp) : R2 := fun x y H Q => ∃ F dx dy b, Same F H ∧ DpT K F H x dx ∧ DpT K F H y dy ∧ cmpD k dx dy = some b ∧ Q (.bl b) H
theorem shp_can {d : D} (h : shp d = true) : d.canLay0 = true := SeqAt.canLay_of_shaped h
theorem shp_depth {d : D} (h : shp d = true) : d.depth ≤ 64 := SeqAt.depth_of_shaped h
theorem op_eqT (hu : X.A.units + 66 < cLine) : OpR X (compareOp .Eq) (rCmp X.K .eq) := by
  intro pins s σ H x y v u Q I rx ry ⟨F, dx, dy, b, e, hx, hy, hc, q⟩
  obtain ⟨hs, hb⟩ := opt_if (show (if (shp dx && shp dy) = true then some (PyData.eqv dx dy) else none) = some b from hc)
  obtain ⟨h1, h2⟩ := and2 hs
  exact op_eqD (X := X) (by omega) pins s σ H x y v u Q I rx ry ⟨dx, dy, (hx.dp e).dp (shp_can h1), (hy.dp e).dp (shp_can h2), h1, h2, by rw [hb]; exact q⟩
theorem op_neT (hu : X.A.units + 66 < cLine) : OpR X (compareOp .NotEq) (rCmp X.K .ne) := by
  intro pins s σ H x y v u Q I rx ry ⟨F, dx, dy, b, e, hx, hy, hc, q⟩
  obtain ⟨c, hc1, hc2⟩ := Option.map_eq_some_iff.mp (show (eqD dx dy).map (!·) = some b from hc)
  obtain ⟨hs, hb⟩ := opt_if (show (if (shp dx && shp dy) = true then some (PyData.eqv dx dy) else none) = some c from hc1)
  obtain ⟨h1, h2⟩ := and2 hs
  exact op_neD (X := X) (by omega) pins s σ H x y v u Q I rx ry ⟨dx, dy, (hx.dp e).dp (shp_can h1), (hy.dp e).dp (shp_can h2), h1, h2, by rw [hb]; rw [← hc2] at q; exact q⟩
theorem op_ltT' (hu : X.A.units + 66 < cLine) : OpR X (compareOp .Lt) (rCmp X.K .lt) := by
  intro pins s σ H x y v u Q I rx ry ⟨F, dx, dy, b, e, hx, hy, hc, q⟩
  obtain ⟨hs, hb⟩ : (shp dx && shp dy) = true ∧ ltD dx dy = some b := by
    have hc : (if (shp dx && shp dy) = true then ltD dx dy else none) = some b := hc
    split at hc
    · exact ⟨by assumption, hc⟩
    · cases hc
  obtain ⟨h1, h2⟩ := and2 hs
  obtain ⟨as, r1⟩ := Dp.reads I dx x v ((hx.dp e).dp (shp_can h1)) rx
  obtain ⟨bs, r2⟩ := Dp.reads I dy y u ((hy.dp e).dp (shp_can h2)) ry
  have hd := shp_depth h1
  exact rc_lt 64 dx dy X.A s v u as bs b hd r1 r2 (shp_can h1) (shp_can h2) (by omega) hb X.prog X.w _ _ ⟨.bl b, H, I, rfl, q⟩
theorem op_gtT : OpR X (compareOp .Gt) (rCmp X.K .gt) := by
  intro pins s σ H x y v u Q I rx ry ⟨F, dx, dy, b, e, hx, hy, hc, q⟩
  cases hx with
  | int i => cases hy with
    | int j => cases hc; exact op_gt pins s σ H _ _ v u Q I rx ry ⟨i, j, rfl, rfl, q⟩
    | _ => cases hc
  | str i => cases hy with
    | str j => cases hc; exact op_gt_str pins s σ H _ _ v u Q I rx ry ⟨i, j, rfl, rfl, by rw [ltN_eq] at q; exact q⟩
    | _ => cases hc
  | _ => cases hc
theorem op_leT : OpR X (compareOp .LtE) (rCmp X.K .le) := by
  intro pins s σ H x y v u Q I rx ry ⟨F, dx, dy, b, e, hx, hy, hc, q⟩
  cases hx with
  | int i => cases hy with
    | int j => cases hc; exact op_le pins s σ H _ _ v u Q I rx ry ⟨i, j, rfl, rfl, q⟩
    | _ => cases hc
  | str i => cases hy with
    | str j => cases hc; exact op_le_str pins s σ H _ _ v u Q I rx ry ⟨i, j, rfl, rfl, by rw [ltN_eq] at q; exact q⟩
    | _ => cases hc
  | _ => cases hc
theorem op_geT : OpR X (compareOp .GtE) (rCmp X.K .ge) := by
  intro pins s σ H x y v u Q I rx ry ⟨F, dx, dy, b, e, hx, hy, hc, q⟩
  cases hx with
  | int i => cases hy with
    | int j => cases hc; exact op_ge pins s σ H _ _ v u Q I rx ry ⟨i, j, rfl, rfl, q⟩
    | _ => cases hc
  | str i => cases hy with
    | str j => cases hc; exact op_ge_str pins s σ H _ _ v u Q I rx ry ⟨i, j, rfl, rfl, by rw [ltN_eq] at q; exact q⟩
    | _ => cases hc
  | _ => cases hc
theorem op_isT : OpR X (compareOp .Is) (rCmp X.K .is) := by
  intro pins s σ H x y v u Q I rx ry ⟨F, dx, dy, b, e, hx, hy, hc, q⟩
  cases hy with
  | non =>
    refine op_isN pins s σ H _ _ v u Q I rx ry ⟨rfl, ?_⟩
    cases hx with
    | dic h => cases h <;> cases hc <;> exact q
    | _ => cases hc; exact q
  | _ => cases hc
theorem op_isnotT : OpR X (compareOp .IsNot) (rCmp X.K .isnot) := by
  intro pins s σ H x y v u Q I rx ry ⟨F, dx, dy, b, e, hx, hy, hc, q⟩
  cases hy with
  | non =>
    refine op_notN pins s σ H _ _ v u Q I rx ry ⟨rfl, ?_⟩
    cases hx with
    | dic h => cases h <;> cases hc <;> exact q
    | _ => cases hc; exact q
  | _ => cases hc
theorem op_inT (hu : X.A.units + 66 < cLine) : OpR X (compareOp .In) (rCmp X.K .in_) := by
  intro pins s σ H x y v u Q I rx ry ⟨F, dx, dy, b, e, hx, hy, hc, q⟩
  cases hy with
  | str j => cases hx with
    | str i => cases hc; exact op_in_str pins s σ H _ _ v u Q I rx ry ⟨i, j, rfl, rfl, q⟩
    | _ => cases hc
  | lst h t =>
    rename_i a xs ds
    obtain ⟨hs, hb⟩ := opt_if (show (if (shp dx && shp (.list ds)) = true then some (memD dx ds) else none) = some b from hc)
    obtain ⟨h1, h2⟩ := and2 hs
    obtain ⟨as, r1⟩ := Dp.reads I dx x v ((hx.dp e).dp (shp_can h1)) rx
    obtain ⟨bs, r2⟩ := Dp.reads I (.list ds) _ u ((Dq.lst h (DqAll.ext e t)).dp (shp_can h2)) ry
    exact SeqAt.in_list_reads r2 r1 (shp_can h2) (shp_can h1) (room_in_shaped h1 (by omega)) ⟨.bl _, H, I, rfl, by rw [← hb] at q; exact q⟩
  | tup h t =>
    rename_i a xs ds
    obtain ⟨hs, hb⟩ := opt_if (show (if (shp dx && shp (.tuple ds)) = true then some (memD dx ds) else none) = some b from hc)
    obtain ⟨h1, h2⟩ := and2 hs
    obtain ⟨as, r1⟩ := Dp.reads I dx x v ((hx.dp e).dp (shp_can h1)) rx
    obtain ⟨bs, r2⟩ := Dp.reads I (.tuple ds) _ u ((Dq.tup (Ext.sqT e h) (DqAll.ext e t)).dp (shp_can h2)) ry
    exact SeqAt.in_tuple_reads r2 r1 (shp_can h2) (shp_can h1) (room_in_shaped h1 (by omega)) ⟨.bl _, H, I, rfl, by rw [← hb] at q; exact q⟩
  | _ => cases hc
theorem op_notinT (hu : X.A.units + 66 < cLine) : OpR X (compareOp .NotIn) (rCmp X.K .notin) := by
  intro pins s σ H x y v u Q I rx ry ⟨F, dx, dy, b, e, hx, hy, hc, q⟩
  obtain ⟨c, hc1, hc2⟩ := Option.map_eq_some_iff.mp (show (inD dx dy).map (!·) = some b from hc)
  rw [← hc2] at q
  cases hy with
  | str j => cases hx with
    | str i => cases hc1; exact op_notin_str pins s σ H _ _ v u Q I rx ry ⟨i, j, rfl, rfl, q⟩
    | _ => cases hc1
  | lst h t =>
    rename_i a xs ds
    obtain ⟨hs, hb⟩ := opt_if (show (if (shp dx && shp (.list ds)) = true then some (memD dx ds) else none) = some c from hc1)
    obtain ⟨h1, h2⟩ := and2 hs
    obtain ⟨as, r1⟩ := Dp.reads I dx x v ((hx.dp e).dp (shp_can h1)) rx
    obtain ⟨bs, r2⟩ := Dp.reads I (.list ds) _ u ((Dq.lst h (DqAll.ext e t)).dp (shp_can h2)) ry
    exact SeqAt.notIn_list_reads r2 r1 (shp_can h2) (shp_can h1) (room_in_shaped h1 (by omega)) ⟨.bl _, H, I, rfl, by rw [← hb] at q; exact q⟩
  | tup h t =>
    rename_i a xs ds
    obtain ⟨hs, hb⟩ := opt_if (show (if (shp dx && shp (.tuple ds)) = true then some (memD dx ds) else none) = some c from hc1)
    obtain ⟨h1, h2⟩ := and2 hs
    obtain ⟨as, r1⟩ := Dp.reads I dx x v ((hx.dp e).dp (shp_can h1)) rx
    obtain ⟨bs, r2⟩ := Dp.reads I (.tuple ds) _ u ((Dq.tup (Ext.sqT e h) (DqAll.ext e t)).dp (shp_can h2)) ry
    exact SeqAt.notIn_tuple_reads r2 r1 (shp_can h2) (shp_can h1) (room_in_shaped h1 (by omega)) ⟨.bl _, H, I, rfl, by rw [← hb] at q; exact q⟩
  | _ => cases hc1
def opOfC : COp → CmpOp
  | .eq => .Eq
  | .ne => .NotEq
  | .lt => .Lt
  | .le => .LtE
  | .gt => .Gt
  | .ge => .GtE
  | .is => .Is
  | .isnot => .IsNot
  | .in_ => .In
  | .notin => .NotIn
theorem op_cmp (hu : X.A.units + 66 < cLine) (k : COp) : OpR X (compareOp (opOfC k)) (rCmp X.K k) := by
  cases k with
  | eq => exact op_eqT hu
  | ne => exact op_neT hu
  | lt => exact op_ltT' hu
  | le => exact op_leT
  | gt => exact op_gtT
  | ge => exact op_geT
  | is => exact op_isT
  | isnot => exact op_isnotT
  | in_ => exact op_inT hu
  | notin => exact op_notinT hu
variable {a b d : Expr} {oa ob od : Env → R (Op × Env)} {pos : Pos}
abbrev cmpF (k : COp) (oa ob : Env → R (Op × Env)) : Env → R (Vl × Env) := fun ρ => (oa ρ).bind fun r => (ob r.2).bind fun q => R.opt (deref q.2 r.1) fun x => R.opt (deref q.2 q.1) fun y => R.opt (cmpD k x y) fun c => .ok (.fr (.bool c), q.2)
theorem cmp_imp (k : COp) {σ : L2.St} {H : Hp} {Q : VK} (h : tE X.K P XR W (cmpF k oa ob) σ H Q) : tOp (rCmp X.K k) (tO X.K P XR W oa) (tO X.K P XR W ob) σ H Q :=
  two_imp (G := fun x y ρ => R.opt (cmpD k x y) fun c => .ok (.fr (.bool c), ρ)) (fun σ F ρ H x y dx dy Q o hx hy h => by
    obtain ⟨c, e, h⟩ := Fin.opt h
    exact ⟨F, dx, dy, c, o.sub, hx, hy, e, fin_fr h o (.bl c)⟩) h
theorem pd_cmp (hu : X.A.units + 66 < cLine) (k : COp) (hm : behindInMarks (opOfC k) b = false) (ha : PO' X P XR W a oa) (hb : PO' X P XR W b ob) : PD X P XR W (.Compare a [opOfC k] [b] pos) (cmpF k oa ob) :=
  PE.imp (pe_cmpR (op_cmp hu k) ha hb hm) fun σ H Q h => cmp_imp k h
abbrev chainF (k j : COp) (oa ob od : Env → R (Op × Env)) : Env → R (Vl × Env) := fun ρ => (oa ρ).bind fun r => (ob r.2).bind fun q => R.opt (deref q.2 r.1) fun x => R.opt (deref q.2 q.1) fun y => R.opt (cmpD k x y) fun c =>
      if c then (od q.2).bind fun p => R.opt (deref p.2 q.1) fun y => R.opt (deref p.2 p.1) fun z => R.opt (cmpD j y z) fun c2 => .ok (.fr (.bool c2), p.2)
      else .ok (.fr (.bool false), q.2)
theorem chain_imp (k j : COp) {σ : L2.St} {H : Hp} {Q : VK} (h : tE X.K P XR W (chainF k j oa ob od) σ H Q) : tChain (rCmp X.K k) (rCmp X.K j) (tO X.K P XR W oa) (tO X.K P XR W ob) (tO X.K P XR W od) σ H Q := by
  obtain ⟨F, ρ, o, q⟩ := h
  refine ⟨F, ρ, o, ?_⟩
  refine Fin.mono (Fin.bind (RR := RO X.K σ) back_RV q) fun x H1 z => ?_
  obtain ⟨F1, ρ1, a1, _, o1, s1, r1, q1⟩ := z
  refine ⟨F1, ρ1, o1, ?_⟩
  refine Fin.mono (Fin.bind (RR := RO X.K σ) back_RV q1) fun y H2 z => ?_
  obtain ⟨F2, ρ2, a2, _, o2, s2, r2, q2⟩ := z
  obtain ⟨dx, e1, q2⟩ := Fin.opt q2
  obtain ⟨dy, e2, q2⟩ := Fin.opt q2
  obtain ⟨c, e3, q2⟩ := Fin.opt q2
  refine ⟨F2, dx, dy, c, o2.sub, ro_here o2 (ro_later s2 r1) e1, ro_here o2 r2 e2, e3, c, rfl, ?_⟩
  cases c with
  | false =>
    rw [if_neg Bool.false_ne_true] at q2 ⊢
    exact fin_fr q2 o2 (.bl false)
  | true =>
    rw [if_pos rfl] at q2 ⊢
    refine ⟨F2, ρ2, o2, ?_⟩
    refine Fin.mono (Fin.bind (RR := RO X.K σ) back_RV q2) fun z H3 w => ?_
    obtain ⟨F3, ρ3, a3, _, o3, s3, r3, q3⟩ := w
    obtain ⟨dy', e4, q3⟩ := Fin.opt q3
    obtain ⟨dz, e5, q3⟩ := Fin.opt q3
    obtain ⟨c2, e6, q3⟩ := Fin.opt q3
    exact ⟨F3, dy', dz, c2, o3.sub, ro_here o3 (ro_later s3 r2) e4, ro_here o3 r3 e5, e6, fin_fr q3 o3 (.bl c2)⟩
theorem pd_chain (hu : X.A.units + 66 < cLine) (k j : COp) (hm : behindInMarks (opOfC j) d = false) (ha : PO' X P XR W a oa) (hb : PO' X P XR W b ob) (hd : PO' X P XR W d od) :
    PD X P XR W (.Compare a [opOfC k, opOfC j] [b, d] pos) (chainF k j oa ob od) := PE.imp (pe_chain (op_cmp hu k) (op_cmp hu j) ha hb hd hm) fun σ H Q h => chain_imp k j h
end
end Dl
end
section
set_option linter.all false
set_option maxRecDepth 100000
set_option maxHeartbeats 4000000
/-! DlTest: truth, tests, and, or, not, if. -/
namespace Dl
open PySem PySem.Spec PyProof.Rows L2
section
variable {X : Cx} {P : Option V} {XR : XRel} {W : WX} {a b d e : Expr} {rest : List Expr} {f g : Env → R (Vl × Env)} {o : Env → R (Op × Env)} {t u : Env → R (Bool × Env)} {pos : Pos}
theorem tru_of {K : PySem.W.Frag} {F H : Hp} {x : V} {d : D} {k : Bool} (s : Same F H) (h : DpT K F H x d) (e : truD d = some k) : TruV K x H k := by
  cases h with
  | non => cases e; rfl
  | bl b => cases e; rfl
  | int i => cases e; rfl
  | str z =>
    obtain ⟨h1, h2⟩ := opt_if (show (if fits z.length = true then some ((z.length : Int) != 0) else none) = some k from e)
    exact ⟨fits_le h1, h2.symm⟩
  | lst h1 t1 =>
    cases e
    refine .inl ⟨_, h1, ?_⟩
    cases t1 <;> rfl
  | tup h1 t1 =>
    cases e
    refine .inr (.inl ⟨_, Ext.sqT s h1, ?_⟩)
    cases t1 <;> rfl
  | dic h => cases e
theorem back_RBσ {σ : L2.St} : Back σ RB := back_RB
/-- an expression as a test, by its truth -/
theorem pt_default (h : PO' X P XR W e o) (he : ∀ whole, isTrue e X.env whole = (do let v ← whole; standAt e.pos; holding [v] (PySem.truthy v))) :
    PTd X P XR W e (fun ρ => (o ρ).bind fun r => R.opt (deref r.2 r.1) fun d => R.opt (truD d) fun b => .ok (b, r.2)) := PT.imp (pt_truth h he) fun σ H Q ⟨F, ρ, ok, q⟩ => by
  refine ⟨F, ρ, ok, ?_⟩
  refine Fin.mono (Fin.bind (RR := RO X.K σ) back_RB q) fun x H1 z => ?_
  obtain ⟨F1, ρ1, a1, _, o1, s1, r1, q1⟩ := z
  obtain ⟨dx, e1, q1⟩ := Fin.opt q1
  obtain ⟨k, e2, q1⟩ := Fin.opt q1
  exact ⟨k, tru_of o1.sub (ro_here o1 r1 e1) e2, Fin.here q1 o1 rfl⟩
theorem pt_notd (h : PTd X P XR W a t) : PTd X P XR W (.UnaryOp .Not a pos) (fun ρ => (t ρ).bind fun r => .ok (!r.1, r.2)) := PT.imp (pt_not h) fun σ H Q ⟨F, ρ, ok, q⟩ => by
  refine ⟨F, ρ, ok, ?_⟩
  refine Fin.mono (Fin.bind (RR := RB) back_RB q) fun x H1 z => ?_
  obtain ⟨F1, ρ1, a1, _, o1, s1, r1, q1⟩ := z
  have e : x = a1 := r1
  subst e
  exact Fin.here q1 o1 rfl
/-- and, or: whatever stands for the whole -/
abbrev PWd (X : Cx) (P : Option V) (XR : XRel) (W : WX) (e : Expr) (f : Env → R (Bool × Env)) : Prop := PW X e (tT X.K P XR W f)
theorem PW.imp {t t' : TT} (h : PW X e t) (i : ∀ σ H Q, t' σ H Q → t σ H Q) : PW X e t' := ⟨fun whole pins s σ H Q I q => h.run whole pins s σ H Q I (i σ H Q q)⟩
theorem pw_and1d (h : PTd X P XR W a t) : PWd X P XR W (.BoolOp .And [a] pos) t := pw_and1 h
theorem pw_or1d (h : PTd X P XR W a t) : PWd X P XR W (.BoolOp .Or [a] pos) t := pw_or1 h
theorem pw_andd (ha : PTd X P XR W a t) (hb : PWd X P XR W (.BoolOp .And (b :: rest) pos) u) : PWd X P XR W (.BoolOp .And (a :: b :: rest) pos) (fun ρ => (t ρ).bind fun r => if r.1 then u r.2 else .ok (false, r.2)) := PW.imp (pw_and ha hb) fun σ H Q ⟨F, ρ, ok, q⟩ => by
  refine ⟨F, ρ, ok, ?_⟩
  refine Fin.mono (Fin.bind (RR := RB) back_RB q) fun x H1 z => ?_
  obtain ⟨F1, ρ1, a1, _, o1, s1, r1, q1⟩ := z
  have e : x = a1 := r1
  subst e
  cases x with
  | true => rw [if_pos rfl] at q1 ⊢; exact ⟨F1, ρ1, o1, q1⟩
  | false => rw [if_neg Bool.false_ne_true] at q1 ⊢; exact Fin.here q1 o1 rfl
theorem pw_ord (ha : PTd X P XR W a t) (hb : PWd X P XR W (.BoolOp .Or (b :: rest) pos) u) : PWd X P XR W (.BoolOp .Or (a :: b :: rest) pos) (fun ρ => (t ρ).bind fun r => if r.1 then .ok (true, r.2) else u r.2) := PW.imp (pw_or ha hb) fun σ H Q ⟨F, ρ, ok, q⟩ => by
  refine ⟨F, ρ, ok, ?_⟩
  refine Fin.mono (Fin.bind (RR := RB) back_RB q) fun x H1 z => ?_
  obtain ⟨F1, ρ1, a1, _, o1, s1, r1, q1⟩ := z
  have e : x = a1 := r1
  subst e
  cases x with
  | true => rw [if_pos rfl] at q1 ⊢; exact Fin.here q1 o1 rfl
  | false => rw [if_neg Bool.false_ne_true] at q1 ⊢; exact ⟨F1, ρ1, o1, q1⟩
/-- a value's data, made known -/
theorem fin_known {K : PySem.W.Frag} {F H : Hp} {ρ : Env} {σ : L2.St} {v : V} {x : Vl} {ρ0 : Env} {F0 H0 : Hp} {Q : VK} (o : Ok K P F ρ σ H) (r : RV K σ ρ0 H0 F H ρ v x) (s : Step F0 ρ0 σ H0 F ρ σ H) (h : Fin K P XR W F0 ρ0 H0 σ (RV K σ) (.ok (.fr x.d, ρ)) Q) : Q v H := by
  obtain ⟨F', o', s', d', _⟩ := rv_known o r s
  exact h v F' H o' s' d'
theorem pd_and (ha : PD X P XR W a f) (hb : PD X P XR W (.BoolOp .And (b :: rest) pos) g) : PD X P XR W (.BoolOp .And (a :: b :: rest) pos) (fun ρ => (f ρ).bind fun r => R.opt (truD r.1.d) fun k => if k then g r.2 else .ok (.fr r.1.d, r.2)) := PE.imp (pe_andT ha hb) fun σ H Q ⟨F, ρ, ok, q⟩ => by
  refine ⟨F, ρ, ok, ?_⟩
  refine Fin.mono (Fin.bind0 q) fun x H1 z => ?_
  obtain ⟨F1, ρ1, a1, _, o1, s1, r1, q0⟩ := z
  obtain ⟨k, e2, q0⟩ := Fin.opt q0
  refine ⟨k, tru_of o1.sub (rv_here o1 r1) e2, ?_⟩
  cases k with
  | true => rw [if_pos rfl] at q0 ⊢; exact ⟨F1, ρ1, o1, Fin.shift back_RV s1 q0⟩
  | false => rw [if_neg Bool.false_ne_true] at q0 ⊢; exact fin_known o1 r1 s1 q0
theorem pd_or (ha : PD X P XR W a f) (hb : PD X P XR W (.BoolOp .Or (b :: rest) pos) g) : PD X P XR W (.BoolOp .Or (a :: b :: rest) pos) (fun ρ => (f ρ).bind fun r => R.opt (truD r.1.d) fun k => if k then .ok (r.1, r.2) else g r.2) := PE.imp (pe_orT ha hb) fun σ H Q ⟨F, ρ, ok, q⟩ => by
  refine ⟨F, ρ, ok, ?_⟩
  refine Fin.mono (Fin.bind0 q) fun x H1 z => ?_
  obtain ⟨F1, ρ1, a1, _, o1, s1, r1, q0⟩ := z
  obtain ⟨k, e2, q0⟩ := Fin.opt q0
  refine ⟨k, tru_of o1.sub (rv_here o1 r1) e2, ?_⟩
  cases k with
  | true => rw [if_pos rfl] at q0 ⊢; exact q0 x F1 H1 o1 s1 r1
  | false => rw [if_neg Bool.false_ne_true] at q0 ⊢; exact ⟨F1, ρ1, o1, Fin.shift back_RV s1 q0⟩
theorem pd_oneb {op : BoolOp} (h : PD X P XR W a f) : PD X P XR W (.BoolOp op [a] pos) f := pe_one h
theorem pd_not (h : PO' X P XR W a o) : PD X P XR W (.UnaryOp .Not a pos) (fun ρ => ((o ρ).bind fun r => R.opt (deref r.2 r.1) fun d => R.opt (truD d) fun b => .ok (b, r.2)).bind fun r => .ok (.fr (.bool (!r.1)), r.2)) := PE.imp (pe_notT h) fun σ H Q ⟨F, ρ, ok, q⟩ => by
  refine ⟨F, ρ, ok, ?_⟩
  have q : Fin X.K P XR W F ρ H σ (RV X.K σ) (((o ρ).bind fun r => R.opt (deref r.2 r.1) fun d => R.opt (truD d) fun b => .ok (b, r.2)).bind fun r => .ok (.fr (.bool (!r.1)), r.2)) Q := q
  rw [R.bind_assoc] at q
  refine Fin.mono (Fin.bind (RR := RO X.K σ) back_RV q) fun x H1 z => ?_
  obtain ⟨F1, ρ1, a1, _, o1, s1, r1, q1⟩ := z
  rw [R.opt_bind] at q1
  obtain ⟨dx, e1, q1⟩ := Fin.opt q1
  rw [R.opt_bind] at q1
  obtain ⟨k, e2, q1⟩ := Fin.opt q1
  exact ⟨k, tru_of o1.sub (ro_here o1 r1 e1) e2, Fin.here q1 o1 (.bl _)⟩
theorem pd_ite {c : Expr} (hc : PTd X P XR W c t) (ha : PD X P XR W a f) (hb : PD X P XR W b g) : PD X P XR W (.IfExp c a b pos) (fun ρ => (t ρ).bind fun r => if r.1 then f r.2 else g r.2) := PE.imp (pe_ifExp hc ha hb) fun σ H Q ⟨F, ρ, ok, q⟩ => by
  refine ⟨F, ρ, ok, ?_⟩
  refine Fin.mono (Fin.bind (RR := RB) back_RV q) fun x H1 z => ?_
  obtain ⟨F1, ρ1, a1, _, o1, s1, r1, q1⟩ := z
  have e : x = a1 := r1
  subst e
  cases x with
  | true => rw [if_pos rfl] at q1 ⊢; exact ⟨F1, ρ1, o1, q1⟩
  | false => rw [if_neg Bool.false_ne_true] at q1 ⊢; exact ⟨F1, ρ1, o1, q1⟩
theorem pd_neg (h : PD X P XR W a f) : PD X P XR W (.UnaryOp .USub a pos) (fun ρ => (f ρ).bind fun r => (match r.1 with
    | .fr (.int i) => .ok (.fr (.int (-i)), r.2)
    | _ => .stuck)) := PE.imp (pe_un un_neg h) fun σ H Q ⟨F, ρ, ok, q⟩ => by
  refine ⟨F, ρ, ok, ?_⟩
  refine Fin.mono (Fin.bind (RR := RV X.K σ) back_RV q) fun x H1 z => ?_
  obtain ⟨F1, ρ1, a1, _, o1, s1, r1, q1⟩ := z
  cases a1 with
  | ow xs => exact q1.elim
  | fr d => cases d with
    | int i =>
      cases r1
      exact ⟨i, rfl, Fin.here q1 o1 (.int _)⟩
    | _ => exact q1.elim
end
end Dl
end
section
set_option linter.all false
set_option maxRecDepth 100000
set_option maxHeartbeats 4000000
/-! DlSeq: items, cuts, displays. -/
namespace Dl
open PySem PySem.Spec PyProof.Rows L2
section
variable {X : Cx} {P : Option V} {XR : XRel} {W : WX} {a b d e : Expr} {es : List Expr} {f g : Env → R (Vl × Env)} {oa o : Env → R (Op × Env)} {t u : Env → R (Bool × Env)} {pos p2 : Pos}
theorem _root_.L2.DqAll.atI {K : PySem.W.Frag} {H : Hp} {vs : List V} {ds : List D} {i : Int} {d : D} (h : DqAll K H vs ds) (e : atI ds i = some d) : ∃ v, atI vs i = some v ∧ Dq K H v d := by
  unfold L2.atI at e ⊢
  rw [h.length]
  obtain ⟨j, h1, h2⟩ := Option.bind_eq_some_iff.mp e
  obtain ⟨v, h3, h4⟩ := h.get h2
  exact ⟨v, by rw [h1]; exact h3, h4⟩
theorem pd_idx (hs : PlainIx b) (ha : PO' X P XR W a oa) (hb : PD X P XR W b f) :
    PD X P XR W (.Subscript a b pos) (fun ρ => (oa ρ).bind fun r => (f r.2).bind fun q => R.opt (deref q.2 r.1) fun x => R.opt (idxD x q.1.d) fun d => .ok (.fr d, q.2)) := PE.imp (pe_ix ix_seq ha hb hs) fun σ H Q ⟨F, ρ, ok, q⟩ => by
  refine ⟨F, ρ, ok, ?_⟩
  refine Fin.mono (Fin.bind (RR := RO X.K σ) back_RV q) fun x H1 z => ?_
  obtain ⟨F1, ρ1, a1, _, o1, s1, r1, q1⟩ := z
  refine ⟨F1, ρ1, o1, ?_⟩
  refine Fin.mono (Fin.bind (RR := RV X.K σ) back_RV q1) fun y H2 z => ?_
  obtain ⟨F2, ρ2, a2, _, o2, s2, r2, q2⟩ := z
  obtain ⟨dx, e1, q3⟩ := Fin.opt q2
  obtain ⟨dz, e2, q4⟩ := Fin.opt q3
  clear q2 q3
  have hx := ro_here o2 (ro_later s2 r1) e1
  have hy := rv_here o2 r2
  have e2 : idxD dx a2.d = some dz := e2
  generalize a2.d = dy at hy e2
  cases hx with
  | lst h t => cases hy with
    | int i =>
      obtain ⟨v, h1, h2⟩ := t.atI e2
      exact .inl ⟨_, _, i, v, rfl, rfl, h, h1, fin_fr q4 o2 h2⟩
    | _ => cases e2
  | tup h t => cases hy with
    | int i =>
      obtain ⟨v, h1, h2⟩ := t.atI e2
      exact .inr (.inl ⟨_, _, i, v, rfl, rfl, Ext.sqT o2.sub h, h1, fin_fr q4 o2 h2⟩)
    | _ => cases e2
  | str z => cases hy with
    | int i =>
      have e2 : (if fits z.length = true then (atI (codes z) i).map fun c => PyData.str ⟨#[c]⟩ else none) = some dz := e2
      split at e2
      · rename_i hf
        obtain ⟨c, h1, h2⟩ := Option.map_eq_some_iff.mp e2
        subst h2
        exact .inr (.inr ⟨z, i, c, rfl, rfl, fits_le hf, h1, fin_fr q4 o2 (.str _)⟩)
      · cases e2
    | _ => cases e2
  | _ => cases e2
/-- a part of a slice -/
abbrev POd (X : Cx) (P : Option V) (XR : XRel) (W : WX) (e : Option Expr) (f : Env → R (Option Int × Env)) : Prop :=
  PO X e fun σ H Q => ∃ F ρ, Ok X.K P F ρ σ H ∧ Fin X.K P XR W F ρ H σ (fun _ _ _ _ _ i j => i = j) (f ρ) Q
theorem back_eq {σ : L2.St} {α : Type} : Back σ (fun _ _ _ _ _ (i j : α) => i = j) := ⟨fun _ h => h⟩
theorem po_imp {x : Option Expr} {t t' : TO} (h : PO X x t) (i : ∀ σ H Q, t' σ H Q → t σ H Q) : PO X x t' := ⟨fun pins s σ H Q I q => h.run pins s σ H Q I (i σ H Q q)⟩
theorem po_absd : POd X P XR W none (fun ρ => .ok (none, ρ)) := po_imp po_none fun σ H Q ⟨F, ρ, ok, q⟩ => Fin.here q ok rfl
theorem po_somed (h : PD X P XR W e f) : POd X P XR W (some e) (fun ρ => (f ρ).bind fun r => (match r.1 with
    | .fr (.int i) => .ok (some i, r.2)
    | _ => .stuck)) := po_imp (po_some h) fun σ H Q ⟨F, ρ, ok, q⟩ => by
  refine ⟨F, ρ, ok, ?_⟩
  refine Fin.mono (Fin.bind (RR := RV X.K σ) back_eq q) fun x H1 z => ?_
  obtain ⟨F1, ρ1, a1, _, o1, s1, r1, q1⟩ := z
  cases a1 with
  | ow xs => exact q1.elim
  | fr d => cases d with
    | int i =>
      cases r1
      exact ⟨i, rfl, Fin.here q1 o1 rfl⟩
    | _ => exact q1.elim
theorem _root_.L2.DqAll.cut {K : PySem.W.Frag} {H : Hp} {vs : List V} {ds : List D} (lo hi : Option Int) (h : DqAll K H vs ds) : DqAll K H (cutV vs lo hi) (cutL ds lo hi) := by
  unfold L2.cutV cutL
  rw [h.length]
  exact (h.drop _).take _
theorem pd_slice {lo hi : Option Expr} {fl fh : Env → R (Option Int × Env)} (ha : PO' X P XR W a oa) (hl : POd X P XR W lo fl) (hh : POd X P XR W hi fh) :
    PD X P XR W (.Subscript a (.Slice lo hi none p2) pos) (fun ρ => (oa ρ).bind fun r => (fl r.2).bind fun l => (fh l.2).bind fun h => R.opt (deref h.2 r.1) fun x => R.opt (sliceD x l.1 h.1) fun v => .ok (v, h.2)) :=
  PE.imp (pe_slice ((sl_list.or sl_tupA).or sl_str) ha hl hh) fun σ H Q ⟨F, ρ, ok, q⟩ => by
  refine ⟨F, ρ, ok, ?_⟩
  refine Fin.mono (Fin.bind (RR := RO X.K σ) back_RV q) fun x H1 z => ?_
  obtain ⟨F1, ρ1, a1, _, o1, s1, r1, q1⟩ := z
  refine ⟨F1, ρ1, o1, ?_⟩
  refine Fin.mono (Fin.bind (RR := fun _ _ _ _ _ i j => i = j) back_RV q1) fun lo H2 z => ?_
  obtain ⟨F2, ρ2, a2, _, o2, s2, r2, q2⟩ := z
  refine ⟨F2, ρ2, o2, ?_⟩
  refine Fin.mono (Fin.bind (RR := fun _ _ _ _ _ i j => i = j) back_RV q2) fun hi H3 z => ?_
  obtain ⟨F3, ρ3, a3, _, o3, s3, r3, q3⟩ := z
  have r2 : lo = a2 := r2
  have r3 : hi = a3 := r3
  subst r2 r3
  obtain ⟨dx, e1, q4⟩ := Fin.opt q3
  obtain ⟨v, e2, q5⟩ := Fin.opt q4
  clear q3 q4
  have hx := ro_here o3 (ro_later (s2.trans s3) r1) e1
  cases hx with
  | lst h t =>
    cases e2
    exact .inl (.inl ⟨_, _, rfl, h, fun p hp => fin_list q5 o3 hp (t.cut _ _)⟩)
  | tup h t =>
    cases e2
    refine .inl (.inr ⟨_, _, rfl, Ext.sqT o3.sub h, fun z => ?_, fun _ p hp => fin_tup q5 o3 hp (t.cut _ _)⟩)
    refine fin_fr q5 o3 ?_
    rename_i aa xs ds
    have e : cutL ds lo hi = ds := by
      unfold cutL
      rw [← t.length, z.1, z.2, List.drop_zero, Nat.sub_zero]
      exact List.take_of_length_le (by rw [t.length]; exact Nat.le_refl _)
    rw [e]
    exact .tup h t
  | str z =>
    obtain ⟨h1, h2⟩ := opt_if e2
    subst h2
    exact .inr ⟨z, rfl, fits_le h1, fin_fr q5 o3 (.str _)⟩
  | _ => cases e2
/-! ### displays -/
abbrev PAd (X : Cx) (P : Option V) (XR : XRel) (W : WX) (es : List Expr) (f : Env → R (List D × Env)) : Prop := PA X es (tVs X.K P XR W f)
theorem pa_nild : PAd X P XR W [] (fun ρ => .ok ([], ρ)) := PA.imp pa_nil fun σ H Q ⟨F, ρ, ok, q⟩ => Fin.here q ok (show DqAll X.K F [] [] from .nil)
theorem fin_shiftVs {K : PySem.W.Frag} {F F1 H H1 : Hp} {ρ ρ1 : Env} {σ : L2.St} {r : R (List D × Env)} {Q : List V → Hp → Prop} (s : Step F ρ σ H F1 ρ1 σ H1) (h : Fin K P XR W F ρ H σ (RVs K) r Q) : Fin K P XR W F1 ρ1 H1 σ (RVs K) r Q := Fin.shift back_RVs s h
theorem pa_consd {h : Env → R (List D × Env)} (hs : starEach (e :: es) X.env = (false, eval e X.env) :: starEach es X.env) (he : PD X P XR W e f) (hr : PAd X P XR W es h) :
    PAd X P XR W (e :: es) (fun ρ => (f ρ).bind fun r => (h r.2).bind fun q => .ok (r.1.d :: q.1, q.2)) := PA.imp (pa_cons he hr hs) fun σ H Q ⟨F, ρ, ok, q⟩ => by
  refine ⟨F, ρ, ok, ?_⟩
  refine Fin.mono (Fin.bind0 q) fun x H1 z => ?_
  obtain ⟨F1, ρ1, a1, _, o1, s1, r1, q0⟩ := z
  obtain ⟨F1', o1', s1', d1, _⟩ := rv_known o1 r1 s1
  refine ⟨F1', ρ1, o1', ?_⟩
  refine Fin.mono (Fin.bind (RR := RVs X.K) back_RVs (fin_shiftVs s1' q0)) fun xs H2 z => ?_
  obtain ⟨F2, ρ2, a2, _, o2, s2, r2, q2⟩ := z
  exact Fin.here q2 o2 (show DqAll X.K F2 (x :: xs) (a1.d :: a2) from .cons (Dq.ext s2.ex d1) r2)
theorem pa_stard {p : Pos} {h : Env → R (List D × Env)} (hs : starEach (.Starred e p :: es) X.env = (true, eval e X.env) :: starEach es X.env) (he : PD X P XR W e f) (hr : PAd X P XR W es h) :
    PAd X P XR W (.Starred e p :: es) (fun ρ => (f ρ).bind fun r => R.opt (items? r.1.d) fun xs => (h r.2).bind fun q => .ok (xs ++ q.1, q.2)) := PA.imp (StX.pa_star he hr hs) fun σ H Q ⟨F, ρ, ok, q⟩ => by
  refine ⟨F, ρ, ok, ?_⟩
  refine Fin.mono (Fin.bind0 (RR := RV X.K σ) q) fun x H1 z => ?_
  obtain ⟨F1, ρ1, a1, _, o1, s1, r1, q0⟩ := z
  obtain ⟨ds, e1, q1⟩ := Fin.opt q0
  obtain ⟨F1', o1', s1', d1, _⟩ := rv_known o1 r1 s1
  have key : ∀ xs, DqAll X.K F1' xs ds → tVs X.K P XR W h σ H1 fun ys H2 => Q (xs ++ ys) H2 := fun xs hd => by
    refine ⟨F1', ρ1, o1', ?_⟩
    refine Fin.mono (Fin.bind (RR := RVs X.K) back_RVs (fin_shiftVs s1' q1)) fun ys H2 z => ?_
    obtain ⟨F2, ρ2, a2, _, o2, s2, r2, q2⟩ := z
    exact Fin.here q2 o2 (show DqAll X.K F2 (xs ++ ys) (ds ++ a2) from (DqAll.ext s2.ex hd).append r2)
  have e1 : items? a1.d = some ds := e1
  clear q0 q1 q r1
  generalize a1.d = d at d1 e1
  cases d1 with
  | lst h t => cases e1; exact ⟨_, _, rfl, .inr (Same.seq o1'.sub h), key _ t⟩
  | tup h t => cases e1; exact ⟨_, _, rfl, .inl (Ext.sqT o1'.sub h), key _ t⟩
  | _ => cases e1
theorem pd_lst {h : Env → R (List D × Env)} (hs : PAd X P XR W es h) : PD X P XR W (.List es pos) (fun ρ => (h ρ).bind fun r => if fits r.1.length then .ok (.ow r.1, r.2) else .stuck) := PE.imp (pe_lst hs) fun σ H Q ⟨F, ρ, ok, q⟩ => by
  refine ⟨F, ρ, ok, ?_⟩
  refine Fin.mono (Fin.bind (RR := RVs X.K) back_RV q) fun xs H1 z => ?_
  obtain ⟨F1, ρ1, a1, _, o1, s1, r1, q1⟩ := z
  have r1 : DqAll X.K F1 xs a1 := r1
  cases hf : fits a1.length with
  | false =>
    have q1 : Fin X.K P XR W F1 ρ1 H1 σ (RV X.K σ) (if fits a1.length = true then R.ok (Vl.ow a1, ρ1) else R.stuck) Q := q1
    rw [hf] at q1
    exact q1.elim
  | true =>
    have q1 : Fin X.K P XR W F1 ρ1 H1 σ (RV X.K σ) (if fits a1.length = true then R.ok (Vl.ow a1, ρ1) else R.stuck) Q := q1
    rw [hf, if_pos rfl] at q1
    exact ⟨by rw [r1.length]; exact fits_le hf, fun p hp => fin_list q1 o1 hp r1⟩
theorem pd_tup {k : Nat} {h : Env → R (List D × Env)} (hs : PAd X P XR W es h) : PD X P XR W (.Tuple es k pos) (fun ρ => (h ρ).bind fun r => if fits r.1.length then .ok (.fr (.tuple r.1), r.2) else .stuck) := PE.imp (pe_tup hs) fun σ H Q ⟨F, ρ, ok, q⟩ => by
  refine ⟨F, ρ, ok, ?_⟩
  refine Fin.mono (Fin.bind (RR := RVs X.K) back_RV q) fun xs H1 z => ?_
  obtain ⟨F1, ρ1, a1, _, o1, s1, r1, q1⟩ := z
  have r1 : DqAll X.K F1 xs a1 := r1
  have q1 : Fin X.K P XR W F1 ρ1 H1 σ (RV X.K σ) (if fits a1.length = true then R.ok (Vl.fr (.tuple a1), ρ1) else R.stuck) Q := q1
  cases hf : fits a1.length with
  | false =>
    rw [hf] at q1
    exact q1.elim
  | true =>
    rw [hf, if_pos rfl] at q1
    exact ⟨by rw [r1.length]; exact fits_le hf, fun p hp => fin_tup q1 o1 hp r1⟩
/-- a new list times an int -/
theorem pd_rep (ha : PD X P XR W a f) (hb : PD X P XR W b g) : PD X P XR W (.BinOp a .Mult b pos) (fun ρ => (f ρ).bind fun r => (g r.2).bind fun q => (match r.1, q.1 with
    | .ow xs, .fr (.int k) => if inRng k && fits (xs.length * k.toNat) then .ok (.ow (rep xs k.toNat), q.2) else .stuck
    | _, _ => .stuck)) := PE.imp (pe_op op_rep ha hb) fun σ H Q ⟨F, ρ, ok, q⟩ => by
  refine ⟨F, ρ, ok, ?_⟩
  refine Fin.mono (Fin.bind (RR := RV X.K σ) back_RV q) fun x H1 z => ?_
  obtain ⟨F1, ρ1, a1, _, o1, s1, r1, q1⟩ := z
  refine ⟨F1, ρ1, o1, ?_⟩
  refine Fin.mono (Fin.bind (RR := RV X.K σ) back_RV q1) fun y H2 z => ?_
  obtain ⟨F2, ρ2, a2, _, o2, s2, r2, q2⟩ := z
  have r1 := rv_later s2 r1
  cases a1 with
  | fr d => exact q2.elim
  | ow xs => cases a2 with
    | ow ys => exact q2.elim
    | fr d => cases d with
      | int k =>
        have q2 : Fin X.K P XR W F2 ρ2 H2 σ (RV X.K σ) (if (inRng k && fits (xs.length * k.toNat)) = true then R.ok (Vl.ow (rep xs k.toNat), ρ2) else R.stuck) Q := q2
        cases hf : inRng k && fits (xs.length * k.toNat) with
        | false => rw [hf] at q2; exact q2.elim
        | true =>
          rw [hf, if_pos rfl] at q2
          obtain ⟨p, vs, rfl, h2, h3, h4, h5, h6⟩ := r1
          obtain ⟨g1, g2⟩ := and2 hf
          have g3 : (-(2 ^ 62) ≤ k) ∧ k < 2 ^ 62 := by
            unfold inRng at g1
            simp only [Bool.and_eq_true, decide_eq_true_eq] at g1
            exact g1
          cases r2
          exact ⟨p, k, vs, rfl, rfl, h3, by omega, by omega, by rw [h4.length]; exact fits_le g2, fun l hl => fin_list q2 o2 hl (h4.reps _)⟩
      | _ => exact q2.elim
theorem pd_revL {k : Nat} {p1 p2 p3 : Pos} {x : V → D → Prop} (ha : PO' X P XR W a oa) : PE X (.Subscript a (.Slice none none (some (.UnaryOp .USub (.Constant (.int 1) k p1) p2)) p3) pos)
    (fun σ H Q => (tO X.K P XR W oa σ H fun v H1 => ∃ a xs, v = .ref a ∧ SqL X.K H1 a xs ∧ ∀ p, H1 p = none → Q (.ref p) (upd H1 p (.lst xs.reverse)))) := pe_revL ha
end
end Dl
end
section
set_option linter.all false
set_option maxRecDepth 100000
set_option maxHeartbeats 4000000
/-! DlRev: x[::-1] of a list or a tuple. -/
namespace Dl
open PySem PySem.Spec PyProof.Rows L2
theorem back_places (n : Nat) : Builtin.Slice.slicePlaces ((n : Int) - 1) (-1) (-1) = n := by
  unfold Builtin.Slice.slicePlaces
  rw [if_neg (by decide)]
  by_cases h : n = 0
  · subst h; rfl
  · rw [if_pos (by omega)]
    have e : (-(-1 : Int)) = 1 := rfl
    rw [e, Int.ediv_one]
    omega
theorem back_pick (xs : Array Value) : ((List.range xs.size).filterMap fun (k : Nat) => xs[(((xs.size : Nat) : Int) - 1 + (k : Int) * (-1)).toNat]?) = xs.toList.reverse := by
  rw [← PySem.W.krv_all xs, ← List.filterMap_reverse, ← PySem.W.krv_range, List.filterMap_map]
  have key : ∀ l : List Nat, (∀ k ∈ l, k < xs.size) → l.filterMap (fun (k : Nat) => xs[(((xs.size : Nat) : Int) - 1 + (k : Int) * (-1)).toNat]?) = l.filterMap ((fun x => xs[x]?) ∘ fun k => xs.size - 1 - k) := fun l => by
    induction l with
    | nil => intro _; rfl
    | cons k l ih =>
      intro h
      have e : (((xs.size : Nat) : Int) - 1 + (k : Int) * (-1)).toNat = xs.size - 1 - k := by have := h k List.mem_cons_self; omega
      rw [List.filterMap_cons, List.filterMap_cons, ih fun j hj => h j (List.mem_cons_of_mem _ hj), e]
      rfl
  exact key _ fun k hk => List.mem_range.mp hk
section
variable {prog : Program} {w : World} {A : Around} {E : Value → Shared → Prop} {s : Shared}
theorem tuple_back {t sl : Addr} {items : Array Value} {vk : Value} {Q : Value → Shared → Prop} (ht : IsTup s.heap t items) (hs : s.heap.IsSliceOf sl .none .none vk) (pk : IsPart vk (some (-1)))
    (h : Q (.ref s.heap.objs.size) { s with heap := s.heap.push { cls := .type "tuple", data := .seq items.toList.reverse.toArray } }) (hz : items.size ≤ sizeLine) : wpAny (model prog w) A (getItem (.ref t) (.ref sl)) Q E s := by
  have hok : sizeOk (.seq items.toList.reverse.toArray) := by
    show items.toList.reverse.toArray.size ≤ sizeLine
    simpa using hz
  obtain ⟨os, g1, g2, g3⟩ := id hs
  have T2 : s.TypeIs (.ref sl) "slice" := ⟨os, g1, g2⟩
  unfold getItem
  try with_reducible refine wpAny_holding ?_
  first | refine wpAny_bind (wpAny_pure ?_) | skip
  refine wpAny_bind (wpAny_sequenceKey ht.typeIs (by decide) ?_)
  refine wpAny_bind (wpAny_callSpecial?_slot (name := Str.ofString "__getitem__") ht.typeIs slot_tuple_getitem (wpAny_call_entry slot_tuple_getitem ht.typeIs PyProof.Rows.entry_tuple_getitem ?_ (PyProof.Rows.args_tuple_getitem _ _)))
  show wpAny _ _ (Builtin.Tuple.tupleItemsOf (.ref t) >>= _) _ _ s
  refine wpAny_bind (tupleItemsOf_ ht (wpAny_bind (wpAny_typeOf T2 ?_)))
  rw [if_pos (by decide)]
  refine wpAny_bind ?_
  unfold Builtin.Slice.sliceApplied Builtin.Slice.sliceFields
  refine wpAny_bind (wpAny_bind (wpAny_field g1 g3 (x := .none) rfl (wpAny_bind (wpAny_field g1 g3 (x := .none) rfl (wpAny_bind (wpAny_field g1 g3 (x := vk) rfl (wpAny_pure ?_)))))))
  refine wpAny_bind (HT.slicePart_ pk ?_)
  show wpAny _ _ (if ((-1 : Int) == 0) = true then _ else _) _ _ s
  rw [if_neg (by decide)]
  refine wpAny_bind (slicePart_none (wpAny_bind (slicePart_none (wpAny_bind (wpAny_pure ?_)))))
  show wpAny _ _ (pure ((items.size : Int) - 1, (-1 : Int), Builtin.Slice.slicePlaces ((items.size : Int) - 1) (-1) (-1))) _ _ s
  rw [back_places]
  refine wpAny_pure ?_
  show wpAny _ _ (if (((items.size : Int) - 1) == 0 && (-1 : Int) == 1 && items.size == items.size) = true then _ else _) _ _ s
  rw [if_neg (by simp), back_pick]
  first
    | exact wpAny_bind (m := Builtin.Tuple.tupleExact _) (wpAny_newObj_type (wpAny_pure ⟨_, rfl, wpAny_pure h⟩) hok)
    | exact wpAny_bind (m := Builtin.Tuple.tupleExact _) (wpAny_newObj_type (wpAny_bind (wpAny_pure (wpAny_pure ⟨_, rfl, wpAny_pure h⟩))) hok)
    | exact wpAny_bind (wpAny_bind (m := Builtin.Tuple.tupleExact _) (wpAny_newObj_type (wpAny_pure (wpAny_pure ⟨_, rfl, wpAny_pure h⟩)) hok))
    | exact wpAny_bind (wpAny_bind (m := Builtin.Tuple.tupleExact _) (wpAny_newObj_type (wpAny_pure ⟨_, rfl, wpAny_pure h⟩) hok))
end
section
variable {X : Cx} {P : Option V} {XR : XRel} {W : WX} {a e : Expr} {te : TE} {oa : Env → R (Op × Env)} {pos p1 p2 p3 : Pos}
def tRevA (K : PySem.W.Frag) (te : TE) : TE := fun σ H Q => te σ H fun x H1 => (∃ a xs, x = .ref a ∧ SqL K H1 a xs ∧ ∀ p, H1 p = none → Q (.ref p) (upd H1 p (.lst xs.reverse))) ∨ (∃ a xs, x = .ref a ∧ SqT K H1 a xs ∧ ∀ p, H1 p = none → Q (.ref p) (upd H1 p (.tup xs.reverse)))
theorem pe_revA {k : Nat} (he : PE X e te) : PE X (.Subscript e (.Slice none none (some (.UnaryOp .USub (.Constant (.int 1) k p1) p2)) p3) pos) (tRevA X.K te) := by
  refine ⟨fun pins s σ H Q I h => ?_⟩
  refine Subscript_ (thn (he.run pins s σ H _ I h) fun v s1 ⟨x, H1, I1, rx, q1⟩ => ?_)
  have st : PO X (some (.UnaryOp .USub (.Constant (.int 1) k p1) p2)) (tPart (tUn (rU fun i => .int (-i)) (tC (.int 1)))) := po_some (pe_un un_neg pe_int)
  refine wpAny_Slice (thn (po_none.run pins s1 σ H1 (fun o H2 => o = none ∧ H2 = H1) I1 ⟨rfl, rfl⟩) fun vl s2 ⟨l, H2, I2, pl, el, e2⟩ => ?_)
  subst el e2
  refine thn (po_none.run pins s2 σ H2 (fun o H3 => o = none ∧ H3 = H2) I2 ⟨rfl, rfl⟩) fun vu s3 ⟨u, H3, I3, pu, eu, e3⟩ => ?_
  subst eu e3
  refine thn (st.run pins s3 σ H3 (fun o H4 => o = some (-1) ∧ H4 = H3) I3 ⟨1, rfl, -1, rfl, rfl, rfl⟩) fun vs s4 ⟨o, H4, I4, ps, eo, e4⟩ => ?_
  subst eo e4
  cases pl
  cases pu
  have I5 : Inv X pins σ H4 { s4 with heap := s4.heap.push { cls := .type "slice", data := .fields #[.none, .none, vs] } } := I4.kept (t' := s4.toks) fun b ob q => Heap.get?_push_of_some _ q
  rcases q1 with ⟨c, xs, ex, hx, q⟩ | ⟨c, xs, ex, hx, q⟩
  · subst ex
    cases rx
    obtain ⟨its, r, ht, hz⟩ := I5.list hx
    have hlen := r.length
    refine tail_any (ops := [.ref c, .ref s4.heap.objs.size]) ht.isList.typeIs PySem.slot_list_getitem.lookup ?_ (by with_unfolding_all rfl)
    refine wpAny_getItem_list_slice ht.isList (Heap.IsSliceOf.new _ .none .none vs) .none .none ps (by decide) ?_ (by rw [List.size_toArray]; omega)
    rw [PySem.W.krv_pick]
    refine ⟨.ref _, _, I5.laid (t' := s4.toks) (o := .lst xs.reverse) (fun b ob q => Heap.get?_push_of_some _ q) (Nat.le_refl _) ?_, rfl, q _ (I5.hok.fresh (Nat.le_refl _))⟩
    exact ⟨by rw [List.length_reverse]; exact hz, _, 0, r.reverse, Heap.get?_push_size _ rfl⟩
  · subst ex
    cases rx
    obtain ⟨its, r, ht, hz⟩ := I5.tuple hx
    have hlen := r.length
    refine tail_any (ops := [.ref c, .ref s4.heap.objs.size]) ht.typeIs slot_tuple_getitem.lookup ?_ (by with_unfolding_all rfl)
    refine tuple_back ht (Heap.IsSliceOf.new _ .none .none vs) ps ?_ (by rw [List.size_toArray]; omega)
    refine ⟨.ref _, _, I5.laid (t' := s4.toks) (o := .tup xs.reverse) (fun b ob q => Heap.get?_push_of_some _ q) (Nat.le_refl _) ?_, rfl, q _ (I5.hok.fresh (Nat.le_refl _))⟩
    exact ⟨by rw [List.length_reverse]; exact hz, its.reverse, r.reverse, IsTup.new _ _⟩
theorem pd_rev {k : Nat} (ha : PO' X P XR W a oa) : PD X P XR W (.Subscript a (.Slice none none (some (.UnaryOp .USub (.Constant (.int 1) k p1) p2)) p3) pos) (fun ρ => (oa ρ).bind fun r => R.opt (deref r.2 r.1) fun x => R.opt (revD x) fun v => .ok (v, r.2)) := PE.imp (pe_revA ha) fun σ H Q ⟨F, ρ, ok, q⟩ => by
  refine ⟨F, ρ, ok, ?_⟩
  refine Fin.mono (Fin.bind (RR := RO X.K σ) back_RV q) fun x H1 z => ?_
  obtain ⟨F1, ρ1, a1, _, o1, s1, r1, q1⟩ := z
  obtain ⟨dx, e1, q2⟩ := Fin.opt q1
  obtain ⟨v, e2, q3⟩ := Fin.opt q2
  clear q1 q2
  have hx := ro_here o1 r1 e1
  cases hx with
  | lst h t => cases e2; exact .inl ⟨_, _, rfl, h, fun p hp => fin_list q3 o1 hp t.reverse⟩
  | tup h t => cases e2; exact .inr ⟨_, _, rfl, Ext.sqT o1.sub h, fun p hp => fin_tup q3 o1 hp t.reverse⟩
  | _ => cases e2
end
end Dl
end
section
set_option linter.all false
set_option maxRecDepth 100000
set_option maxHeartbeats 4000000
/-! DlCall: what a def promises, calls of defs. -/
namespace Dl
open PySem PySem.Spec PyProof.Rows L2
/-- behind a call: M tells the one list that it may have changed -/
structure After (M : Addr → Prop) (F H F' H' : Hp) : Prop where
  sub : Same F' H'
  ex : Same F F'
  keep : ∀ a o, H a = some o → ¬ M a → H' a = some o
  new : ∀ a, F' a ≠ none → F a ≠ none ∨ M a ∨ H a = none
  there : ∀ a, H' a = none → H a = none
/-- what comes back -/
def RF (K : PySem.W.Frag) (H F' H' : Hp) (u : V) : Vl → Prop
  | .fr d => Dq K F' u d
  | .ow xs => ∃ p vs, u = .ref p ∧ F' p = none ∧ H' p = some (.lst vs) ∧ DqAll K F' vs xs ∧ H p = none
/-- the promise of a def that is worth g: without a list that it may change, with one -/
def spF (K : PySem.W.Frag) (XR : XRel) (np : Nat) (g : List D → Option (List D) → RC) : Bool → Sp
  | false => fun vs H Q E => vs.length = np ∧ ∃ F ds, Same F H ∧ DqAll K F vs ds ∧ (match g ds none with
    | .ok v _ => ∀ u F' H', After (fun _ => False) F H F' H' → RF K H F' H' u v → Q u H'
    | .exc c xs => ∀ cls d F' H', After (fun _ => False) F H F' H' → XR F' H' cls d c xs → E cls d H'
    | .stuck => False)
  | true => fun vs H Q E => vs.length = np ∧ ∃ F ds b vs0 xs0 r, vs = .ref b :: r ∧ Same F H ∧ F b = none ∧ H b = some (.lst vs0) ∧ DqAll K F vs0 xs0 ∧ DqAll K F r ds ∧ (match g ds (some xs0) with
    | .ok v (some ys) => ∀ u vs1 F' H', After (fun a => a = b) F H F' H' → F' b = none → H' b = some (.lst vs1) → DqAll K F' vs1 ys → RF K H F' H' u v → Q u H'
    | _ => False)
theorem spF_len {K : PySem.W.Frag} {XR : XRel} {np : Nat} {g : List D → Option (List D) → RC} {io : Bool} {vs : List V} {H : Hp} {Q : VK} {E : XK} (h : spF K XR np g io vs H Q E) : vs.length = np := by
  cases io with
  | false => exact h.1
  | true => exact h.1
section
variable {K : PySem.W.Frag} {P : Option V} {F F' H H' : Hp} {ρ : Env} {σ : L2.St}
/-- a call that changes no list of ours -/
theorem After.step (a : After (fun _ => False) F H F' H') (o : Ok K P F ρ σ H) : Ok K P F' ρ σ H' ∧ Step F ρ σ H F' ρ σ H' := by
  refine ⟨⟨a.sub, o.len, fun i d q => ?_, fun i xs q => ?_, o.inj, o.pin⟩, ⟨a.ex, fun b u q _ => a.keep b u q fun z => z, fun b q => ?_, fun b q => .inl q, a.there⟩⟩
  · obtain ⟨v, h1, h2⟩ := o.fr i d q
    exact ⟨v, h1, Dq.ext a.ex h2⟩
  · obtain ⟨b, vs, h1, h2, h3, h4⟩ := o.ow i xs q
    refine ⟨b, vs, h1, ?_, a.keep b _ h3 fun z => z, DqAll.ext a.ex h4⟩
    cases z : F' b with
    | none => rfl
    | some u =>
      rcases a.new b (by rw [z]; exact fun y => nomatch y) with y | y | y
      · exact absurd h2 y
      · exact y.elim
      · rw [h3] at y; cases y
  · rcases a.new b q with y | y | y
    · exact .inl y
    · exact y.elim
    · exact .inr (.inr y)
/-- a call that changes the list of slot i -/
theorem After.stepIo {i : Nat} {b : Addr} {xs ys : List D} {vs1 : List V} (a : After (fun c => c = b) F H F' H') (o : Ok K P F ρ σ H) (hi : ρ[i]? = some (.ow xs)) (hb : σ[i]? = some (some (.ref b))) (f : F' b = none) (h1 : H' b = some (.lst vs1)) (d1 : DqAll K F' vs1 ys) :
    Ok K P F' (setSl ρ i (.ow ys)) σ H' ∧ Step F ρ σ H F' (setSl ρ i (.ow ys)) σ H' ∧ (∀ p, ¬ OwnAt ρ σ p → ¬ OwnAt (setSl ρ i (.ow ys)) σ p) := by
  have hl : i < ρ.length := (List.getElem?_eq_some_iff.mp hi).1
  have ob : OwnAt ρ σ b := ⟨i, xs, hi, hb⟩
  have back : ∀ (j : Nat) (zs : List D), (setSl ρ i (.ow ys))[j]? = some (.ow zs) → (j = i ∧ zs = ys) ∨ (j ≠ i ∧ ρ[j]? = some (.ow zs)) := fun j zs q => by
    unfold setSl at q
    by_cases hj : i = j
    · subst hj
      rw [List.getElem?_set_self hl] at q
      cases q
      exact .inl ⟨rfl, rfl⟩
    · rw [List.getElem?_set_ne hj] at q
      exact .inr ⟨Ne.symm hj, q⟩
  have own' : ∀ c, OwnAt (setSl ρ i (.ow ys)) σ c → OwnAt ρ σ c := fun c ⟨j, zs, q1, q2⟩ => by
    rcases back j zs q1 with ⟨e1, _⟩ | ⟨_, q⟩
    · subst e1
      rw [hb] at q2
      cases q2
      exact ob
    · exact ⟨j, zs, q, q2⟩
  refine ⟨⟨a.sub, ?_, fun j d q => ?_, fun j zs q => ?_, fun j k zs ws c q1 q2 => ?_, o.pin⟩, ⟨a.ex, fun c u q n => a.keep c u q fun z => n (by subst z; exact ob), fun c q => ?_, fun c q => .inl (own' c q), a.there⟩, fun p n z => n (own' p z)⟩
  · unfold setSl; rw [List.length_set]; exact o.len
  · unfold setSl at q
    by_cases hj : i = j
    · subst hj
      rw [List.getElem?_set_self hl] at q
      cases q
    · rw [List.getElem?_set_ne hj] at q
      obtain ⟨v, g1, g2⟩ := o.fr j d q
      exact ⟨v, g1, Dq.ext a.ex g2⟩
  · rcases back j zs q with ⟨e1, e2⟩ | ⟨hj, q⟩
    · subst e1 e2
      exact ⟨b, vs1, hb, f, h1, d1⟩
    · obtain ⟨c, vs, g1, g2, g3, g4⟩ := o.ow j zs q
      have hc : c ≠ b := fun z => hj (o.inj j i zs xs b q hi (by rw [g1, z]) hb)
      refine ⟨c, vs, g1, ?_, a.keep c _ g3 hc, DqAll.ext a.ex g4⟩
      cases z : F' c with
      | none => rfl
      | some u =>
        rcases a.new c (by rw [z]; exact fun y => nomatch y) with y | y | y
        · exact absurd g2 y
        · exact absurd y hc
        · rw [g3] at y; cases y
  · intro s1 s2
    have f1 : ∃ zs, ρ[j]? = some (.ow zs) := by
      rcases back j zs q1 with ⟨e1, _⟩ | ⟨_, q⟩
      · subst e1; exact ⟨xs, hi⟩
      · exact ⟨_, q⟩
    have f2 : ∃ zs, ρ[k]? = some (.ow zs) := by
      rcases back k ws q2 with ⟨e1, _⟩ | ⟨_, q⟩
      · subst e1; exact ⟨xs, hi⟩
      · exact ⟨_, q⟩
    obtain ⟨z1, g1⟩ := f1
    obtain ⟨z2, g2⟩ := f2
    exact o.inj j k z1 z2 c g1 g2 s1 s2
  · rcases a.new c q with y | y | y
    · exact .inl y
    · subst y; exact .inr (.inl ob)
    · exact .inr (.inr y)
/-- a call that changes a list that no slot holds, gone behind it -/
theorem After.stepTm {b : Addr} {F0 H0 : Hp} {ρ0 : Env} (a : After (fun c => c = b) F H F' H') (o : Ok K P F ρ σ H) (s : Step F0 ρ0 σ H0 F ρ σ H) (nb : ¬ OwnAt ρ σ b) (hb : OwnAt ρ0 σ b ∨ H0 b = none) :
    Ok K P F' ρ σ H' ∧ Step F0 ρ0 σ H0 F' ρ σ H' := by
  refine ⟨⟨a.sub, o.len, fun i d q => ?_, fun i xs q => ?_, o.inj, o.pin⟩, ⟨s.ex.trans a.ex, fun c u q n => ?_, fun c q => ?_, s.own, fun c q => s.there c (a.there c q)⟩⟩
  · obtain ⟨v, h1, h2⟩ := o.fr i d q
    exact ⟨v, h1, Dq.ext a.ex h2⟩
  · obtain ⟨c, vs, h1, h2, h3, h4⟩ := o.ow i xs q
    have hc : c ≠ b := fun z => nb ⟨i, xs, q, by rw [h1, z]⟩
    refine ⟨c, vs, h1, ?_, a.keep c _ h3 hc, DqAll.ext a.ex h4⟩
    cases z : F' c with
    | none => rfl
    | some u =>
      rcases a.new c (by rw [z]; exact fun y => nomatch y) with y | y | y
      · exact absurd h2 y
      · exact absurd y hc
      · rw [h3] at y; cases y
  · refine a.keep c u (s.keep c u q n) fun z => ?_
    subst z
    rcases hb with y | y
    · exact n y
    · rw [q] at y; cases y
  · rcases a.new c q with y | y | y
    · exact s.new c y
    · subst y
      rcases hb with y | y
      · exact .inr (.inl y)
      · exact .inr (.inr y)
    · exact .inr (.inr (s.there c y))
theorem rf_rv {u : V} {v : Vl} {ρ' : Env} (r : RF K H F' H' u v) (o : Ok K P F ρ σ H) (n : ∀ p, ¬ OwnAt ρ σ p → ¬ OwnAt ρ' σ p) : RV K σ ρ H F' H' ρ' u v := by
  cases v with
  | fr d => exact r
  | ow xs =>
    obtain ⟨p, vs, h1, h2, h3, h4, h5⟩ := r
    refine ⟨p, vs, h1, h2, h3, h4, n p fun ⟨i, ys, q1, q2⟩ => ?_, .inr h5⟩
    obtain ⟨c, us, g1, _, g3, _⟩ := o.ow i ys q1
    rw [g1] at q2
    cases q2
    rw [h5] at g3
    cases g3
end
section
variable {X : Cx} {P : Option V} {XR : XRel} {W : WX} {k np : Nat} {f : Addr} {fd : FuncData} {ps : List Str} {x : Str} {p pos : Pos} {e a : Expr} {es : List Expr} {g : List D → Option (List D) → RC} {h : Env → R (List D × Env)}
theorem pd_call (G : FnOk X.prog X.w X.K X.mg X.base (L2.CX X.prog X.w) k f fd ps (spF X.K XR np g false)) (hr : Room k X.A) (hg : Gl X x) (hm : X.mg x = some (.ref f)) (hk : PySem.W.keepIn X.K (.ref f) = true) (hb : L2.Binds X.K fd ps []) (tk : Takes X W)
    (ha : PAd X P XR W (e :: es) h) (hdb : (x == ("__debug__" : Str)) = false) (he : starEach (e :: es) X.env = (false, eval e X.env) :: starEach es X.env) (hpl : (backTo pos (starEach es X.env)).any (·.1) = false)
    (hn : ∀ ρ ds ρ', h ρ = .ok (ds, ρ') → ds.length = np) :
    PD X P XR W (.Call (.Name x p) (e :: es) [] pos) (fun ρ => (h ρ).bind fun r => callR (g r.1 none) r.2) := PE.imp (pe_callS G hr hg hm hk hb (fun σ => passAt tk σ) ha hdb he hpl) fun σ H Q ⟨F, ρ, ok, q⟩ => by
  refine ⟨F, ρ, ok, ?_⟩
  refine Fin.mono (Fin.bind (RR := RVs X.K) back_RV q) fun vs H1 z => ?_
  obtain ⟨F1, ρ1, a1, eq, o1, s1, r1, q1⟩ := z
  have r1 : DqAll X.K F1 vs a1 := r1
  have hl := hn _ _ _ eq
  refine ⟨by rw [r1.length]; exact hl, F1, a1, o1.sub, r1, ?_⟩
  have q1 : Fin X.K P XR W F1 ρ1 H1 σ (RV X.K σ) (callR (g a1 none) ρ1) Q := q1
  cases hg : g a1 none with
  | ok v io =>
    rw [hg] at q1
    intro u F' H' af rf
    obtain ⟨o', s'⟩ := af.step o1
    exact q1 u F' H' o' s' (rf_rv rf o1 fun p n => n)
  | exc c xs =>
    rw [hg] at q1
    intro cls d F' H' af xr
    obtain ⟨o', s'⟩ := af.step o1
    exact q1 cls d F' H' o' s' xr
  | stuck => rw [hg] at q1; exact q1
theorem pd_call0 (G : FnOk X.prog X.w X.K X.mg X.base (L2.CX X.prog X.w) k f fd ps (spF X.K XR 0 g false)) (hr : Room k X.A) (hg : Gl X x) (hm : X.mg x = some (.ref f)) (hk : PySem.W.keepIn X.K (.ref f) = true) (hb : L2.Binds X.K fd ps [])
    (hdb : (x == ("__debug__" : Str)) = false) :
    PD X P XR W (.Call (.Name x p) [] [] pos) (fun ρ => (callR (g [] none) ρ).nox) := PE.imp (pe_call0 (E := fun _ _ _ => False) G hr hg hm hk hb .nil (fun pins σ H s e s' I z => passL (X := X) pins σ H s e s' I z) hdb) fun σ H Q ⟨F, ρ, ok, q⟩ => by
  refine ⟨rfl, F, [], ok.sub, .nil, ?_⟩
  have q1 : Fin X.K P XR W F ρ H σ (RV X.K σ) ((callR (g [] none) ρ).nox) Q := q
  cases hg : g [] none with
  | ok v io =>
    rw [hg] at q1
    intro u F' H' af rf
    obtain ⟨o', s'⟩ := af.step ok
    exact q1 u F' H' o' s' (rf_rv rf ok fun p n => n)
  | exc c xs => rw [hg] at q1; exact q1.elim
  | stuck => rw [hg] at q1; exact q1.elim
theorem ow_of {ρ : Env} {i : Nat} {xs : List D} (h : owOf ρ i = some xs) : ρ[i]? = some (.ow xs) := by
  unfold owOf at h
  split at h
  · rename_i ys e
    cases h
    exact e
  · cases h
/-- the first argument is slot i's list, handed on to be changed -/
theorem pd_callio {i : Nat} {y : Str} {p2 : Pos} (G : FnOk X.prog X.w X.K X.mg X.base (L2.CX X.prog X.w) k f fd ps (spF X.K XR np g true)) (hr : Room k X.A) (hg : Gl X x) (hm : X.mg x = some (.ref f)) (hk : PySem.W.keepIn X.K (.ref f) = true) (hb : L2.Binds X.K fd ps [])
    (hN : X.N[i]? = some y) (hv : Vis X.env.scope y) (hd : (y == ("__debug__" : Str)) = false) (hcd : (y == ("__classdict__" : Str)) = false) (tk : Takes X W)
    (ha : PAd X P XR W es h) (hdb : (x == ("__debug__" : Str)) = false) (he : starEach (.Name y p2 :: es) X.env = (false, eval (.Name y p2) X.env) :: starEach es X.env) (hpl : (backTo pos (starEach es X.env)).any (·.1) = false)
    (hn : ∀ ρ ds ρ', h ρ = .ok (ds, ρ') → ds.length + 1 = np) :
    PD X P XR W (.Call (.Name x p) (.Name y p2 :: es) [] pos) (fun ρ => R.opt (owOf ρ i) fun _ => (h ρ).bind fun r => R.opt (owOf r.2 i) fun xs => callIo (g r.1 (some xs)) r.2 i) := by
  refine PE.imp (pe_callS G hr hg hm hk hb (fun σ => passAt tk σ) (pa_cons (pe_var hN hv hd hcd) ha he) hdb he hpl) fun σ H Q ⟨F, ρ, ok, q⟩ => ?_
  obtain ⟨xs0, h0, q⟩ := Fin.opt q
  obtain ⟨b, vs, hb, _⟩ := ok.ow i xs0 (ow_of h0)
  refine ⟨.ref b, hb, F, ρ, ok, ?_⟩
  refine Fin.mono (Fin.bind (RR := RVs X.K) back_RV q) fun vs H1 z => ?_
  obtain ⟨F1, ρ1, a1, eq, o1, s1, r1, q1⟩ := z
  have r1 : DqAll X.K F1 vs a1 := r1
  obtain ⟨xs1, h1, q1⟩ := Fin.opt q1
  have h1 := ow_of h1
  obtain ⟨b', vs0, hb', g2, g3, g4⟩ := o1.ow i xs1 h1
  rw [hb] at hb'
  cases hb'
  refine ⟨by rw [List.length_cons, r1.length]; exact hn _ _ _ eq, F1, a1, b, vs0, xs1, vs, rfl, o1.sub, g2, g3, g4, r1, ?_⟩
  have q1 : Fin X.K P XR W F1 ρ1 H1 σ (RV X.K σ) (callIo (g a1 (some xs1)) ρ1 i) Q := q1
  cases hg : g a1 (some xs1) with
  | ok v io =>
    rw [hg] at q1
    cases io with
    | none => exact q1.elim
    | some ys =>
      intro u vs1 F' H' af f1 f2 f3 rf
      obtain ⟨o', s', n'⟩ := af.stepIo o1 h1 hb f1 f2 f3
      exact q1 u F' H' o' s' (rf_rv rf o1 n')
  | exc c xs => rw [hg] at q1; exact q1.elim
  | stuck => rw [hg] at q1; exact q1.elim
/-- the first argument is a new list, handed on to be changed, then dropped -/
theorem pd_callt {fa : Env → R (Vl × Env)} (G : FnOk X.prog X.w X.K X.mg X.base (L2.CX X.prog X.w) k f fd ps (spF X.K XR np g true)) (hr : Room k X.A) (hg : Gl X x) (hm : X.mg x = some (.ref f)) (hk : PySem.W.keepIn X.K (.ref f) = true) (hb : L2.Binds X.K fd ps []) (tk : Takes X W)
    (h1 : PD X P XR W a fa) (ha : PAd X P XR W es h) (hdb : (x == ("__debug__" : Str)) = false) (he : starEach (a :: es) X.env = (false, eval a X.env) :: starEach es X.env) (hpl : (backTo pos (starEach es X.env)).any (·.1) = false)
    (hn : ∀ ρ ds ρ', h ρ = .ok (ds, ρ') → ds.length + 1 = np) :
    PD X P XR W (.Call (.Name x p) (a :: es) [] pos) (fun ρ => (fa ρ).bind fun q => (match q.1 with
    | .ow xs => (h q.2).bind fun r => callTm (g r.1 (some xs)) r.2
    | _ => .stuck)) := by
  refine PE.imp (pe_callS G hr hg hm hk hb (fun σ => passAt tk σ) (pa_cons h1 ha he) hdb he hpl) fun σ H Q ⟨F, ρ, ok, q⟩ => ?_
  refine ⟨F, ρ, ok, ?_⟩
  refine Fin.mono (Fin.bind0 (RR := RV X.K σ) q) fun v H1 z => ?_
  obtain ⟨F1, ρ1, a1, _, o1, s1, r1, q1⟩ := z
  cases a1 with
  | fr d => exact q1.elim
  | ow xs =>
    refine ⟨F1, ρ1, o1, ?_⟩
    refine Fin.mono (Fin.bindFrom (RR := RVs X.K) s1 q1) fun vs H2 z => ?_
    obtain ⟨F2, ρ2, a2, eq, o2, s2, r2, q2⟩ := z
    have r2 : DqAll X.K F2 vs a2 := r2
    obtain ⟨b, vs0, rfl, g2, g3, g4, g5, g6⟩ := rv_later s2 r1
    refine ⟨by rw [List.length_cons, r2.length]; exact hn _ _ _ eq, F2, a2, b, vs0, xs, vs, rfl, o2.sub, g2, g3, g4, r2, ?_⟩
    have q2 : Fin X.K P XR W F ρ H σ (RV X.K σ) (callTm (g a2 (some xs)) ρ2) Q := q2
    cases hg : g a2 (some xs) with
    | ok v io =>
      rw [hg] at q2
      cases io with
      | none => exact q2.elim
      | some ys =>
        intro u vs1 F' H' af f1 f2 f3 rf
        obtain ⟨o', s'⟩ := af.stepTm o2 (s1.trans s2) g5 g6
        exact q2 u F' H' o' s' (back_RV.back (s1.trans s2) (rf_rv rf o2 fun p n => n))
    | exc c xs => rw [hg] at q2; exact q2.elim
    | stuck => rw [hg] at q2; exact q2.elim
end
end Dl
end
section
set_option linter.all false
set_option maxRecDepth 100000
set_option maxHeartbeats 4000000
/-! DlBi: operand lists, builtin functions. -/
namespace Dl
open PySem PySem.Spec PyProof.Rows L2
inductive ROs (K : PySem.W.Frag) (σ : L2.St) (ρ₀ : Env) (H₀ F H : Hp) (ρ : Env) : List V → List Op → Prop where
  | nil : ROs K σ ρ₀ H₀ F H ρ [] []
  | cons {v : V} {o : Op} {vs : List V} {os : List Op} : RO K σ ρ₀ H₀ F H ρ v o → ROs K σ ρ₀ H₀ F H ρ vs os → ROs K σ ρ₀ H₀ F H ρ (v :: vs) (o :: os)
inductive DpTs (K : PySem.W.Frag) (F H : Hp) : List V → List D → Prop where
  | nil : DpTs K F H [] []
  | cons {v : V} {o : D} {vs : List V} {os : List D} : DpT K F H v o → DpTs K F H vs os → DpTs K F H (v :: vs) (o :: os)
section
variable {K : PySem.W.Frag} {P : Option V} {XR : XRel} {W : WX} {F F0 F1 H H0 H1 : Hp} {ρ ρ0 ρ1 : Env} {σ : L2.St}
theorem back_ROs : Back σ (ROs K σ) := ⟨fun {F₀ H₀ F₁ H₁ F H ρ₀ ρ₁ ρ v a} s h => by
  induction h with
  | nil => exact .nil
  | cons h _ ih => exact .cons (back_RO.back s h) ih⟩
theorem ros_here {vs : List V} {os : List Op} (o : Ok K P F ρ σ H) (h : ROs K σ ρ0 H0 F H ρ vs os) : ∀ {ds : List D}, derefs ρ os = some ds → DpTs K F H vs ds := by
  induction h with
  | nil => intro ds e; cases e; exact .nil
  | cons h _ ih =>
    intro ds e
    obtain ⟨d, e1, e⟩ := Option.bind_eq_some_iff.mp e
    obtain ⟨r, e2, e⟩ := Option.map_eq_some_iff.mp e
    subst e
    exact .cons (ro_here o h e1) (ih e2)
end
section
variable {X : Cx} {P : Option V} {XR : XRel} {W : WX} {e a : Expr} {es : List Expr} {o : Env → R (Op × Env)} {os : Env → R (List Op × Env)} {x : Str} {p pos : Pos} {id T : String}
def tOs (K : PySem.W.Frag) (P : Option V) (XR : XRel) (W : WX) (f : Env → R (List Op × Env)) : TA := fun σ H Q => ∃ F ρ, Ok K P F ρ σ H ∧ Fin K P XR W F ρ H σ (ROs K σ) (f ρ) Q
abbrev POs (X : Cx) (P : Option V) (XR : XRel) (W : WX) (es : List Expr) (f : Env → R (List Op × Env)) : Prop := PA X es (tOs X.K P XR W f)
theorem po_nil : POs X P XR W [] (fun ρ => .ok ([], ρ)) := PA.imp pa_nil fun σ H Q ⟨F, ρ, ok, q⟩ => Fin.here q ok ROs.nil
theorem po_cons (hs : starEach (e :: es) X.env = (false, eval e X.env) :: starEach es X.env) (he : PO' X P XR W e o) (hr : POs X P XR W es os) :
    POs X P XR W (e :: es) (fun ρ => (o ρ).bind fun r => (os r.2).bind fun q => .ok (r.1 :: q.1, q.2)) := PA.imp (pa_cons he hr hs) fun σ H Q ⟨F, ρ, ok, q⟩ => by
  refine ⟨F, ρ, ok, ?_⟩
  refine Fin.mono (Fin.bind0 (RR := RO X.K σ) q) fun x H1 z => ?_
  obtain ⟨F1, ρ1, a1, _, o1, s1, r1, q0⟩ := z
  refine ⟨F1, ρ1, o1, ?_⟩
  refine Fin.mono (Fin.bindFrom (RR := ROs X.K σ) s1 q0) fun xs H2 z => ?_
  obtain ⟨F2, ρ2, a2, _, o2, s2, r2, q2⟩ := z
  exact q2 (x :: xs) F2 H2 o2 (s1.trans s2) (.cons (ro_later s2 r1) (back_ROs.back s1 r2))
/-- a builtin of operands -/
theorem pd_bi {r : List V → Hp → VK → Prop} {w : Expr} (b : BI) (h : PE X w (tCB r (tOs X.K P XR W os)))
    (hr : ∀ (σ : L2.St) (F : Hp) (ρ : Env) (H : Hp) (vs : List V) (ds : List D) (v : Vl) (Q : VK), Ok X.K P F ρ σ H → DpTs X.K F H vs ds → biD b ds = some v → Fin X.K P XR W F ρ H σ (RV X.K σ) (.ok (v, ρ)) Q → r vs H Q) :
    PD X P XR W w (fun ρ => (os ρ).bind fun r => R.opt (derefs r.2 r.1) fun ds => R.opt (biD b ds) fun v => .ok (v, r.2)) := PE.imp h fun σ H Q ⟨F, ρ, ok, q⟩ => by
  refine ⟨F, ρ, ok, ?_⟩
  refine Fin.mono (Fin.bind (RR := ROs X.K σ) back_RV q) fun vs H1 z => ?_
  obtain ⟨F1, ρ1, a1, _, o1, s1, r1, q1⟩ := z
  obtain ⟨ds, e1, q1⟩ := Fin.opt q1
  obtain ⟨v, e2, q1⟩ := Fin.opt q1
  exact hr σ F1 ρ1 H1 vs ds v Q o1 (ros_here o1 r1 e1) e2 q1
/-! ### one by one -/
section
variable {K : PySem.W.Frag} {F H : Hp} {ρ : Env} {σ : L2.St} {vs : List V} {ds : List D} {v : Vl} {Q : VK}
theorem len_ok (o : Ok K P F ρ σ H) (h : DpTs K F H vs ds) (e : biD .len ds = some v) (q : Fin K P XR W F ρ H σ (RV K σ) (.ok (v, ρ)) Q) : ∃ x n, vs = [x] ∧ LenV K x H n ∧ Q (.int n) H := by
  cases h with
  | nil => cases e
  | cons h t =>
    cases t with
    | cons _ _ => cases h <;> cases e
    | nil =>
      cases h with
      | str x =>
        obtain ⟨h1, h2⟩ := opt_if (show (if fits x.length = true then some (Vl.fr (.int x.length)) else none) = some v from e)
        subst h2
        exact ⟨_, x.length, rfl, ⟨fits_le h1, rfl⟩, fin_fr q o (.int _)⟩
      | lst h t => cases e; exact ⟨_, _, rfl, .inl ⟨_, h, rfl⟩, by rw [t.length]; exact fin_fr q o (.int _)⟩
      | tup h t => cases e; exact ⟨_, _, rfl, .inr ⟨_, Ext.sqT o.sub h, rfl⟩, by rw [t.length]; exact fin_fr q o (.int _)⟩
      | _ => cases e
theorem tuple_ok (o : Ok K P F ρ σ H) (h : DpTs K F H vs ds) (e : biD .tuple ds = some v) (q : Fin K P XR W F ρ H σ (RV K σ) (.ok (v, ρ)) Q) :
    ∃ p ys, vs = [.ref p] ∧ ((SqL K H p ys ∧ ∀ l, H l = none → Q (.ref l) (upd H l (.tup ys))) ∨ (SqT K H p ys ∧ Q (.ref p) H)) := by
  cases h with
  | nil => cases e
  | cons h t =>
    cases t with
    | cons _ _ => cases h <;> cases e
    | nil =>
      cases h with
      | lst h t => cases e; exact ⟨_, _, rfl, .inl ⟨h, fun l hl => fin_tup q o hl t⟩⟩
      | tup h t => cases e; exact ⟨_, _, rfl, .inr ⟨Ext.sqT o.sub h, fin_fr q o (.tup h t)⟩⟩
      | _ => cases e
theorem list_ok (o : Ok K P F ρ σ H) (h : DpTs K F H vs ds) (e : biD .list ds = some v) (q : Fin K P XR W F ρ H σ (RV K σ) (.ok (v, ρ)) Q) :
    ∃ p ys, vs = [.ref p] ∧ (SqL K H p ys ∨ SqT K H p ys) ∧ ∀ l, H l = none → Q (.ref l) (upd H l (.lst ys)) := by
  cases h with
  | nil => cases e
  | cons h t =>
    cases t with
    | cons _ _ => cases h <;> cases e
    | nil =>
      cases h with
      | lst h t => cases e; exact ⟨_, _, rfl, .inl h, fun l hl => fin_list q o hl t⟩
      | tup h t => cases e; exact ⟨_, _, rfl, .inr (Ext.sqT o.sub h), fun l hl => fin_list q o hl t⟩
      | _ => cases e
theorem all_ok (o : Ok K P F ρ σ H) (h : DpTs K F H vs ds) (e : biD .all ds = some v) (q : Fin K P XR W F ρ H σ (RV K σ) (.ok (v, ρ)) Q) : rAll K vs H Q := by
  cases h with
  | nil => cases e
  | cons h t =>
    cases t with
    | cons _ _ => cases h <;> cases e
    | nil =>
      cases h with
      | lst h t =>
        obtain ⟨bs, e1, e⟩ := Option.map_eq_some_iff.mp e
        subst e
        exact ⟨_, bs, rfl, by rw [← t.bls e1]; exact h, fin_fr q o (.bl _)⟩
      | _ => cases e
theorem any_ok (o : Ok K P F ρ σ H) (h : DpTs K F H vs ds) (e : biD .any ds = some v) (q : Fin K P XR W F ρ H σ (RV K σ) (.ok (v, ρ)) Q) : rAny K vs H Q := by
  cases h with
  | nil => cases e
  | cons h t =>
    cases t with
    | cons _ _ => cases h <;> cases e
    | nil =>
      cases h with
      | lst h t =>
        obtain ⟨bs, e1, e⟩ := Option.map_eq_some_iff.mp e
        subst e
        exact ⟨_, bs, rfl, by rw [← t.bls e1]; exact h, fin_fr q o (.bl _)⟩
      | _ => cases e
theorem sum_ok (o : Ok K P F ρ σ H) (h : DpTs K F H vs ds) (e : biD .sum ds = some v) (q : Fin K P XR W F ρ H σ (RV K σ) (.ok (v, ρ)) Q) : rSum K vs H Q := by
  cases h with
  | nil => cases e
  | cons h t =>
    cases t with
    | cons _ _ => cases h <;> cases e
    | nil =>
      cases h with
      | lst h t =>
        obtain ⟨bs, e1, e⟩ := Option.map_eq_some_iff.mp e
        subst e
        exact ⟨_, bs, rfl, by rw [← t.ints e1]; exact h, fin_fr q o (.int _)⟩
      | _ => cases e
theorem abs_ok (o : Ok K P F ρ σ H) (h : DpTs K F H vs ds) (e : biD .abs ds = some v) (q : Fin K P XR W F ρ H σ (RV K σ) (.ok (v, ρ)) Q) : ∃ i, vs = [.int i] ∧ Q (.int (if i < 0 then -i else i)) H := by
  cases h with
  | nil => cases e
  | cons h t =>
    cases t with
    | cons _ _ => cases h <;> cases e
    | nil =>
      cases h with
      | int i => cases e; exact ⟨i, rfl, fin_fr q o (.int _)⟩
      | _ => cases e
theorem int_ok (o : Ok K P F ρ σ H) (h : DpTs K F H vs ds) (e : biD .int ds = some v) (q : Fin K P XR W F ρ H σ (RV K σ) (.ok (v, ρ)) Q) : (∃ i, vs = [.int i] ∧ Q (.int i) H) ∨ ∃ k, vs = [.bl k] ∧ Q (.int (if k then 1 else 0)) H := by
  cases h with
  | nil => cases e
  | cons h t =>
    cases t with
    | cons _ _ => cases h <;> cases e
    | nil =>
      cases h with
      | int i => cases e; exact .inl ⟨i, rfl, fin_fr q o (.int _)⟩
      | bl i => cases e; exact .inr ⟨i, rfl, fin_fr q o (.int _)⟩
      | _ => cases e
theorem two_ok (b : BI) (hb : b = .max ∨ b = .min) (o : Ok K P F ρ σ H) (h : DpTs K F H vs ds) (e : biD b ds = some v) (q : Fin K P XR W F ρ H σ (RV K σ) (.ok (v, ρ)) Q) : ∃ i j, vs = [.int i, .int j] ∧ Q (.int (if b = .max then (if j > i then j else i) else (if j < i then j else i))) H := by
  cases h with
  | nil => rcases hb with rfl | rfl <;> cases e
  | cons h t =>
    cases t with
    | nil => rcases hb with rfl | rfl <;> cases h <;> cases e
    | cons h2 t =>
      cases t with
      | cons _ _ => rcases hb with rfl | rfl <;> cases h <;> cases h2 <;> cases e
      | nil =>
        cases h with
        | int i => cases h2 with
          | int j =>
            refine ⟨i, j, rfl, ?_⟩
            rcases hb with rfl | rfl
            · cases e; rw [if_pos rfl]; exact fin_fr q o (.int _)
            · cases e; rw [if_neg (by decide)]; exact fin_fr q o (.int _)
          | _ => rcases hb with rfl | rfl <;> cases e
        | _ => rcases hb with rfl | rfl <;> cases e
end
abbrev biF (b : BI) (os : Env → R (List Op × Env)) : Env → R (Vl × Env) := fun ρ => (os ρ).bind fun r => R.opt (derefs r.2 r.1) fun ds => R.opt (biD b ds) fun v => .ok (v, r.2)
section
variable (ha : POs X P XR W (e :: es) os) (hc : X.calm = true) (he : starEach (e :: es) X.env = (false, eval e X.env) :: starEach es X.env) (hpl : (backTo pos (starEach es X.env)).any (·.1) = false)
include ha he hpl
theorem pd_len (hg : Gl X "len") (hm : X.mg "len" = none) : PD X P XR W (.Call (.Name "len" p) (e :: es) [] pos) (biF .len os) :=
  pd_bi .len (pe_callB call_len hg hm boot_len ha (by decide) (by decide) he hpl) fun σ F ρ H vs ds v Q o h e q => len_ok o h e q
theorem pd_tuple (hg : Gl X "tuple") (hm : X.mg "tuple" = none) : PD X P XR W (.Call (.Name "tuple" p) (e :: es) [] pos) (biF .tuple os) :=
  pd_bi .tuple (pe_callTy call_tuple_of hg hm boot_tuple ha (by decide) (by decide) he hpl) fun σ F ρ H vs ds v Q o h e q => tuple_ok o h e q
theorem pd_list (hg : Gl X "list") (hm : X.mg "list" = none) : PD X P XR W (.Call (.Name "list" p) (e :: es) [] pos) (biF .list os) :=
  pd_bi .list (pe_callTy call_list_of hg hm boot_list ha (by decide) (by decide) he hpl) fun σ F ρ H vs ds v Q o h e q => list_ok o h e q
theorem pd_abs (hg : Gl X "abs") (hm : X.mg "abs" = none) : PD X P XR W (.Call (.Name "abs" p) (e :: es) [] pos) (biF .abs os) :=
  pd_bi .abs (pe_callB call_abs hg hm (by decide +kernel) ha (by decide) (by decide) he hpl) fun σ F ρ H vs ds v Q o h e q => abs_ok o h e q
theorem pd_int (hg : Gl X "int") (hm : X.mg "int" = none) : PD X P XR W (.Call (.Name "int" p) (e :: es) [] pos) (biF .int os) :=
  pd_bi .int (pe_callTy call_int1 hg hm (by decide +kernel) ha (by decide) (by decide) he hpl) fun σ F ρ H vs ds v Q o h e q => int_ok o h e q
include hc
theorem pd_all (hg : Gl X "all") (hm : X.mg "all" = none) : PD X P XR W (.Call (.Name "all" p) (e :: es) [] pos) (biF .all os) :=
  pd_bi .all (pe_callB (cr_all hc) hg hm boot_all ha (by decide) (by decide) he hpl) fun σ F ρ H vs ds v Q o h e q => all_ok o h e q
theorem pd_any (hg : Gl X "any") (hm : X.mg "any" = none) : PD X P XR W (.Call (.Name "any" p) (e :: es) [] pos) (biF .any os) :=
  pd_bi .any (pe_callB (cr_any hc) hg hm boot_any ha (by decide) (by decide) he hpl) fun σ F ρ H vs ds v Q o h e q => any_ok o h e q
theorem pd_sum (hg : Gl X "sum") (hm : X.mg "sum" = none) : PD X P XR W (.Call (.Name "sum" p) (e :: es) [] pos) (biF .sum os) :=
  pd_bi .sum (pe_callB (cr_sum hc) hg hm (by decide +kernel) ha (by decide) (by decide) he hpl) fun σ F ρ H vs ds v Q o h e q => sum_ok o h e q
theorem pd_max (hg : Gl X "max") (hm : X.mg "max" = none) : PD X P XR W (.Call (.Name "max" p) (e :: es) [] pos) (biF .max os) :=
  pd_bi .max (pe_callB (call_max2 hc) hg hm (by decide +kernel) ha (by decide) (by decide) he hpl) fun σ F ρ H vs ds v Q o h e q => two_ok .max (.inl rfl) o h e q
theorem pd_min (hg : Gl X "min") (hm : X.mg "min" = none) : PD X P XR W (.Call (.Name "min" p) (e :: es) [] pos) (biF .min os) :=
  pd_bi .min (pe_callB (call_min2 hc) hg hm (by decide +kernel) ha (by decide) (by decide) he hpl) fun σ F ρ H vs ds v Q o h e q => two_ok .min (.inr rfl) o h e q
end
/-! ### isinstance -/
def tyS : Ty → String
  | .str => "str"
  | .tuple => "tuple"
  | .list => "list"
  | .int => "int"
  | .bool => "bool"
def tyX : Ty → Str
  | .str => "str"
  | .tuple => "tuple"
  | .list => "list"
  | .int => "int"
  | .bool => "bool"
def tyD : D → String
  | .none => "NoneType"
  | .bool _ => "bool"
  | .int _ => "int"
  | .str _ => "str"
  | .list _ => "list"
  | .tuple _ => "tuple"
  | .dict _ => "dict"
theorem ty_of {K : PySem.W.Frag} {F H : Hp} {x : V} {d : D} (s : Same F H) (h : DpT K F H x d) (hd : ∀ kvs, d ≠ .dict kvs) : TyX K H x (.type (tyD d)) := by
  cases h with
  | non => exact .base .non
  | bl b => exact .base (.bl b)
  | int i => exact .base (.int i)
  | str x => exact .base (.str x)
  | dic h => exact absurd rfl (hd _)
  | lst h t =>
    rcases h with (h | ⟨o, h⟩) | ⟨o, its, n, h, c, _⟩
    · exact .base (.lst h)
    · exact .base (.frz h)
    · exact .kList h c
  | tup h t =>
    rcases Ext.sqT s h with (h | ⟨o, h⟩) | ⟨o, its, n, h, c, _⟩
    · exact .base (.tup h)
    · exact .fTuple h
    · exact .kTuple h c
theorem isTy_kind (t : Ty) : ∀ d e : D, tyD d = tyD e → isTy d t = isTy e t := fun d e h => by
  cases d <;> cases e <;> first | (cases t <;> rfl) | (simp only [tyD] at h; exact absurd h (by decide))
theorem kit_tys0 (t : Ty) : ∀ d : D, d ∈ [PyData.none, .bool true, .int 0, .str default, .list [], .tuple []] → kitB (tyD d) (tyS t) = some (isTy d t) := by
  cases t <;> decide +kernel
theorem kit_tys {K : PySem.W.Frag} (t : Ty) : ∀ d : D, (∀ kvs, d ≠ .dict kvs) → PySem.W.kitOne K (.type (tyD d)) (.type (tyS t)) = some (isTy d t) := fun d hd => by
  have key : ∀ e : D, e ∈ [PyData.none, .bool true, .int 0, .str default, .list [], .tuple []] → tyD d = tyD e → PySem.W.kitOne K (.type (tyD d)) (.type (tyS t)) = some (isTy d t) := fun e he h => by
    rw [isTy_kind t d e h, h]
    exact kit_ty (kit_tys0 t e he)
  cases d with
  | dict kvs => exact absurd rfl (hd kvs)
  | none => exact key .none (by simp) rfl
  | bool b => exact key (.bool true) (by simp) rfl
  | int b => exact key (.int 0) (by simp) rfl
  | str b => exact key (.str default) (by simp) rfl
  | list b => exact key (.list []) (by simp) rfl
  | tuple b => exact key (.tuple []) (by simp) rfl
theorem kit_any {K : PySem.W.Frag} {d : D} (hd : ∀ kvs, d ≠ .dict kvs) : ∀ ts : List Ty, PySem.W.kitAny K (.type (tyD d)) (ts.map fun t => Value.type (tyS t)) = some (ts.any (isTy d))
  | [] => kitAny_nil
  | t :: ts => by
    rw [List.map_cons, List.any_cons]
    refine kitAny_cons (kit_tys t d hd) (fun e => ?_) (fun e => ?_)
    · rw [e]
      exact kit_any hd ts
    · rw [e]
      rfl
theorem isTyO_some {ts : List Ty} {d : D} {b : Bool} (h : isTyO ts d = some b) : (∀ kvs, d ≠ .dict kvs) ∧ ts.any (isTy d) = b := by
  cases d with
  | dict kvs => cases h
  | _ => exact ⟨fun _ z => (by cases z), Option.some.inj h⟩
theorem boot_ty (t : Ty) : bootBuiltins (tyX t) = some (.type (tyS t)) := by cases t <;> decide +kernel
theorem pe_ty (t : Ty) (hg : Gl X (tyX t)) (hm : X.mg (tyX t) = none) : PE X (.Name (tyX t) p) (tC (.ty (tyS t))) :=
  pe_bltn hg hm (boot_ty t) (show RelV (.ty (tyS t)) (.type (tyS t)) from rfl) (by cases t <;> decide) (by cases t <;> decide)
abbrev isF (ts : List Ty) (o : Env → R (Op × Env)) : Env → R (Vl × Env) := fun ρ => (o ρ).bind fun r => R.opt (deref r.2 r.1) fun d => R.opt (isTyO ts d) fun b => .ok (.fr (.bool b), r.2)
theorem pd_is1 {p2 : Pos} (t : Ty) (hg : Gl X "isinstance") (hm : X.mg "isinstance" = none) (hgt : Gl X (tyX t)) (hmt : X.mg (tyX t) = none) (ha : PO' X P XR W e o)
    (hs1 : starEach [e, .Name (tyX t) p2] X.env = (false, eval e X.env) :: starEach [.Name (tyX t) p2] X.env) (hs2 : starEach [.Name (tyX t) p2] X.env = (false, eval (.Name (tyX t) p2) X.env) :: starEach [] X.env)
    (hpl : (backTo pos (starEach [.Name (tyX t) p2] X.env)).any (·.1) = false) : PD X P XR W (.Call (.Name "isinstance" p) [e, .Name (tyX t) p2] [] pos) (isF [t] o) :=
  PE.imp (pe_callB call_isi hg hm PyProof.Rows.boot_isinstance (pa_cons ha (pa_cons (pe_ty t hgt hmt) pa_nil hs2) hs1) (by decide) (by decide) hs1 hpl) fun σ H Q ⟨F, ρ, ok, q⟩ => by
  refine ⟨F, ρ, ok, ?_⟩
  refine Fin.mono (Fin.bind (RR := RO X.K σ) back_RV q) fun x H1 z => ?_
  obtain ⟨F1, ρ1, a1, _, o1, s1, r1, q1⟩ := z
  obtain ⟨d, e1, q1⟩ := Fin.opt q1
  have hx := ro_here o1 r1 e1
  obtain ⟨b, e3, q1⟩ := Fin.opt q1
  obtain ⟨nd, e3⟩ := isTyO_some e3
  subst e3
  have e2 := kit_any (K := X.K) nd [t]
  refine ⟨x, .ty (tyS t), .type (tyD d), .type (tyS t), [t].any (isTy d), rfl, .ty _, ty_of o1.sub hx nd, ?_, fin_fr q1 o1 (.bl _)⟩
  rw [kit_tys t d nd]
  simp
def tTys (ts : List Ty) : TA := fun _ H Q => Q (ts.map fun t => .ty (tyS t)) H
theorem pa_tys0 : PA X [] (tTys []) := PA.imp pa_nil fun σ H Q q => q
theorem pa_tys {p2 : Pos} {ts : List Ty} (t : Ty) (hgt : Gl X (tyX t)) (hmt : X.mg (tyX t) = none) (hs : starEach (.Name (tyX t) p2 :: es) X.env = (false, eval (.Name (tyX t) p2) X.env) :: starEach es X.env) (h : PA X es (tTys ts)) :
    PA X (.Name (tyX t) p2 :: es) (tTys (t :: ts)) := PA.imp (pa_cons (pe_ty t hgt hmt) h hs) fun σ H Q q => q
theorem paired_tys : ∀ ts : List Ty, Paired ClsV (ts.map fun t => V.ty (tyS t)) (ts.map fun t => Value.type (tyS t))
  | [] => .nil
  | t :: ts => .cons (.ty _) (paired_tys ts)
theorem pd_isT {k : Nat} {p2 : Pos} (ts : List Ty) (hl : ts.length ≤ 16777216) (hg : Gl X "isinstance") (hm : X.mg "isinstance" = none) (ha : PO' X P XR W e o) (ht : PA X es (tTys ts))
    (hs1 : starEach [e, .Tuple es k p2] X.env = (false, eval e X.env) :: starEach [.Tuple es k p2] X.env) (hs2 : starEach [.Tuple es k p2] X.env = (false, eval (.Tuple es k p2) X.env) :: starEach [] X.env)
    (hpl : (backTo pos (starEach [.Tuple es k p2] X.env)).any (·.1) = false) : PD X P XR W (.Call (.Name "isinstance" p) [e, .Tuple es k p2] [] pos) (isF ts o) :=
  PE.imp (pe_callB call_isiT hg hm PyProof.Rows.boot_isinstance (pa_cons ha (pa_cons (pe_tup ht) pa_nil hs2) hs1) (by decide) (by decide) hs1 hpl) fun σ H Q ⟨F, ρ, ok, q⟩ => by
  refine ⟨F, ρ, ok, ?_⟩
  refine Fin.mono (Fin.bind (RR := RO X.K σ) back_RV q) fun x H1 z => ?_
  obtain ⟨F1, ρ1, a1, _, o1, s1, r1, q1⟩ := z
  obtain ⟨d, e1, q1⟩ := Fin.opt q1
  obtain ⟨b, e3, q1⟩ := Fin.opt q1
  obtain ⟨nd, e3⟩ := isTyO_some e3
  subst e3
  refine ⟨by rw [List.length_map, sizeLine_eq]; exact hl, fun tp hp => ?_⟩
  have e : Same H1 (upd H1 tp (.tup (ts.map fun t => V.ty (tyS t)))) := fun b u q => by rw [upd_ne (ne_of_none q hp)]; exact q
  have hx := ro_here o1 r1 e1
  have o2 := o1.grow e
  refine ⟨x, tp, _, .type (tyD d), _, ts.any (isTy d), rfl, upd_same, paired_tys ts, ?_, kit_any nd ts, ?_⟩
  · exact ty_of o2.sub (ro_here o2 (ro_later (Step.grow e) r1) e1) nd
  · exact fin_fr (Fin.shift back_RV (Step.grow e) q1) o2 (.bl _)
end
end Dl
end
section
set_option linter.all false
set_option maxRecDepth 100000
set_option maxHeartbeats 2000000
/-! DlQuiet: a slot that an expression neither changes nor hands on; what a comprehension makes only grows; wiped slots. -/
namespace Dl
open PySem L2
theorem R.bind_ok {α β : Type} {r : R α} {f : α → R β} {b : β} (h : r.bind f = .ok b) : ∃ a, r = .ok a ∧ f a = .ok b := by
  cases r with
  | ok a => exact ⟨a, rfl, h⟩
  | exc _ _ _ => cases h
  | stuck => cases h
theorem R.opt_ok {α β : Type} {r : Option α} {f : α → R β} {b : β} (h : R.opt r f = .ok b) : ∃ a, r = some a ∧ f a = .ok b := by
  cases r with
  | some a => exact ⟨a, rfl, h⟩
  | none => cases h
theorem R.nox_ok {α : Type} {r : R α} {b : α} (h : r.nox = .ok b) : r = .ok b := by
  cases r with
  | ok a => exact h
  | exc _ _ _ => cases h
  | stuck => cases h
/-! ### slots by place -/
theorem setSl_ne {ρ : Env} {i j : Nat} {s : Sl} (h : i ≠ j) : (setSl ρ i s)[j]? = ρ[j]? := List.getElem?_set_ne h
theorem wipeE_in {ρ : Env} {j : Nat} {s : Sl} : ∀ {vs : List Nat}, j ∈ vs → (wipeE ρ vs)[j]? = some s → s = .un
  | [], h, _ => absurd h (by simp)
  | v :: vs, h, e => by
    unfold wipeE setSl at e
    by_cases hv : v = j
    · subst hv
      rw [List.getElem?_set] at e
      split at e
      · split at e
        · cases e; rfl
        · cases e
      · exact absurd rfl ‹_›
    · rw [List.getElem?_set_ne hv] at e
      rcases List.mem_cons.mp h with z | z
      · exact absurd z.symm hv
      · exact wipeE_in z e
theorem wipeE_out {ρ : Env} {j : Nat} : ∀ {vs : List Nat}, j ∉ vs → (wipeE ρ vs)[j]? = ρ[j]?
  | [], _ => rfl
  | v :: vs, h => by
    unfold wipeE
    rw [setSl_ne (fun z => h (by rw [z]; exact List.mem_cons_self))]
    exact wipeE_out fun z => h (List.mem_cons_of_mem _ z)
theorem wipeE_len {ρ : Env} : ∀ {vs : List Nat}, (wipeE ρ vs).length = ρ.length
  | [] => rfl
  | v :: vs => by unfold wipeE setSl; rw [List.length_set]; exact wipeE_len
theorem backE_len {ρ ρ' : Env} : ∀ {vs : List Nat}, (backE ρ ρ' vs).length = ρ'.length
  | [] => rfl
  | v :: vs => by unfold backE setSl; rw [List.length_set]; exact backE_len
theorem backE_out {ρ ρ' : Env} {j : Nat} : ∀ {vs : List Nat}, j ∉ vs → (backE ρ ρ' vs)[j]? = ρ'[j]?
  | [], _ => rfl
  | v :: vs, h => by
    unfold backE
    rw [setSl_ne (fun z => h (by rw [z]; exact List.mem_cons_self))]
    exact backE_out fun z => h (List.mem_cons_of_mem _ z)
theorem backE_in {ρ ρ' : Env} {j : Nat} (hl : ρ.length = ρ'.length) : ∀ {vs : List Nat}, j ∈ vs → (backE ρ ρ' vs)[j]? = ρ[j]?
  | [], h => absurd h (by simp)
  | v :: vs, h => by
    unfold backE setSl
    by_cases hv : v = j
    · subst hv
      rw [List.getElem?_set]
      rw [if_pos rfl, backE_len]
      by_cases hj : v < ρ'.length
      · rw [if_pos hj]
        have : v < ρ.length := by omega
        rw [List.getElem?_eq_getElem this]
        rfl
      · rw [if_neg hj]
        have : ¬ v < ρ.length := by omega
        rw [List.getElem?_eq_none (by omega)]
    · rw [List.getElem?_set_ne hv]
      rcases List.mem_cons.mp h with z | z
      · exact absurd z.symm hv
      · exact backE_in hl z
mutual
theorem store_len : ∀ {t : T} {d : D} {ρ ρ' : Env}, storeD t d ρ = some ρ' → ρ'.length = ρ.length
  | .nm i, d, ρ, ρ', h => by cases h; unfold setSl; rw [List.length_set]
  | .tp ts, .tuple xs, ρ, ρ', h => stores_len (ts := ts) (xs := xs) h
  | .tp ts, .list xs, ρ, ρ', h => stores_len (ts := ts) (xs := xs) h
  | .tp ts, .none, ρ, ρ', h => by cases h
  | .tp ts, .bool _, ρ, ρ', h => by cases h
  | .tp ts, .int _, ρ, ρ', h => by cases h
  | .tp ts, .str _, ρ, ρ', h => by cases h
  | .tp ts, .dict _, ρ, ρ', h => by cases h
theorem stores_len : ∀ {ts : Ts} {xs : List D} {ρ ρ' : Env}, storeDs ts xs ρ = some ρ' → ρ'.length = ρ.length
  | .nil, [], ρ, ρ', h => by cases h; rfl
  | .nil, _ :: _, ρ, ρ', h => by cases h
  | .cons t ts, [], ρ, ρ', h => by cases h
  | .cons t ts, x :: xs, ρ, ρ', h => by
    obtain ⟨ρ1, h1, h2⟩ := Option.bind_eq_some_iff.mp (show (storeD t x ρ).bind (fun ρ' => storeDs ts xs ρ') = some ρ' from h)
    rw [stores_len h2, store_len h1]
end
mutual
theorem store_out : ∀ {t : T} {d : D} {ρ ρ' : Env} {i : Nat}, storeD t d ρ = some ρ' → i ∉ ownT t → ρ'[i]? = ρ[i]?
  | .nm j, d, ρ, ρ', i, h, n => by cases h; exact setSl_ne fun z => n (by rw [z]; exact List.mem_cons_self)
  | .tp ts, .tuple xs, ρ, ρ', i, h, n => stores_out (ts := ts) (xs := xs) h n
  | .tp ts, .list xs, ρ, ρ', i, h, n => stores_out (ts := ts) (xs := xs) h n
  | .tp ts, .none, ρ, ρ', i, h, n => by cases h
  | .tp ts, .bool _, ρ, ρ', i, h, n => by cases h
  | .tp ts, .int _, ρ, ρ', i, h, n => by cases h
  | .tp ts, .str _, ρ, ρ', i, h, n => by cases h
  | .tp ts, .dict _, ρ, ρ', i, h, n => by cases h
theorem stores_out : ∀ {ts : Ts} {xs : List D} {ρ ρ' : Env} {i : Nat}, storeDs ts xs ρ = some ρ' → i ∉ ownTs ts → ρ'[i]? = ρ[i]?
  | .nil, [], ρ, ρ', i, h, n => by cases h; rfl
  | .nil, _ :: _, ρ, ρ', i, h, n => by cases h
  | .cons t ts, [], ρ, ρ', i, h, n => by cases h
  | .cons t ts, x :: xs, ρ, ρ', i, h, n => by
    obtain ⟨ρ1, h1, h2⟩ := Option.bind_eq_some_iff.mp (show (storeD t x ρ).bind (fun ρ' => storeDs ts xs ρ') = some ρ' from h)
    rw [stores_out h2 fun z => n (List.mem_append_right _ z), store_out h1 fun z => n (List.mem_append_left _ z)]
end
theorem beq_no {i j : Nat} (h : (Nat.beq i j == false) = true) : i ≠ j := fun e => by
  subst e
  rw [Nat.beq_refl] at h
  cases h
mutual
theorem quietT_own : ∀ {t : T} {i : Nat}, quietT i t = true → i ∉ ownT t
  | .nm j, i, h, m => by
    have e : i = j := by simpa [ownT] using m
    exact beq_no h e
  | .tp ts, i, h, m => quietTs_own (ts := ts) h m
theorem quietTs_own : ∀ {ts : Ts} {i : Nat}, quietTs i ts = true → i ∉ ownTs ts
  | .nil, i, h, m => by cases m
  | .cons t ts, i, h, m => by
    obtain ⟨h1, h2⟩ := Bool.and_eq_true_iff.mp (show (quietT i t && quietTs i ts) = true from h)
    rcases List.mem_append.mp (show i ∈ ownT t ++ ownTs ts from m) with z | z
    · exact quietT_own h1 z
    · exact quietTs_own h2 z
end
theorem quietG_own : ∀ {g : Gs} {i : Nat}, quietG i g = true → i ∉ ownG g
  | .elt _, i, h, m => by cases m
  | .cons t it ifs g, i, h, m => by
    simp only [quietG, Bool.and_eq_true] at h
    rcases List.mem_append.mp (show i ∈ ownT t ++ ownG g from m) with z | z
    · exact quietT_own h.1.1.1 z
    · exact quietG_own h.2 z
section
variable {i : Nat} {xs : List D × Nat}
/-- the slot's list stays -/
def Has (i : Nat) (xs : List D × Nat) (ρ : Env) : Prop := ρ[i]? = some (.ow xs.1) ∧ ρ.length = xs.2
def QE (i : Nat) (f : Env → R (Vl × Env)) : Prop := ∀ xs ρ v ρ', f ρ = .ok (v, ρ') → Has i xs ρ → Has i xs ρ'
theorem Has.set {ρ : Env} {j : Nat} {s : Sl} (h : Has i xs ρ) (n : i ≠ j) : Has i xs (setSl ρ j s) := by
  unfold Has
  rw [setSl_ne (Ne.symm n)]
  exact ⟨h.1, by unfold setSl; rw [List.length_set]; exact h.2⟩
theorem q_op {e : E} {f : Env → R (Vl × Env)} (q : QE i f) {ρ ρ' : Env} {o : Op} (h : opOf e f ρ = .ok (o, ρ')) (hi : Has i xs ρ) : Has i xs ρ' := by
  unfold opOf at h
  split at h
  · obtain ⟨_, _, h⟩ := R.opt_ok h
    cases h
    exact hi
  · obtain ⟨r, h1, h⟩ := R.bind_ok h
    cases h
    exact q xs _ _ _ h1 hi
theorem q_ts {e : E} {f : Env → R (Vl × Env)} (q : QE i f) {ρ ρ' : Env} {o : Bool} (h : tsOf e f ρ = .ok (o, ρ')) (hi : Has i xs ρ) : Has i xs ρ' := by
  unfold tsOf at h
  obtain ⟨r, h1, h⟩ := R.bind_ok h
  obtain ⟨_, _, h⟩ := R.opt_ok h
  obtain ⟨_, _, h⟩ := R.opt_ok h
  cases h
  exact q_op q h1 hi
theorem q_pt {e : E} {f : Env → R (Vl × Env)} (q : QE i f) {ρ ρ' : Env} {o : Option Int} (h : ptOf e f ρ = .ok (o, ρ')) (hi : Has i xs ρ) : Has i xs ρ' := by
  unfold ptOf at h
  split at h
  · cases h; exact hi
  · obtain ⟨r, h1, h⟩ := R.bind_ok h
    split at h
    · cases h; exact q xs _ _ _ h1 hi
    · cases h
theorem callR_env {g : RC} {ρ : Env} {v : Vl × Env} (h : callR g ρ = .ok v) : v.2 = ρ := by cases g <;> cases h; rfl
theorem q_turns {f : D → Env → List D → R (Env × List D)} (q : ∀ x ρ acc ρ' acc', f x ρ acc = .ok (ρ', acc') → Has i xs ρ → Has i xs ρ') : ∀ (ds : List D) {ρ ρ' : Env} {acc acc' : List D}, turns f ds ρ acc = .ok (ρ', acc') → Has i xs ρ → Has i xs ρ'
  | [], ρ, ρ', acc, acc', h, hi => by cases h; exact hi
  | x :: ds, ρ, ρ', acc, acc', h, hi => by
    obtain ⟨r, h1, h2⟩ := R.bind_ok (show (f x ρ acc).bind (fun r => turns f ds r.1 r.2) = .ok (ρ', acc') from h)
    exact q_turns q ds h2 (q x ρ acc r.1 r.2 h1 hi)
end
mutual
theorem q_E (c : Calls) (i : Nat) : ∀ e : E, quiet i e = true → QE i (evE c e)
  | .lit d, _ => fun xs ρ v ρ' h hi => by cases h; exact hi
  | .con _ d, _ => fun xs ρ v ρ' h hi => by cases h; exact hi
  | .var j, q => fun xs ρ v ρ' h hi => by
    unfold evE at h
    split at h
    · cases h; exact hi
    · cases h; exact hi.set (beq_no q)
    · cases h
  | .pk _, _ => fun xs ρ v ρ' h hi => by cases h
  | .mv j, q => fun xs ρ v ρ' h hi => by
    unfold evE at h
    split at h
    · cases h; exact hi
    · cases h; exact hi.set (beq_no q)
    · cases h
  | .neg a, q => fun xs ρ v ρ' h hi => by
    unfold evE at h
    obtain ⟨r, h1, h⟩ := R.bind_ok h
    split at h
    · cases h; exact q_E c i a q xs _ _ _ h1 hi
    · cases h
  | .notE a, q => fun xs ρ v ρ' h hi => by
    unfold evE at h
    obtain ⟨r, h1, h⟩ := R.bind_ok h
    cases h
    exact q_ts (q_E c i a q) h1 hi
  | .bin o a b, q => fun xs ρ v ρ' h hi => by
    unfold evE at h
    obtain ⟨qa, qb⟩ := Bool.and_eq_true_iff.mp q
    obtain ⟨r, h1, h⟩ := R.bind_ok h
    obtain ⟨r2, h2, h⟩ := R.bind_ok h
    obtain ⟨_, _, h⟩ := R.opt_ok h
    obtain ⟨_, _, h⟩ := R.opt_ok h
    obtain ⟨_, _, h⟩ := R.opt_ok h
    cases h
    exact q_op (q_E c i b qb) h2 (q_op (q_E c i a qa) h1 hi)
  | .rep a b, q => fun xs ρ v ρ' h hi => by
    unfold evE at h
    obtain ⟨qa, qb⟩ := Bool.and_eq_true_iff.mp q
    obtain ⟨r, h1, h⟩ := R.bind_ok h
    obtain ⟨r2, h2, h⟩ := R.bind_ok h
    split at h
    · split at h
      · cases h; exact q_E c i b qb xs _ _ _ h2 (q_E c i a qa xs _ _ _ h1 hi)
      · cases h
    · cases h
  | .cmp o a b, q => fun xs ρ v ρ' h hi => by
    unfold evE at h
    obtain ⟨qa, qb⟩ := Bool.and_eq_true_iff.mp q
    obtain ⟨r, h1, h⟩ := R.bind_ok h
    obtain ⟨r2, h2, h⟩ := R.bind_ok h
    obtain ⟨_, _, h⟩ := R.opt_ok h
    obtain ⟨_, _, h⟩ := R.opt_ok h
    obtain ⟨_, _, h⟩ := R.opt_ok h
    cases h
    exact q_op (q_E c i b qb) h2 (q_op (q_E c i a qa) h1 hi)
  | .chain o1 o2 a b d, q => fun xs ρ v ρ' h hi => by
    unfold evE at h
    obtain ⟨q, qd⟩ := Bool.and_eq_true_iff.mp q
    obtain ⟨qa, qb⟩ := Bool.and_eq_true_iff.mp q
    obtain ⟨r, h1, h⟩ := R.bind_ok h
    obtain ⟨r2, h2, h⟩ := R.bind_ok h
    obtain ⟨_, _, h⟩ := R.opt_ok h
    obtain ⟨_, _, h⟩ := R.opt_ok h
    obtain ⟨k, _, h⟩ := R.opt_ok h
    have hm := q_op (q_E c i b qb) h2 (q_op (q_E c i a qa) h1 hi)
    split at h
    · obtain ⟨r3, h3, h⟩ := R.bind_ok h
      obtain ⟨_, _, h⟩ := R.opt_ok h
      obtain ⟨_, _, h⟩ := R.opt_ok h
      obtain ⟨_, _, h⟩ := R.opt_ok h
      cases h
      exact q_op (q_E c i d qd) h3 hm
    · cases h; exact hm
  | .andE a b, q => fun xs ρ v ρ' h hi => by
    unfold evE at h
    obtain ⟨qa, qb⟩ := Bool.and_eq_true_iff.mp q
    obtain ⟨r, h1, h⟩ := R.bind_ok h
    obtain ⟨k, _, h⟩ := R.opt_ok h
    have hm := q_E c i a qa xs _ _ _ h1 hi
    split at h
    · exact q_E c i b qb xs _ _ _ h hm
    · cases h; exact hm
  | .orE a b, q => fun xs ρ v ρ' h hi => by
    unfold evE at h
    obtain ⟨qa, qb⟩ := Bool.and_eq_true_iff.mp q
    obtain ⟨r, h1, h⟩ := R.bind_ok h
    obtain ⟨k, _, h⟩ := R.opt_ok h
    have hm := q_E c i a qa xs _ _ _ h1 hi
    split at h
    · cases h; exact hm
    · exact q_E c i b qb xs _ _ _ h hm
  | .ite t a b, q => fun xs ρ v ρ' h hi => by
    unfold evE at h
    obtain ⟨q, qb⟩ := Bool.and_eq_true_iff.mp q
    obtain ⟨qt, qa⟩ := Bool.and_eq_true_iff.mp q
    obtain ⟨r, h1, h⟩ := R.bind_ok h
    have hm := q_ts (q_E c i t qt) h1 hi
    split at h
    · exact q_E c i a qa xs _ _ _ h hm
    · exact q_E c i b qb xs _ _ _ h hm
  | .idx a b, q => fun xs ρ v ρ' h hi => by
    unfold evE at h
    obtain ⟨qa, qb⟩ := Bool.and_eq_true_iff.mp q
    obtain ⟨r, h1, h⟩ := R.bind_ok h
    obtain ⟨r2, h2, h⟩ := R.bind_ok h
    obtain ⟨_, _, h⟩ := R.opt_ok h
    obtain ⟨_, _, h⟩ := R.opt_ok h
    cases h
    exact q_E c i b qb xs _ _ _ h2 (q_op (q_E c i a qa) h1 hi)
  | .slice a lo hi', q => fun xs ρ v ρ' h hi => by
    unfold evE at h
    obtain ⟨q, qh⟩ := Bool.and_eq_true_iff.mp q
    obtain ⟨qa, ql⟩ := Bool.and_eq_true_iff.mp q
    obtain ⟨r, h1, h⟩ := R.bind_ok h
    obtain ⟨r2, h2, h⟩ := R.bind_ok h
    obtain ⟨r3, h3, h⟩ := R.bind_ok h
    obtain ⟨_, _, h⟩ := R.opt_ok h
    obtain ⟨_, _, h⟩ := R.opt_ok h
    cases h
    exact q_pt (q_E c i hi' qh) h3 (q_pt (q_E c i lo ql) h2 (q_op (q_E c i a qa) h1 hi))
  | .rev a, q => fun xs ρ v ρ' h hi => by
    unfold evE at h
    obtain ⟨r, h1, h⟩ := R.bind_ok h
    obtain ⟨_, _, h⟩ := R.opt_ok h
    obtain ⟨_, _, h⟩ := R.opt_ok h
    cases h
    exact q_op (q_E c i a q) h1 hi
  | .abs_, _ => fun xs ρ v ρ' h hi => by cases h
  | .lst es, q => fun xs ρ v ρ' h hi => by
    unfold evE at h
    obtain ⟨r, h1, h⟩ := R.bind_ok h
    split at h
    · cases h; exact q_Es c i es q xs _ _ _ h1 hi
    · cases h
  | .tup es, q => fun xs ρ v ρ' h hi => by
    unfold evE at h
    obtain ⟨r, h1, h⟩ := R.bind_ok h
    split at h
    · cases h; exact q_Es c i es q xs _ _ _ h1 hi
    · cases h
  | .call f es, q => fun xs ρ v ρ' h hi => by
    unfold evE at h
    obtain ⟨r, h1, h⟩ := R.bind_ok h
    have e := callR_env h
    have e : ρ' = r.2 := e
    rw [e]
    exact q_Es c i es q xs _ _ _ h1 hi
  | .callk f perm es, q => fun xs ρ v ρ' h hi => by
    unfold evE at h
    obtain ⟨r, h1, h⟩ := R.bind_ok h
    obtain ⟨ds, _, h⟩ := R.opt_ok h
    have e := callR_env h
    have e : ρ' = r.2 := e
    rw [e]
    exact q_Es c i es q xs _ _ _ h1 hi
  | .calls fs a es, q => fun xs ρ v ρ' h hi => by
    unfold evE at h
    obtain ⟨qa, qe⟩ := Bool.and_eq_true_iff.mp q
    obtain ⟨r, h1, h⟩ := R.bind_ok h
    obtain ⟨k, _, h⟩ := R.opt_ok h
    obtain ⟨f, _, h⟩ := R.opt_ok h
    obtain ⟨r2, h2, h⟩ := R.bind_ok h
    have e := callR_env h
    have e : ρ' = r2.2 := e
    rw [e]
    exact q_Es c i es qe xs _ _ _ h2 (q_E c i a qa xs _ _ _ h1 hi)
  | .call0 f, _ => fun xs ρ v ρ' h hi => by
    unfold evE at h
    have e : ρ' = ρ := callR_env (R.nox_ok h)
    rw [e]
    exact hi
  | .callio f j es, q => fun xs ρ v ρ' h hi => by
    unfold evE at h
    obtain ⟨qj, qe⟩ := Bool.and_eq_true_iff.mp q
    obtain ⟨_, _, h⟩ := R.opt_ok h
    obtain ⟨r, h1, h⟩ := R.bind_ok h
    obtain ⟨zs, _, h⟩ := R.opt_ok h
    unfold callIo at h
    split at h
    · cases h; exact (q_Es c i es qe xs _ _ _ h1 hi).set (beq_no qj)
    · cases h
  | .callt f a es, q => fun xs ρ v ρ' h hi => by
    unfold evE at h
    obtain ⟨qa, qe⟩ := Bool.and_eq_true_iff.mp q
    obtain ⟨r, h1, h⟩ := R.bind_ok h
    split at h
    · obtain ⟨r2, h2, h⟩ := R.bind_ok h
      unfold callTm at h
      split at h
      · cases h; exact q_Es c i es qe xs _ _ _ h2 (q_E c i a qa xs _ _ _ h1 hi)
      · cases h
    · cases h
  | .bi b es, q => fun xs ρ v ρ' h hi => by
    unfold evE at h
    obtain ⟨r, h1, h⟩ := R.bind_ok h
    obtain ⟨_, _, h⟩ := R.opt_ok h
    obtain ⟨_, _, h⟩ := R.opt_ok h
    cases h
    exact q_Os c i es q xs _ _ _ h1 hi
  | .comp gs, q => fun xs ρ v ρ' h hi => by
    unfold evE at h
    obtain ⟨r, h1, h⟩ := R.bind_ok h
    have h1 := R.nox_ok h1
    split at h
    · cases h
      have hm : i ∉ ownG gs := quietG_own q
      have h2 := q_G c i gs q xs _ _ _ _ h1 ⟨by rw [wipeE_out hm]; exact hi.1, by rw [wipeE_len]; exact hi.2⟩
      exact ⟨by rw [backE_out hm]; exact h2.1, by rw [backE_len]; exact h2.2⟩
    · cases h
  | .app j a, q => fun xs ρ v ρ' h hi => by
    unfold evE at h
    obtain ⟨qj, qa⟩ := Bool.and_eq_true_iff.mp q
    obtain ⟨_, _, h⟩ := R.opt_ok h
    obtain ⟨r, h1, h⟩ := R.bind_ok h
    obtain ⟨_, _, h⟩ := R.opt_ok h
    split at h
    · cases h; exact (q_E c i a qa xs _ _ _ h1 hi).set (beq_no qj)
    · cases h
  | .ext j a, q => fun xs ρ v ρ' h hi => by
    unfold evE at h
    obtain ⟨qj, qa⟩ := Bool.and_eq_true_iff.mp q
    obtain ⟨_, _, h⟩ := R.opt_ok h
    obtain ⟨r, h1, h⟩ := R.bind_ok h
    obtain ⟨_, _, h⟩ := R.opt_ok h
    obtain ⟨_, _, h⟩ := R.opt_ok h
    split at h
    · cases h; exact (q_op (q_E c i a qa) h1 hi).set (beq_no qj)
    · cases h
  | .pop0 j, q => fun xs ρ v ρ' h hi => by
    unfold evE at h
    obtain ⟨_, _, h⟩ := R.opt_ok h
    obtain ⟨_, _, h⟩ := R.opt_ok h
    cases h
    exact hi.set (beq_no q)
  | .pop1 j a, q => fun xs ρ v ρ' h hi => by
    unfold evE at h
    obtain ⟨qj, qa⟩ := Bool.and_eq_true_iff.mp q
    obtain ⟨_, _, h⟩ := R.opt_ok h
    obtain ⟨r, h1, h⟩ := R.bind_ok h
    obtain ⟨_, _, h⟩ := R.opt_ok h
    obtain ⟨_, _, h⟩ := R.opt_ok h
    obtain ⟨_, _, h⟩ := R.opt_ok h
    obtain ⟨_, _, h⟩ := R.opt_ok h
    cases h
    exact (q_E c i a qa xs _ _ _ h1 hi).set (beq_no qj)
  | .isin a ts, q => fun xs ρ v ρ' h hi => by
    unfold evE at h
    obtain ⟨r, h1, h⟩ := R.bind_ok h
    obtain ⟨_, _, h⟩ := R.opt_ok h
    obtain ⟨_, _, h⟩ := R.opt_ok h
    cases h
    exact q_op (q_E c i a q) h1 hi
  | .mkx x f kw a, q => fun xs ρ v ρ' h hi => by
    unfold evE at h
    obtain ⟨r, h1, h⟩ := R.bind_ok h
    cases h
    exact q_E c i a q xs _ _ _ h1 hi
  | .mk0 x, q => fun xs ρ v ρ' h hi => by cases h; exact hi
  | .attr a f tab, q => fun xs ρ v ρ' h hi => by
    unfold evE at h
    obtain ⟨r, h1, h⟩ := R.bind_ok h
    obtain ⟨_, _, h⟩ := R.opt_ok h
    obtain ⟨_, _, h⟩ := R.opt_ok h
    cases h
    exact q_op (q_E c i a q) h1 hi
  | .isx a cs tab, q => fun xs ρ v ρ' h hi => by
    unfold evE at h
    obtain ⟨r, h1, h⟩ := R.bind_ok h
    obtain ⟨_, _, h⟩ := R.opt_ok h
    obtain ⟨_, _, h⟩ := R.opt_ok h
    cases h
    exact q_op (q_E c i a q) h1 hi
theorem q_Es (c : Calls) (i : Nat) : ∀ es : Es, quiets i es = true → ∀ xs ρ v ρ', evEs c es ρ = .ok (v, ρ') → Has i xs ρ → Has i xs ρ'
  | .nil, _ => fun xs ρ v ρ' h hi => by cases h; exact hi
  | .cons s e es, q => fun xs ρ v ρ' h hi => by
    unfold evEs at h
    obtain ⟨qa, qe⟩ := Bool.and_eq_true_iff.mp q
    obtain ⟨r, h1, h⟩ := R.bind_ok h
    have hm := q_E c i e qa xs _ _ _ h1 hi
    split at h
    · obtain ⟨_, _, h⟩ := R.opt_ok h
      obtain ⟨r2, h2, h⟩ := R.bind_ok h
      cases h
      exact q_Es c i es qe xs _ _ _ h2 hm
    · obtain ⟨r2, h2, h⟩ := R.bind_ok h
      cases h
      exact q_Es c i es qe xs _ _ _ h2 hm
theorem q_Os (c : Calls) (i : Nat) : ∀ es : Es, quiets i es = true → ∀ xs ρ v ρ', evOs c es ρ = .ok (v, ρ') → Has i xs ρ → Has i xs ρ'
  | .nil, _ => fun xs ρ v ρ' h hi => by cases h; exact hi
  | .cons s e es, q => fun xs ρ v ρ' h hi => by
    unfold evOs at h
    obtain ⟨qa, qe⟩ := Bool.and_eq_true_iff.mp q
    split at h
    · cases h
    · obtain ⟨r, h1, h⟩ := R.bind_ok h
      obtain ⟨r2, h2, h⟩ := R.bind_ok h
      cases h
      exact q_Os c i es qe xs _ _ _ h2 (q_op (q_E c i e qa) h1 hi)
theorem q_I (c : Calls) (i : Nat) : ∀ it : It, quietI i it = true → ∀ xs ρ v ρ', evI c it ρ = .ok (v, ρ') → Has i xs ρ → Has i xs ρ'
  | .of a, q => fun xs ρ v ρ' h hi => by
    unfold evI at h
    obtain ⟨r, h1, h⟩ := R.bind_ok h
    obtain ⟨_, _, h⟩ := R.opt_ok h
    obtain ⟨_, _, h⟩ := R.opt_ok h
    cases h
    exact q_op (q_E c i a q) h1 hi
  | .zip a b, q => fun xs ρ v ρ' h hi => by
    unfold evI at h
    obtain ⟨qa, qb⟩ := Bool.and_eq_true_iff.mp q
    obtain ⟨r, h1, h⟩ := R.bind_ok h
    obtain ⟨r2, h2, h⟩ := R.bind_ok h
    obtain ⟨_, _, h⟩ := R.opt_ok h
    obtain ⟨_, _, h⟩ := R.opt_ok h
    obtain ⟨_, _, h⟩ := R.opt_ok h
    cases h
    exact q_op (q_E c i b qb) h2 (q_op (q_E c i a qa) h1 hi)
  | .enum a, q => fun xs ρ v ρ' h hi => by
    unfold evI at h
    obtain ⟨r, h1, h⟩ := R.bind_ok h
    obtain ⟨_, _, h⟩ := R.opt_ok h
    obtain ⟨_, _, h⟩ := R.opt_ok h
    cases h
    exact q_op (q_E c i a q) h1 hi
  | .rng a, q => fun xs ρ v ρ' h hi => by
    unfold evI at h
    obtain ⟨r, h1, h⟩ := R.bind_ok h
    split at h
    · split at h
      · cases h; exact q_E c i a q xs _ _ _ h1 hi
      · cases h
    · cases h
  | .rng2 a b, q => fun xs ρ v ρ' h hi => by
    unfold evI at h
    obtain ⟨qa, qb⟩ := Bool.and_eq_true_iff.mp q
    obtain ⟨r, h1, h⟩ := R.bind_ok h
    obtain ⟨r2, h2, h⟩ := R.bind_ok h
    split at h
    · split at h
      · cases h; exact q_E c i b qb xs _ _ _ h2 (q_E c i a qa xs _ _ _ h1 hi)
      · cases h
    · cases h
theorem q_G (c : Calls) (i : Nat) : ∀ g : Gs, quietG i g = true → ∀ xs ρ acc ρ' acc', evG c g ρ acc = .ok (ρ', acc') → Has i xs ρ → Has i xs ρ'
  | .elt e, q => fun xs ρ acc ρ' acc' h hi => by
    unfold evG at h
    obtain ⟨r, h1, h⟩ := R.bind_ok h
    cases h
    exact q_E c i e q xs _ _ _ h1 hi
  | .cons t it ifs g, q => fun xs ρ acc ρ' acc' h hi => by
    unfold evG at h
    obtain ⟨q, qg⟩ := Bool.and_eq_true_iff.mp q
    obtain ⟨q, qf⟩ := Bool.and_eq_true_iff.mp q
    obtain ⟨qt, qi⟩ := Bool.and_eq_true_iff.mp q
    obtain ⟨r, h1, h⟩ := R.bind_ok h
    split at h
    · refine q_turns (fun x ρ acc ρ' acc' h hi => ?_) r.1 h (q_I c i it qi xs _ _ _ h1 hi)
      obtain ⟨ρ1, h1, h⟩ := R.opt_ok h
      obtain ⟨r2, h2, h⟩ := R.bind_ok h
      have n : i ∉ ownT t ++ ownG g := fun z => (List.mem_append.mp z).elim (quietT_own qt) (quietG_own qg)
      have hw : Has i xs ρ1 := ⟨by rw [store_out h1 (quietT_own qt), wipeE_out n]; exact hi.1, by rw [store_len h1, wipeE_len]; exact hi.2⟩
      have hm := q_C c i ifs qf xs _ _ _ h2 hw
      split at h
      · exact q_G c i g qg xs _ _ _ _ h hm
      · cases h; exact hm
    · cases h
theorem q_C (c : Calls) (i : Nat) : ∀ es : Es, quiets i es = true → ∀ xs ρ v ρ', evC c es ρ = .ok (v, ρ') → Has i xs ρ → Has i xs ρ'
  | .nil, _ => fun xs ρ v ρ' h hi => by cases h; exact hi
  | .cons s e es, q => fun xs ρ v ρ' h hi => by
    unfold evC at h
    obtain ⟨qa, qe⟩ := Bool.and_eq_true_iff.mp q
    obtain ⟨r, h1, h⟩ := R.bind_ok h
    have hm := q_ts (q_E c i e qa) h1 hi
    split at h
    · exact q_C c i es qe xs _ _ _ h hm
    · cases h; exact hm
end
end Dl
end
section
set_option linter.all false
set_option maxRecDepth 100000
set_option maxHeartbeats 4000000
/-! DlIter: what a for, a comprehension walks. -/
namespace Dl
open PySem PySem.Spec PyProof.Rows L2
/-- what is asked of a source goes on while its slots stay -/
structure Stays (ops : List Nat) (G : Hp → Env → L2.St → Prop) : Prop where
  later : ∀ {F F' : Hp} {ρ ρ' : Env} {σ σ' : L2.St}, Same F F' → (∀ i ∈ ops, ∀ xs, ρ[i]? = some (.ow xs) → ρ'[i]? = some (.ow xs)) → (∀ i ∈ ops, ∀ v, σ[i]? = some (some v) → σ'[i]? = some (some v)) → G F ρ σ → G F' ρ' σ'
structure WalkD (K : PySem.W.Frag) (J : L2.It) (G : Hp → Env → L2.St → Prop) (ds : List D) : Prop where
  goes : ∀ {P : Option V} {F H : Hp} {ρ : Env} {σ : L2.St} {i : Nat} {d : D}, Ok K P F ρ σ H → G F ρ σ → ds[i]? = some d → J.go i H
  stops : ∀ {P : Option V} {F H : Hp} {ρ : Env} {σ : L2.St}, Ok K P F ρ σ H → G F ρ σ → J.stop ds.length H
  yields : ∀ {P : Option V} {F H : Hp} {ρ : Env} {σ : L2.St} {i : Nat} {d : D} {x : V} {H' : Hp}, Ok K P F ρ σ H → G F ρ σ → ds[i]? = some d → J.yld i H x H' → ∃ F', Ok K P F' ρ σ H' ∧ Step F ρ σ H F' ρ σ H' ∧ Dq K F' x d
def RI (K : PySem.W.Frag) (σ : L2.St) (ops : List Nat) (_ : Env) (_ F _ : Hp) (ρ : Env) (J : L2.It) (ds : List D) : Prop := ds.length ≤ 16777216 ∧ ∃ G, Stays ops G ∧ G F ρ σ ∧ WalkD K J G ds
theorem back_RI {K : PySem.W.Frag} {σ : L2.St} {ops : List Nat} : Back σ (RI K σ ops) := ⟨fun _ h => h⟩
/-- a list that is known to all, or a slot's -/
inductive SrcL (K : PySem.W.Frag) (ops : List Nat) (a : Addr) (ds : List D) (F : Hp) (ρ : Env) (σ : L2.St) : Prop where
  | fz {vs : List V} : SqL K F a vs → DqAll K F vs ds → SrcL K ops a ds F ρ σ
  | sl {i : Nat} : i ∈ ops → ρ[i]? = some (.ow ds) → σ[i]? = some (some (.ref a)) → SrcL K ops a ds F ρ σ
def SrcT (K : PySem.W.Frag) (a : Addr) (ds : List D) (F : Hp) (_ : Env) (_ : L2.St) : Prop := ∃ vs, SqT K F a vs ∧ DqAll K F vs ds
theorem srcL_stays {K : PySem.W.Frag} {ops : List Nat} {a : Addr} {ds : List D} : Stays ops (SrcL K ops a ds) := ⟨fun e h1 h2 s => by
  cases s with
  | fz h t => exact .fz (Same.seq e h) (DqAll.ext e t)
  | sl hi h t => exact .sl hi (h1 _ hi _ h) (h2 _ hi _ t)⟩
theorem srcT_stays {K : PySem.W.Frag} {ops : List Nat} {a : Addr} {ds : List D} : Stays ops (SrcT K a ds) := ⟨fun e _ _ ⟨vs, h, t⟩ => ⟨vs, Ext.sqT e h, DqAll.ext e t⟩⟩
theorem Stays.and {ops : List Nat} {G G' : Hp → Env → L2.St → Prop} (h : Stays ops G) (h' : Stays ops G') : Stays ops fun F ρ σ => G F ρ σ ∧ G' F ρ σ := ⟨fun e h1 h2 s => ⟨h.later e h1 h2 s.1, h'.later e h1 h2 s.2⟩⟩
section
variable {K : PySem.W.Frag} {P : Option V} {F H : Hp} {ρ : Env} {σ : L2.St} {ops : List Nat} {a b : Addr} {ds es : List D}
theorem SrcL.now (o : Ok K P F ρ σ H) (s : SrcL K ops a ds F ρ σ) : ∃ vs, SqL K H a vs ∧ DqAll K F vs ds := by
  cases s with
  | fz h t => exact ⟨_, Same.seq o.sub h, t⟩
  | sl _ h t =>
    obtain ⟨c, vs, h1, _, h3, h4⟩ := o.ow _ _ h
    rw [t] at h1
    cases h1
    exact ⟨vs, .inl (.inl h3), h4⟩
theorem SrcT.now (o : Ok K P F ρ σ H) (s : SrcT K a ds F ρ σ) : ∃ vs, SqT K H a vs ∧ DqAll K F vs ds := by
  obtain ⟨vs, h, t⟩ := s
  exact ⟨vs, Ext.sqT o.sub h, t⟩
theorem _root_.L2.DqAll.at {vs : List V} {i : Nat} {d : D} {x : V} (h : DqAll K F vs ds) (e : ds[i]? = some d) (e2 : vs[i]? = some x) : Dq K F x d := by
  obtain ⟨v, h1, h2⟩ := h.get e
  rw [h1] at e2
  cases e2
  exact h2
theorem walkL : WalkD K (Itl K a) (SrcL K ops a ds) ds where
  goes o g e := by
    obtain ⟨vs, h, t⟩ := g.now o
    obtain ⟨v, h1, _⟩ := t.get e
    exact ⟨vs, v, h, h1⟩
  stops o g := by
    obtain ⟨vs, h, t⟩ := g.now o
    exact ⟨vs, h, by rw [t.length]; exact Nat.le_refl _⟩
  yields o g e y := by
    obtain ⟨vs, h, t⟩ := g.now o
    obtain ⟨rfl, y⟩ := y
    exact ⟨_, o, Step.refl, t.at e (y vs h)⟩
theorem walkT : WalkD K (Itt K a) (SrcT K a ds) ds where
  goes o g e := by
    obtain ⟨vs, h, t⟩ := g.now o
    obtain ⟨v, h1, _⟩ := t.get e
    exact ⟨vs, v, h, h1⟩
  stops o g := by
    obtain ⟨vs, h, t⟩ := g.now o
    exact ⟨vs, h, by rw [t.length]; exact Nat.le_refl _⟩
  yields o g e y := by
    obtain ⟨vs, h, t⟩ := g.now o
    obtain ⟨rfl, y⟩ := y
    exact ⟨_, o, Step.refl, t.at e (y vs h)⟩
def strL (x : Str) : List D := (codes x).map fun c => .str ⟨#[c]⟩
theorem strL_at {x : Str} {i : Nat} {d : D} (e : (strL x)[i]? = some d) : ∃ c, x.cps[i]? = some c ∧ d = .str ⟨#[c]⟩ := by
  unfold strL codes at e
  rw [List.getElem?_map] at e
  obtain ⟨c, h1, h2⟩ := Option.map_eq_some_iff.mp e
  exact ⟨c, by simpa using h1, h2.symm⟩
theorem strL_len {x : Str} : (strL x).length = x.cps.size := by
  unfold strL codes
  simp
theorem walkS {x : Str} : WalkD K (Its x) (fun _ _ _ => True) (strL x) where
  goes o g e := by
    obtain ⟨c, h, _⟩ := strL_at e
    exact (Array.getElem?_eq_some_iff.mp h).1
  stops o g := by show x.cps.size ≤ _; rw [strL_len]; exact Nat.le_refl _
  yields o g e y := by
    obtain ⟨c, h, rfl⟩ := strL_at e
    obtain ⟨rfl, c', h', rfl⟩ := y
    rw [h] at h'
    cases h'
    exact ⟨_, o, Step.refl, .str _⟩
theorem rangeL_at {lo : Int} {n i : Nat} {d : D} (e : (rangeL lo n)[i]? = some d) : i < n ∧ d = .int (lo + (i : Nat)) := by
  unfold rangeL at e
  rw [List.getElem?_map] at e
  obtain ⟨c, h1, h2⟩ := Option.map_eq_some_iff.mp e
  rw [List.getElem?_range] at h1
  · cases h1
    refine ⟨?_, h2.symm⟩
    by_cases h : i < n
    · exact h
    · rw [List.getElem?_eq_none (by simp; omega)] at e
      cases e
  · by_cases h : i < n
    · exact h
    · rw [List.getElem?_eq_none (by simp; omega)] at h1
      cases h1
theorem walkR {lo : Int} {n : Nat} : WalkD K (Itr lo n) (fun _ _ _ => True) (rangeL lo n) where
  goes o g e := (rangeL_at e).1
  stops o g := by show n ≤ _; unfold rangeL; simp
  yields o g e y := by
    obtain ⟨_, rfl⟩ := rangeL_at e
    obtain ⟨rfl, rfl⟩ := y
    exact ⟨_, o, Step.refl, .int _⟩
theorem pair_new {p : Addr} {x y : V} {d e : D} (o : Ok K P F ρ σ H) (hp : H p = none) (hx : Dq K F x d) (hy : Dq K F y e) : ∃ F', Ok K P F' ρ σ (upd H p (.tup [x, y])) ∧ Step F ρ σ H F' ρ σ (upd H p (.tup [x, y])) ∧ Dq K F' (.ref p) (.tuple [d, e]) := by
  obtain ⟨o1, s1, e1, _⟩ := o.laid (u := .tup [x, y]) hp
  exact ⟨_, o1, s1, .tup (.inl (.inl upd_same)) (.cons (Dq.ext e1 hx) (.cons (Dq.ext e1 hy) .nil))⟩
theorem enumD_at : ∀ {ds : List D} {k i : Nat} {d : D}, (enumD k ds)[i]? = some d → ∃ x, ds[i]? = some x ∧ d = .tuple [.int ((k + i : Nat) : Int), x]
  | [], k, i, d, e => by simp [enumD] at e
  | x :: r, k, 0, d, e => by
    simp [enumD] at e
    exact ⟨x, by simp, e.symm⟩
  | x :: r, k, i + 1, d, e => by
    obtain ⟨z, h1, h2⟩ := enumD_at (ds := r) (k := k + 1) (i := i) (d := d) (by simpa [enumD] using e)
    refine ⟨z, by simpa using h1, ?_⟩
    rw [h2, show k + 1 + i = k + (i + 1) by omega]
theorem enumD_len : ∀ {ds : List D} {k : Nat}, (enumD k ds).length = ds.length
  | [], _ => rfl
  | x :: r, k => by unfold enumD; rw [List.length_cons, List.length_cons, enumD_len]
theorem walkE : WalkD K (Ite K a) (SrcL K ops a ds) (enumD 0 ds) where
  goes o g e := by
    obtain ⟨z, h1, _⟩ := enumD_at e
    obtain ⟨vs, h, t⟩ := g.now o
    obtain ⟨v, h1, _⟩ := t.get h1
    exact ⟨vs, v, h, h1⟩
  stops o g := by
    obtain ⟨vs, h, t⟩ := g.now o
    exact ⟨vs, h, by rw [t.length, enumD_len]; exact Nat.le_refl _⟩
  yields o g e y := by
    obtain ⟨z, h1, rfl⟩ := enumD_at e
    obtain ⟨vs, h, t⟩ := g.now o
    obtain ⟨T, x, rfl, hT, rfl, y⟩ := y
    rw [Nat.zero_add]
    exact pair_new o hT (.int _) (t.at h1 (y vs h))
def zipL (xs ys : List D) : List D := (xs.zip ys).map fun p => .tuple [p.1, p.2]
theorem zipL_at {i : Nat} {d : D} (e : (zipL ds es)[i]? = some d) : ∃ x y, ds[i]? = some x ∧ es[i]? = some y ∧ d = .tuple [x, y] := by
  unfold zipL at e
  rw [List.getElem?_map] at e
  obtain ⟨p, h1, h2⟩ := Option.map_eq_some_iff.mp e
  obtain ⟨h3, h4⟩ := List.getElem?_zip_eq_some.mp h1
  exact ⟨p.1, p.2, h3, h4, h2.symm⟩
theorem zipL_len : (zipL ds es).length = min ds.length es.length := by unfold zipL; simp
theorem walkZ : WalkD K (Itz K a b) (fun F ρ σ => SrcL K ops a ds F ρ σ ∧ SrcL K ops b es F ρ σ) (zipL ds es) where
  goes o g e := by
    obtain ⟨x, y, hx, hy, _⟩ := zipL_at e
    obtain ⟨vs, h, t⟩ := g.1.now o
    obtain ⟨ws, h', t'⟩ := g.2.now o
    obtain ⟨v, h1, _⟩ := t.get hx
    obtain ⟨w, h2, _⟩ := t'.get hy
    exact ⟨vs, ws, v, w, h, h', h1, h2⟩
  stops o g := by
    obtain ⟨vs, h, t⟩ := g.1.now o
    obtain ⟨ws, h', t'⟩ := g.2.now o
    refine ⟨vs, ws, h, h', ?_⟩
    rw [t.length, t'.length, zipL_len]
    omega
  yields o g e y := by
    obtain ⟨x, z, hx, hz, rfl⟩ := zipL_at e
    obtain ⟨vs, h, t⟩ := g.1.now o
    obtain ⟨ws, h', t'⟩ := g.2.now o
    obtain ⟨T, u, w, rfl, hT, rfl, y1, y2⟩ := y
    exact pair_new o hT (t.at hx (y1 vs h)) (t'.at hz (y2 ws h'))
theorem walkZT : WalkD K (RZ.ItzT K a b) (fun F ρ σ => SrcT K a ds F ρ σ ∧ SrcT K b es F ρ σ) (zipL ds es) where
  goes o g e := by
    obtain ⟨x, y, hx, hy, _⟩ := zipL_at e
    obtain ⟨vs, h, t⟩ := g.1.now o
    obtain ⟨ws, h', t'⟩ := g.2.now o
    obtain ⟨v, h1, _⟩ := t.get hx
    obtain ⟨w, h2, _⟩ := t'.get hy
    exact ⟨vs, ws, v, w, h, h', h1, h2⟩
  stops o g := by
    obtain ⟨vs, h, t⟩ := g.1.now o
    obtain ⟨ws, h', t'⟩ := g.2.now o
    refine ⟨vs, ws, h, h', ?_⟩
    rw [t.length, t'.length, zipL_len]
    omega
  yields o g e y := by
    obtain ⟨x, z, hx, hz, rfl⟩ := zipL_at e
    obtain ⟨vs, h, t⟩ := g.1.now o
    obtain ⟨ws, h', t'⟩ := g.2.now o
    obtain ⟨T, u, w, rfl, hT, rfl, y1, y2⟩ := y
    exact pair_new o hT (t.at hx (y1 vs h)) (t'.at hz (y2 ws h'))
end
/-! ### bounds of what stands -/
def Bnd (K : PySem.W.Frag) (H : Hp) : Prop := ∀ a xs, SqL K H a xs ∨ SqT K H a xs → xs.length ≤ 16777216
theorem _root_.L2.Inv.bnd {X : Cx} {pins : List (Addr × Obj)} {σ : L2.St} {H : Hp} {s : Shared} (I : Inv X pins σ H s) : Bnd X.K H := fun a xs h => by
  rw [← sizeLine_eq]
  rcases h with h | h
  · obtain ⟨_, _, _, hz⟩ := I.list h
    exact hz
  · obtain ⟨_, _, _, hz⟩ := I.tuple h
    exact hz
theorem pe_bnd {X : Cx} {e : Expr} {t : TE} (h : PE X e t) : PE X e (fun σ H Q => t σ H fun v H1 => Bnd X.K H1 → Q v H1) :=
  ⟨fun pins s σ H Q I q => thn (h.run pins s σ H _ I q) fun v s1 ⟨x, H1, I1, r1, q1⟩ => ⟨x, H1, I1, r1, q1 I1.bnd⟩⟩
theorem pa_bnd {X : Cx} {e : List Expr} {t : TA} (h : PA X e t) : PA X e (fun σ H Q => t σ H fun v H1 => Bnd X.K H1 → Q v H1) :=
  ⟨fun pos pins s σ H Q I q => thn (h.run pos pins s σ H _ I q) fun v s1 ⟨x, H1, I1, r1, q1⟩ => ⟨x, H1, I1, r1, q1 I1.bnd⟩⟩
section
variable {X : Cx} {P : Option V} {XR : XRel} {W : WX} {tg e a b : Expr} {es : List Expr} {o oa ob : Env → R (Op × Env)} {fa fb : Env → R (Vl × Env)} {p pos : Pos} {ops : List Nat}
def tI (K : PySem.W.Frag) (P : Option V) (XR : XRel) (W : WX) (ops : List Nat) (f : Env → R (List D × Env)) : TI := fun σ H Q => ∃ F ρ, Ok K P F ρ σ H ∧ Fin K P XR W F ρ H σ (RI K σ ops) (f ρ) Q
abbrev PId (X : Cx) (P : Option V) (XR : XRel) (W : WX) (tg e : Expr) (ops : List Nat) (f : Env → R (List D × Env)) : Prop := PI X tg e (tI X.K P XR W ops f)
theorem PI.imp {t t' : TI} (h : PI X tg e t) (i : ∀ σ H Q, t' σ H Q → t σ H Q) : PI X tg e t' := ⟨fun pins s σ H Q I q => h.run pins s σ H Q I (i σ H Q q)⟩
def iSeq (K : PySem.W.Frag) (tl : TE) : TI := fun σ H R => tl σ H fun x H1 => (∃ a, x = .ref a ∧ (∃ xs, SqL K H1 a xs) ∧ R (Itl K a) H1) ∨ (∃ a, x = .ref a ∧ (∃ xs, SqT K H1 a xs) ∧ R (Itt K a) H1) ∨ ∃ z, x = .str z ∧ R (Its z) H1
theorem pi_seq {tl : TE} (hl : PE X e tl) : PI X tg e (iSeq X.K tl) := by
  refine ⟨fun pins s σ H R I h => ?_⟩
  refine thn (hl.run pins s σ H _ I h) fun v s1 ⟨x, H1, I1, r1, q1⟩ => ?_
  rcases q1 with ⟨a, e, ⟨xs, hq⟩, q⟩ | ⟨a, e, ⟨xs, hq⟩, q⟩ | ⟨z, e, q⟩
  · subst e
    cases r1
    obtain ⟨its, rv, p, hz⟩ := I1.list hq
    refine wpAny_pyIter_list p.isList ?_
    exact pi_one (tk := s1.toks) I1 _ (turn_list a _) ⟨_, Heap.get?_push_size _ rfl, rfl, rfl⟩ q
  · subst e
    cases r1
    obtain ⟨its, rv, p, hz⟩ := I1.tuple hq
    refine wpAny_pyIter_tuple (show s1.heap.IsTuple a its.toArray from p) ?_
    exact pi_one (tk := s1.toks) I1 _ (turn_tuple a _) ⟨_, Heap.get?_push_size _ rfl, rfl, rfl⟩ q
  · subst e
    obtain ⟨t, rfl⟩ := r1
    cases ha : z.cps.all (· < 128)
    · exact wpAny_pyIter_wide ha (pi_one (tk := s1.toks) I1 _ (turn_str _ z t "str_iterator" (.inr rfl)) ⟨_, Heap.get?_push_size _ rfl, rfl, rfl⟩ q)
    · exact wpAny_pyIter_ascii ha (pi_one (tk := s1.toks) I1 _ (turn_str _ z t "str_ascii_iterator" (.inl rfl)) ⟨_, Heap.get?_push_size _ rfl, rfl, rfl⟩ q)
/-- an operand as a source: a slot in ops, or what is known to all -/
def OpIn (ops : List Nat) : Op → Prop
  | .vl _ => True
  | .sl i => i ∈ ops
/-- the operand's slots -/
def OpsIn (ops : List Nat) (o : Env → R (Op × Env)) : Prop := ∀ ρ x ρ', o ρ = .ok (x, ρ') → ∀ i, x = .sl i → i ∈ ops
theorem src_of {K : PySem.W.Frag} {F F0 H H0 : Hp} {ρ ρ0 : Env} {σ : L2.St} {v : V} {x : Op} {d : D} (ok : Ok K P F ρ σ H) (s : Step F0 ρ0 σ H0 F ρ σ H) (r : RO K σ ρ0 H0 F H ρ v x) (e : deref ρ x = some d) (hx : ∀ i, x = .sl i → i ∈ ops) :
    ∃ F', Ok K P F' ρ σ H ∧ Step F0 ρ0 σ H0 F' ρ σ H ∧ Same F F' ∧ ((∃ a ds, v = .ref a ∧ d = .list ds ∧ SrcL K ops a ds F' ρ σ) ∨ Dq K F' v d) := by
  cases x with
  | vl x =>
    have e1 : x.d = d := Option.some.inj e
    subst e1
    obtain ⟨F', o', s', dp, e'⟩ := rv_known ok r s
    exact ⟨F', o', s', e', .inr dp⟩
  | sl i =>
    have h1 : σ[i]? = some (some v) := r
    have e : (ρ[i]?).bind slD = some d := e
    cases q : ρ[i]? with
    | none => rw [q] at e; cases e
    | some sl =>
      rw [q] at e
      cases sl with
      | un => cases e
      | fr d' =>
        have e1 : d' = d := Option.some.inj e
        subst e1
        obtain ⟨u, h2, h3⟩ := ok.fr i d' q
        rw [h1] at h2
        cases h2
        exact ⟨F, ok, s, Same.refl _, .inr h3⟩
      | ow xs =>
        have e1 : PyData.list xs = d := Option.some.inj e
        subst e1
        obtain ⟨a, vs, h2, _⟩ := ok.ow i xs q
        rw [h1] at h2
        cases h2
        exact ⟨F, ok, s, Same.refl _, .inl ⟨a, xs, rfl, rfl, .sl (hx i rfl) q h1⟩⟩
theorem pid_of (ho : OpsIn ops o) (h : PO' X P XR W e o) : PId X P XR W tg e ops (fun ρ => (o ρ).bind fun r => R.opt (deref r.2 r.1) fun d => R.opt (walkD d) fun xs => .ok (xs, r.2)) := PI.imp (pi_seq (pe_bnd h)) fun σ H Q ⟨F, ρ, ok, q⟩ => by
  refine ⟨F, ρ, ok, ?_⟩
  refine Fin.mono (Fin.bind0 (RR := RO X.K σ) q) fun v H1 z bd => ?_
  obtain ⟨F1, ρ1, a1, eq, o1, s1, r1, q1⟩ := z
  obtain ⟨d, e1, q1⟩ := Fin.opt q1
  obtain ⟨ds, e2, q1⟩ := Fin.opt q1
  obtain ⟨F2, o2, s2, _, hs⟩ := src_of o1 s1 r1 e1 (ho ρ a1 ρ1 eq)
  rcases hs with ⟨a, xs, rfl, rfl, s⟩ | dp
  · cases e2
    obtain ⟨vs, hv, ht⟩ := s.now o2
    exact .inl ⟨a, rfl, ⟨vs, hv⟩, q1 _ F2 H1 o2 s2 ⟨by rw [← ht.length]; exact bd a vs (.inl hv), _, srcL_stays, s, walkL⟩⟩
  · cases dp with
    | lst h t =>
      cases e2
      exact .inl ⟨_, rfl, ⟨_, Same.seq o2.sub h⟩, q1 _ F2 H1 o2 s2 ⟨by rw [← t.length]; exact bd _ _ (.inl (Same.seq o2.sub h)), _, srcL_stays (ops := ops), .fz h t, walkL⟩⟩
    | tup h t =>
      cases e2
      exact .inr (.inl ⟨_, rfl, ⟨_, Ext.sqT o2.sub h⟩, q1 _ F2 H1 o2 s2 ⟨by rw [← t.length]; exact bd _ _ (.inr (Ext.sqT o2.sub h)), _, srcT_stays, ⟨_, h, t⟩, walkT⟩⟩)
    | str x =>
      obtain ⟨h1, h2⟩ := opt_if (show (if fits x.length = true then some (strL x) else none) = some ds from e2)
      subst h2
      refine .inr (.inr ⟨x, rfl, q1 _ F2 H1 o2 s2 ⟨?_, _, ⟨fun _ _ _ _ => trivial⟩, trivial, walkS⟩⟩)
      rw [strL_len]
      have h3 := fits_le h1
      rw [sizeLine_eq] at h3
      exact h3
    | _ => cases e2
theorem pid_rng (hg : Gl X "range") (hm : X.mg "range" = none) (ha : PD X P XR W a fa) (hs : starEach [a] X.env = (false, eval a X.env) :: starEach [] X.env) (hs' : starEach [a] X.env = [(false, eval a X.env)]) :
    PId X P XR W tg (.Call (.Name "range" p) [a] [] pos) ops (fun ρ => (fa ρ).bind fun r => (match r.1 with
    | .fr (.int j) => if inRng j && fits j.toNat then .ok (rangeL 0 j.toNat, r.2) else .stuck
    | _ => .stuck)) := PI.imp (pi_range1 hg hm (pa_cons ha pa_nil hs) hs') fun σ H Q ⟨F, ρ, ok, q⟩ => by
  refine ⟨F, ρ, ok, ?_⟩
  refine Fin.mono (Fin.bind0 (RR := RV X.K σ) q) fun v H1 z => ?_
  obtain ⟨F1, ρ1, a1, eq, o1, s1, r1, q1⟩ := z
  cases a1 with
  | ow xs => exact q1.elim
  | fr d => cases d with
    | int j =>
      have q1 : Fin X.K P XR W F ρ H σ (RI X.K σ ops) (if (inRng j && fits j.toNat) = true then R.ok (rangeL 0 j.toNat, ρ1) else R.stuck) Q := q1
      cases hf : inRng j && fits j.toNat with
      | false => rw [hf] at q1; exact q1.elim
      | true =>
        rw [hf, if_pos rfl] at q1
        obtain ⟨g1, g2⟩ := and2 hf
        unfold inRng at g1
        simp only [Bool.and_eq_true, decide_eq_true_eq] at g1
        cases r1
        refine ⟨j, rfl, g1.1, g1.2, q1 _ F1 H1 o1 s1 ⟨?_, _, ⟨fun _ _ _ _ => trivial⟩, trivial, walkR⟩⟩
        have h3 := fits_le g2
        rw [sizeLine_eq] at h3
        unfold rangeL
        simpa using h3
    | _ => exact q1.elim
theorem pid_rng2 (hg : Gl X "range") (hm : X.mg "range" = none) (ha : PD X P XR W a fa) (hb : PD X P XR W b fb) (hs : starEach [a, b] X.env = (false, eval a X.env) :: starEach [b] X.env) (hs2 : starEach [b] X.env = (false, eval b X.env) :: starEach [] X.env)
    (hs' : starEach [a, b] X.env = [(false, eval a X.env), (false, eval b X.env)]) (hs2' : starEach [b] X.env = [(false, eval b X.env)]) :
    PId X P XR W tg (.Call (.Name "range" p) [a, b] [] pos) ops (fun ρ => (fa ρ).bind fun r => (fb r.2).bind fun q => (match r.1, q.1 with
    | .fr (.int i), .fr (.int j) => if inRng i && inRng j && fits (j - i).toNat then .ok (rangeL i (j - i).toNat, q.2) else .stuck
    | _, _ => .stuck)) := PI.imp (pi_range2 hg hm (pa_cons ha (pa_cons hb pa_nil hs2) hs) hs' hs2') fun σ H Q ⟨F, ρ, ok, q⟩ => by
  refine ⟨F, ρ, ok, ?_⟩
  refine Fin.mono (Fin.bind0 (RR := RV X.K σ) q) fun v H1 z => ?_
  obtain ⟨F1, ρ1, a1, eq, o1, s1, r1, q1⟩ := z
  refine ⟨F1, ρ1, o1, ?_⟩
  refine Fin.mono (Fin.bindFrom (RR := RV X.K σ) s1 q1) fun y H2 z => ?_
  obtain ⟨F2, ρ2, a2, _, o2, s2, r2, q2⟩ := z
  cases a1 with
  | ow xs => exact q2.elim
  | fr d => cases d with
    | int i => cases a2 with
      | ow xs => exact q2.elim
      | fr e => cases e with
        | int j =>
          have q1 : Fin X.K P XR W F ρ H σ (RI X.K σ ops) (if (inRng i && inRng j && fits (j - i).toNat) = true then R.ok (rangeL i (j - i).toNat, ρ2) else R.stuck) Q := q2
          cases hf : inRng i && inRng j && fits (j - i).toNat with
          | false => rw [hf] at q1; exact q1.elim
          | true =>
            rw [hf, if_pos rfl] at q1
            obtain ⟨g0, g2⟩ := and2 hf
            obtain ⟨g1, g3⟩ := and2 g0
            unfold inRng at g1 g3
            simp only [Bool.and_eq_true, decide_eq_true_eq] at g1 g3
            cases r1
            cases r2
            refine ⟨i, j, rfl, ⟨g1.1, g1.2, g3.1, g3.2⟩, q1 _ F2 H2 o2 (s1.trans s2) ⟨?_, _, ⟨fun _ _ _ _ => trivial⟩, trivial, walkR⟩⟩
            have h3 := fits_le g2
            rw [sizeLine_eq] at h3
            unfold rangeL
            simpa using h3
        | _ => exact q2.elim
    | _ => exact q2.elim
theorem pid_enum {tpos : Pos} {elts : List Expr} {kk : Nat} (hg : Gl X "enumerate") (hm : X.mg "enumerate" = none) (ho : OpsIn ops o) (h : PO' X P XR W e o) (hs : starEach [e] X.env = (false, eval e X.env) :: starEach [] X.env) (hs' : starEach [e] X.env = [(false, eval e X.env)]) :
    PId X P XR W (.Tuple elts kk tpos) (.Call (.Name "enumerate" p) [e] [] pos) ops (fun ρ => (o ρ).bind fun r => R.opt (deref r.2 r.1) fun x => R.opt (listD x) fun xs => .ok (enumD 0 xs, r.2)) :=
  PI.imp (pi_enum hg hm (pa_bnd (pa_cons h pa_nil hs)) hs') fun σ H Q ⟨F, ρ, ok, q⟩ => by
  refine ⟨F, ρ, ok, ?_⟩
  refine Fin.mono (Fin.bind0 (RR := RO X.K σ) q) fun v H1 z bd => ?_
  obtain ⟨F1, ρ1, a1, eq, o1, s1, r1, q1⟩ := z
  obtain ⟨d, e1, q1⟩ := Fin.opt q1
  obtain ⟨ds, e2, q1⟩ := Fin.opt q1
  obtain ⟨F2, o2, s2, _, hs⟩ := src_of o1 s1 r1 e1 (ho ρ a1 ρ1 eq)
  have key : ∀ a xs vs, SrcL X.K ops a xs F2 ρ1 σ → SqL X.K H1 a vs → vs.length = xs.length → ds = xs → Q (Ite X.K a) H1 := fun a xs vs s hv hl e => by
    subst e
    exact q1 _ F2 H1 o2 s2 ⟨by rw [enumD_len, ← hl]; exact bd a vs (.inl hv), _, srcL_stays (ops := ops), s, walkE⟩
  rcases hs with ⟨a, xs, rfl, rfl, s⟩ | dp
  · cases e2
    obtain ⟨vs, hv, ht⟩ := s.now o2
    exact ⟨a, vs, rfl, hv, key a _ vs s hv ht.length rfl⟩
  · cases dp with
    | lst h t => cases e2; exact ⟨_, _, rfl, Same.seq o2.sub h, key _ _ _ (.fz h t) (Same.seq o2.sub h) t.length rfl⟩
    | _ => cases e2
/-- an operand that is a slot, or known to all -/
def Kn (K : PySem.W.Frag) (σ : L2.St) (F : Hp) (v : V) : Op → Prop
  | .vl x => Dq K F v x.d
  | .sl i => σ[i]? = some (some v)
theorem kn_of {K : PySem.W.Frag} {F F0 H H0 : Hp} {ρ ρ0 : Env} {σ : L2.St} {v : V} {x : Op} (ok : Ok K P F ρ σ H) (s : Step F0 ρ0 σ H0 F ρ σ H) (r : RO K σ ρ0 H0 F H ρ v x) : ∃ F', Ok K P F' ρ σ H ∧ Step F0 ρ0 σ H0 F' ρ σ H ∧ Same F F' ∧ Kn K σ F' v x := by
  cases x with
  | vl x =>
    obtain ⟨F', o', s', dp, e⟩ := rv_known ok r s
    exact ⟨F', o', s', e, dp⟩
  | sl i => exact ⟨F, ok, s, Same.refl _, r⟩
theorem Kn.later {K : PySem.W.Frag} {F F' : Hp} {σ : L2.St} {v : V} {x : Op} (e : Same F F') (h : Kn K σ F v x) : Kn K σ F' v x := by
  cases x with
  | vl x => exact Dq.ext e h
  | sl i => exact h
theorem src_kn {K : PySem.W.Frag} {F H : Hp} {ρ : Env} {σ : L2.St} {v : V} {x : Op} {d : D} (ok : Ok K P F ρ σ H) (r : Kn K σ F v x) (e : deref ρ x = some d) (hx : ∀ i, x = .sl i → i ∈ ops) : (∃ a ds, v = .ref a ∧ d = .list ds ∧ SrcL K ops a ds F ρ σ) ∨ Dq K F v d := by
  cases x with
  | vl x =>
    have e1 : x.d = d := Option.some.inj e
    subst e1
    exact .inr r
  | sl i =>
    have h1 : σ[i]? = some (some v) := r
    have e : (ρ[i]?).bind slD = some d := e
    cases q : ρ[i]? with
    | none => rw [q] at e; cases e
    | some sl =>
      rw [q] at e
      cases sl with
      | un => cases e
      | fr d' =>
        have e1 : d' = d := Option.some.inj e
        subst e1
        obtain ⟨u, h2, h3⟩ := ok.fr i d' q
        rw [h1] at h2
        cases h2
        exact .inr h3
      | ow xs =>
        have e1 : PyData.list xs = d := Option.some.inj e
        subst e1
        obtain ⟨a, vs, h2, _⟩ := ok.ow i xs q
        rw [h1] at h2
        cases h2
        exact .inl ⟨a, xs, rfl, rfl, .sl (hx i rfl) q h1⟩
theorem pid_zip {tpos : Pos} {elts : List Expr} {kk : Nat} (hg : Gl X "zip") (hm : X.mg "zip" = none) (hoa : OpsIn ops oa) (hob : OpsIn ops ob) (ha : PO' X P XR W a oa) (hb : PO' X P XR W b ob)
    (hs : starEach [a, b] X.env = (false, eval a X.env) :: starEach [b] X.env) (hs2 : starEach [b] X.env = (false, eval b X.env) :: starEach [] X.env) (hpl : (backTo pos (starEach [b] X.env)).any (·.1) = false) :
    PId X P XR W (.Tuple elts kk tpos) (.Call (.Name "zip" p) [a, b] [] pos) ops (fun ρ => (oa ρ).bind fun r => (ob r.2).bind fun q => R.opt (deref q.2 r.1) fun x => R.opt (deref q.2 q.1) fun y => R.opt (zipD x y) fun xs => .ok (xs, q.2)) :=
  PI.imp (RZ.pi_zipA hg hm (pa_bnd (pa_cons ha (pa_cons hb pa_nil hs2) hs)) hs hpl) fun σ H Q ⟨F, ρ, ok, q⟩ => by
  refine ⟨F, ρ, ok, ?_⟩
  refine Fin.mono (Fin.bind0 (RR := RO X.K σ) q) fun v H1 z => ?_
  obtain ⟨F1, ρ1, a1, eq1, o1, s1, r1, q1⟩ := z
  obtain ⟨F1', o1', s1', _, k1⟩ := kn_of o1 s1 r1
  refine ⟨F1', ρ1, o1', ?_⟩
  refine Fin.mono (Fin.bindFrom (RR := RO X.K σ) s1' q1) fun w H2 z bd => ?_
  obtain ⟨F2, ρ2, a2, eq2, o2, s2, r2, q2⟩ := z
  obtain ⟨d, e1, q2⟩ := Fin.opt q2
  obtain ⟨e, e2, q2⟩ := Fin.opt q2
  obtain ⟨ds, e3, q2⟩ := Fin.opt q2
  obtain ⟨F4, o4, s4, e24, k2⟩ := kn_of o2 (s1'.trans s2) (back_RO.back s1' r2)
  have e4' : Same F1' F4 := s2.ex.trans e24
  have hs3 := src_kn o4 (k1.later e4') e1 (hoa ρ a1 ρ1 eq1)
  have hs4 := src_kn o4 k2 e2 (hob ρ1 a2 ρ2 eq2)
  have no : ∀ {d e : D}, zipD d e = some ds → (∃ xs ys, d = .list xs ∧ e = .list ys) ∨ ∃ xs ys, d = .tuple xs ∧ e = .tuple ys := fun {d e} h => by
    cases d <;> cases e <;> first | (cases h; done) | exact .inl ⟨_, _, rfl, rfl⟩ | exact .inr ⟨_, _, rfl, rfl⟩
  rcases no e3 with ⟨xs, ys, rfl, rfl⟩ | ⟨xs, ys, rfl, rfl⟩
  · cases e3
    have g1 : ∃ a, v = .ref a ∧ SrcL X.K ops a xs F4 ρ2 σ := by
      rcases hs3 with ⟨a, ds, h1, h2, h3⟩ | h
      · cases h2; exact ⟨a, h1, h3⟩
      · cases h with
        | lst h t => exact ⟨_, rfl, .fz h t⟩
    have g2 : ∃ a, w = .ref a ∧ SrcL X.K ops a ys F4 ρ2 σ := by
      rcases hs4 with ⟨a, ds, h1, h2, h3⟩ | h
      · cases h2; exact ⟨a, h1, h3⟩
      · cases h with
        | lst h t => exact ⟨_, rfl, .fz h t⟩
    obtain ⟨a, rfl, j1⟩ := g1
    obtain ⟨b, rfl, j2⟩ := g2
    obtain ⟨vs, hv, tv⟩ := j1.now o4
    obtain ⟨ws, hw, tw⟩ := j2.now o4
    refine ⟨a, b, vs, ws, rfl, .inl ⟨hv, hw, q2 _ F4 H2 o4 s4 ⟨?_, _, srcL_stays.and srcL_stays, ⟨j1, j2⟩, walkZ⟩⟩⟩
    have := bd a vs (.inl hv)
    have h2 : (zipL xs ys).length = _ := zipL_len
    rw [tv.length] at this
    show (zipL xs ys).length ≤ _
    omega
  · cases e3
    have g1 : ∃ a, v = .ref a ∧ SrcT X.K a xs F4 ρ2 σ := by
      rcases hs3 with ⟨a, ds, h1, h2, h3⟩ | h
      · cases h2
      · cases h with
        | tup h t => exact ⟨_, rfl, _, h, t⟩
    have g2 : ∃ a, w = .ref a ∧ SrcT X.K a ys F4 ρ2 σ := by
      rcases hs4 with ⟨a, ds, h1, h2, h3⟩ | h
      · cases h2
      · cases h with
        | tup h t => exact ⟨_, rfl, _, h, t⟩
    obtain ⟨a, rfl, j1⟩ := g1
    obtain ⟨b, rfl, j2⟩ := g2
    obtain ⟨vs, hv, tv⟩ := j1.now o4
    obtain ⟨ws, hw, tw⟩ := j2.now o4
    refine ⟨a, b, vs, ws, rfl, .inr ⟨hv, hw, q2 _ F4 H2 o4 s4 ⟨?_, _, srcT_stays.and srcT_stays, ⟨j1, j2⟩, walkZT⟩⟩⟩
    have := bd a vs (.inr hv)
    have h2 : (zipL xs ys).length = _ := zipL_len
    rw [tv.length] at this
    show (zipL xs ys).length ≤ _
    omega
end
end Dl
end
section
set_option linter.all false
set_option maxRecDepth 100000
set_option maxHeartbeats 4000000
/-! DlComp: stores, comprehensions. -/
namespace Dl
open PySem PySem.Spec PyProof.Rows L2
/-! ### stores -/
def SameOut (vs : List Nat) (σ σ' : L2.St) : Prop := σ'.length = σ.length ∧ ∀ i, i ∉ vs → σ'[i]? = σ[i]?
section
variable {K : PySem.W.Frag} {P : Option V} {F H : Hp} {ρ : Env} {σ : L2.St}
/-- data known to all goes to slot i -/
theorem Ok.put {i : Nat} {v : V} {d : D} (o : Ok K P F ρ σ H) (hv : Dq K F v d) (hp : P = none ∨ 0 ≠ i) : Ok K P F (setSl ρ i (.fr d)) (σ.set i (some v)) H ∧ Step F ρ σ H F (setSl ρ i (.fr d)) (σ.set i (some v)) H := by
  have back : ∀ (j : Nat) (zs : List D), (setSl ρ i (.fr d))[j]? = some (.ow zs) → i ≠ j ∧ ρ[j]? = some (.ow zs) := fun j zs q => by
    unfold setSl at q
    by_cases hj : i = j
    · subst hj
      rw [List.getElem?_set] at q
      rw [if_pos rfl] at q
      split at q <;> cases q
    · rw [List.getElem?_set_ne hj] at q
      exact ⟨hj, q⟩
  refine ⟨⟨o.sub, ?_, fun j e q => ?_, fun j zs q => ?_, fun j k zs ws c q1 q2 s1 s2 => ?_, fun u hu => ?_⟩, ⟨Same.refl _, fun _ _ h _ => h, fun _ h => .inl h, fun b ⟨j, zs, q1, q2⟩ => ?_, fun _ h => h⟩⟩
  · unfold setSl; rw [List.length_set, List.length_set]; exact o.len
  · unfold setSl at q
    by_cases hj : i = j
    · subst hj
      rw [List.getElem?_set] at q
      rw [if_pos rfl] at q
      split at q
      · rename_i hl
        cases q
        refine ⟨v, ?_, hv⟩
        rw [List.getElem?_set_self (by rw [← o.len]; exact hl)]
      · cases q
    · rw [List.getElem?_set_ne hj] at q ⊢
      exact o.fr j e q
  · obtain ⟨hj, q⟩ := back j zs q
    rw [List.getElem?_set_ne hj]
    exact o.ow j zs q
  · obtain ⟨hj, q1⟩ := back j zs q1
    obtain ⟨hk, q2⟩ := back k ws q2
    rw [List.getElem?_set_ne hj] at s1
    rw [List.getElem?_set_ne hk] at s2
    exact o.inj j k zs ws c q1 q2 s1 s2
  · rcases hp with z | z
    · rw [z] at hu; cases hu
    · rw [List.getElem?_set_ne (Ne.symm z)]
      exact o.pin u hu
  · obtain ⟨hj, q1⟩ := back j zs q1
    rw [List.getElem?_set_ne hj] at q2
    exact .inl ⟨j, zs, q1, q2⟩
end
def gT (K : PySem.W.Frag) (P : Option V) (f : D → Env → Option Env) (vs : List Nat) : TG := fun v σ H Q => ∃ F ρ d ρ', Ok K P F ρ σ H ∧ Dq K F v d ∧ f d ρ = some ρ' ∧ ∀ σ', Ok K P F ρ' σ' H → Step F ρ σ H F ρ' σ' H → SameOut vs σ σ' → Q σ' H
def gTs (K : PySem.W.Frag) (P : Option V) (f : List D → Env → Option Env) (vs : List Nat) : TGs := fun v σ H Q => ∃ F ρ d ρ', Ok K P F ρ σ H ∧ DqAll K F v d ∧ f d ρ = some ρ' ∧ ∀ σ', Ok K P F ρ' σ' H → Step F ρ σ H F ρ' σ' H → SameOut vs σ σ' → Q σ' H
section
variable {X : Cx} {P : Option V} {pos : Pos} {e : Expr} {es : List Expr}
theorem PG.imp {t t' : TG} (h : PG X e t) (i : ∀ v σ H Q, t' v σ H Q → t v σ H Q) : PG X e t' := ⟨fun pins s σ H v u Q I r q => h.run pins s σ H v u Q I r (i v σ H Q q)⟩
theorem PGs.imp {t t' : TGs} (h : PGs X es t) (i : ∀ v σ H Q, t' v σ H Q → t v σ H Q) : PGs X es t' := ⟨fun pins s σ H v u Q I r q => h.run pins s σ H v u Q I r (i v σ H Q q)⟩
theorem pgd_name {i : Nat} {x : Str} (hN : X.N.Nodup) (hi : X.N[i]? = some x) (hx : Loc X.env.scope x) (hf : X.fn x = true ∨ X.env.scope.names.lookup x = some .local) (hp : P = none ∨ 0 ≠ i) : PG X (.Name x pos) (gT X.K P (storeD (.nm i)) (ownT (.nm i))) :=
  PG.imp (pg_name hN hi hx hf) fun v σ H Q ⟨F, ρ, d, ρ', ok, dp, e, h⟩ => by
  cases e
  obtain ⟨o1, s1⟩ := ok.put dp hp
  exact h _ o1 s1 ⟨by rw [List.length_set], fun j hj => List.getElem?_set_ne fun z => hj (by rw [z]; exact List.mem_cons_self)⟩
theorem pgsd_nil : PGs X [] (gTs X.K P (storeDs .nil) (ownTs .nil)) := PGs.imp pgs_nil fun v σ H Q ⟨F, ρ, d, ρ', ok, dp, e, h⟩ => by
  cases d with
  | nil =>
    cases e
    cases dp
    exact ⟨rfl, h σ ok Step.refl ⟨rfl, fun _ _ => rfl⟩⟩
  | cons _ _ => cases e
theorem pgsd_cons {t : T} {ts : Ts} (h1 : PG X e (gT X.K P (storeD t) (ownT t))) (h2 : PGs X es (gTs X.K P (storeDs ts) (ownTs ts))) (hs : (assignEach (e :: es) X.env).map (·.2) = assign e X.env :: (assignEach es X.env).map (·.2)) :
    PGs X (e :: es) (gTs X.K P (storeDs (.cons t ts)) (ownTs (.cons t ts))) := PGs.imp (pgs_cons h1 h2 hs) fun v σ H Q ⟨F, ρ, d, ρ', ok, dp, e, h⟩ => by
  cases dp with
  | nil => cases e
  | cons dv dr =>
    obtain ⟨ρ1, e1, e2⟩ := Option.bind_eq_some_iff.mp e
    refine ⟨_, _, rfl, F, ρ, _, ρ1, ok, dv, e1, fun σ1 o1 s1 so1 => ?_⟩
    refine ⟨F, ρ1, _, ρ', o1, dr, e2, fun σ2 o2 s2 so2 => h σ2 o2 (s1.trans s2) ⟨so2.1.trans so1.1, fun i hi => ?_⟩⟩
    rw [so2.2 i fun z => hi (List.mem_append_right _ z), so1.2 i fun z => hi (List.mem_append_left _ z)]
/-- (a, b, ..) = a list of that length -/
theorem toLs {A : Around} {P : Program} {w : World} {E : Value → Shared → Prop} {s : Shared} {env : PySem.Env} {k : Nat} {l : Addr} {items : Array Value} {Q : Unit → Shared → Prop} (hh : A.handled = none) (hl : s.heap.IsList l items)
    (hn : (assignEach es env).length = items.size) (hs : (assignEach es env).findIdx? (·.1) = none)
    (h : ∀ h', Heap.ExtBut s.heap.objs.size s.heap h' → wpAny (model P w) A (assignInOrder ((assignEach es env).map (·.2)) items.toList) Q E { s with heap := h' }) :
    wpAny (model P w) A (assign (.Tuple es k pos) env (.ref l)) Q E s := by
  rw [assign_Tuple]
  refine wpAny_bind (wpAny_standAt ?_)
  show wpAny _ _ (PySem.unpack _ _) Q E s
  unfold PySem.unpack
  rw [hn, hs]
  exact wpAny_bind (wpAny_holding (PySem.W.kun_itemsOf hh hl h))
def gSq (K : PySem.W.Frag) (n : Nat) (t : TGs) : TG := fun v σ H Q => ∃ a xs, v = .ref a ∧ (SqT K H a xs ∨ SqL K H a xs) ∧ xs.length = n ∧ t xs σ H Q
theorem pg_sq {k n : Nat} {t : TGs} (hc : X.calm = true) (h : PGs X es t) (hn : (assignEach es X.env).length = n) (hs : (assignEach es X.env).findIdx? (·.1) = none) : PG X (.Tuple es k pos) (gSq X.K n t) := by
  refine ⟨fun pins s σ H v u Q I r hw => ?_⟩
  obtain ⟨a, xs, e1, hq, hl, hw⟩ := hw
  rcases hq with hq | hq
  · exact (pg_tup hc h hn hs).run pins s σ H v u Q I r ⟨a, xs, e1, hq, hl, hw⟩
  · subst e1
    cases r
    obtain ⟨its, rv, hp, hz⟩ := I.list hq
    refine toLs (I.ok.hd hc) hp.isList (by simp [hn, ← hl, rv.length]) hs fun h' hx => ?_
    have I1 : Inv X pins σ H { s with heap := h' } := I.kept (t' := s.toks) fun b o e => hx b o (Nat.ne_of_lt (Heap.lt_size e)) e
    exact h.run pins _ σ H xs _ Q I1 (by simpa using rv) hw
theorem pgd_tup {k n : Nat} {ts : Ts} (hc : X.calm = true) (h : PGs X es (gTs X.K P (storeDs ts) (ownTs ts))) (hts : ∀ xs ρ ρ', storeDs ts xs ρ = some ρ' → xs.length = n) (hn : (assignEach es X.env).length = n) (hst : (assignEach es X.env).findIdx? (·.1) = none) :
    PG X (.Tuple es k pos) (gT X.K P (storeD (.tp ts)) (ownT (.tp ts))) := PG.imp (pg_sq hc h hn hst) fun v σ H Q ⟨F, ρ, d, ρ', ok, dp, e, h⟩ => by
  cases dp with
  | tup hq t => exact ⟨_, _, rfl, .inl (Ext.sqT ok.sub hq), by rw [t.length]; exact hts _ _ _ e, F, ρ, _, ρ', ok, t, e, h⟩
  | lst hq t => exact ⟨_, _, rfl, .inr (Same.seq ok.sub hq), by rw [t.length]; exact hts _ _ _ e, F, ρ, _, ρ', ok, t, e, h⟩
  | _ => cases e
end

/-! ### a block's slots -/
theorem wipe_sameOut {σ : L2.St} {vs : List Nat} : SameOut vs σ (wipe σ vs) := ⟨wipe_length σ vs, fun _ h => wipe_out h⟩
theorem wipe_eq {σ σ' : L2.St} {us vs : List Nat} (h : SameOut us (wipe σ vs) σ') (hu : ∀ i ∈ us, i ∈ vs) : wipe σ' vs = wipe σ vs := by
  have hl : (wipe σ vs).length = σ.length := wipe_length σ vs
  have key : ∀ (σ : L2.St) (vs : List Nat) (i : Nat), i ∈ vs → i < σ.length → (wipe σ vs)[i]? = some none := by
    intro σ vs
    induction vs with
    | nil => intro i hi; cases hi
    | cons v vs ih =>
      intro i hi hl
      unfold wipe
      by_cases hv : v = i
      · subst hv
        rw [List.getElem?_set_self (by rw [wipe_length]; exact hl)]
      · rw [List.getElem?_set_ne hv]
        rcases List.mem_cons.mp hi with z | z
        · exact absurd z.symm hv
        · exact ih i z hl
  apply List.ext_getElem?
  intro i
  by_cases hi : i ∈ vs
  · by_cases hl2 : i < σ.length
    · rw [key σ vs i hi hl2, key σ' vs i hi (by rw [h.1, hl]; exact hl2)]
    · rw [List.getElem?_eq_none (by rw [wipe_length, h.1, hl]; omega), List.getElem?_eq_none (by rw [wipe_length]; omega)]
  · rw [wipe_out hi, h.2 i fun z => hi (hu i z)]
section
variable {K : PySem.W.Frag} {P : Option V} {F F' H H' : Hp} {ρ ρ1 : Env} {σ σ' : L2.St} {vs us : List Nat}
theorem wipeE_is {i : Nat} {s : Sl} (h : (wipeE ρ vs)[i]? = some s) (hs : s ≠ .un) : i ∉ vs ∧ ρ[i]? = some s := by
  have hi : i ∉ vs := fun z => hs (wipeE_in z h)
  exact ⟨hi, by rw [wipeE_out hi] at h; exact h⟩
theorem own_wiped {a : Addr} (so : SameOut us σ σ') (hu : ∀ i ∈ us, i ∈ vs) (h : OwnAt (wipeE ρ vs) σ' a) : OwnAt ρ σ a := by
  obtain ⟨i, xs, h1, h2⟩ := h
  obtain ⟨hi, h3⟩ := wipeE_is h1 (fun z => nomatch z)
  exact ⟨i, xs, h3, by rw [← so.2 i fun z => hi (hu i z)]; exact h2⟩
theorem Ok.wipe (o : Ok K P F ρ σ H) (so : SameOut us σ σ') (hu : ∀ i ∈ us, i ∈ vs) : Ok K none F (wipeE ρ vs) σ' H where
  sub := o.sub
  len := by rw [wipeE_len, so.1]; exact o.len
  fr := fun i d q => by
    obtain ⟨hi, q⟩ := wipeE_is q (fun z => nomatch z)
    rw [so.2 i fun z => hi (hu i z)]
    exact o.fr i d q
  ow := fun i xs q => by
    obtain ⟨hi, q⟩ := wipeE_is q (fun z => nomatch z)
    rw [so.2 i fun z => hi (hu i z)]
    exact o.ow i xs q
  inj := fun i j xs ys a q1 q2 s1 s2 => by
    obtain ⟨hi, q1⟩ := wipeE_is q1 (fun z => nomatch z)
    obtain ⟨hj, q2⟩ := wipeE_is q2 (fun z => nomatch z)
    rw [so.2 i fun z => hi (hu i z)] at s1
    rw [so.2 j fun z => hj (hu j z)] at s2
    exact o.inj i j xs ys a q1 q2 s1 s2
  pin := fun _ h => nomatch h
theorem Ok.wipeP (o : Ok K P F ρ σ H) : Ok K P F (wipeE ρ vs) σ H :=
  have w := o.wipe (us := []) (vs := vs) ⟨rfl, fun _ _ => rfl⟩ (fun _ h => nomatch h)
  ⟨w.sub, w.len, w.fr, w.ow, w.inj, o.pin⟩
theorem Step.wipe (so : SameOut us σ σ') (hu : ∀ i ∈ us, i ∈ vs) : Step F ρ σ H F (wipeE ρ vs) σ' H := ⟨Same.refl _, fun _ _ h _ => h, fun _ h => .inl h, fun _ h => .inl (own_wiped so hu h), fun _ h => h⟩
/-- an object that is neither known to all nor a slot's is written -/
theorem Ok.other (o : Ok K P F ρ σ H) {p : Addr} {u : HO} (hf : F p = none) (ho : ¬ OwnAt ρ σ p) : Ok K P F ρ σ (upd H p u) :=
  ⟨fun b w h => by rw [upd_ne fun z => by subst z; rw [hf] at h; cases h]; exact o.sub b w h, o.len, o.fr, fun i xs q => by
    obtain ⟨a, vs, h1, h2, h3, h4⟩ := o.ow i xs q
    exact ⟨a, vs, h1, h2, by rw [upd_ne fun z => ho ⟨i, xs, q, by rw [h1, z]⟩]; exact h3, h4⟩, o.inj, o.pin⟩
theorem Step.other {F0 H0 : Hp} {ρ0 : Env} {σ0 : L2.St} (s : Step F0 ρ0 σ0 H0 F ρ σ H) {p : Addr} {u : HO} (hp : H0 p = none) : Step F0 ρ0 σ0 H0 F ρ σ (upd H p u) :=
  ⟨s.ex, fun b w h n => by rw [upd_ne fun z => by subst z; rw [hp] at h; cases h]; exact s.keep b w h n, s.new, s.own, fun b h => by
    by_cases hb : b = p
    · subst hb; rw [upd_same] at h; cases h
    · rw [upd_ne hb] at h; exact s.there b h⟩
/-- out of the block -/
theorem Ok.back (o : Ok K P F ρ σ H) (so : SameOut vs σ σ') (o' : Ok K none F' (wipeE ρ1 vs) σ' H') (s : Step F (wipeE ρ vs) σ H F' (wipeE ρ1 vs) σ' H') :
    Ok K P F' (backE ρ ρ1 vs) σ H' ∧ Step F ρ σ H F' (backE ρ ρ1 vs) σ H' ∧ ∀ p, OwnAt (backE ρ ρ1 vs) σ p → OwnAt ρ σ p ∨ OwnAt (wipeE ρ1 vs) σ' p := by
  have hl : ρ.length = ρ1.length := by rw [o.len, ← so.1, ← o'.len, wipeE_len]
  have w0 : ∀ a, OwnAt (wipeE ρ vs) σ a → OwnAt ρ σ a := fun a h => own_wiped (us := []) (vs := vs) ⟨rfl, fun _ _ => rfl⟩ (fun _ h => nomatch h) h
  have inn : ∀ {i : Nat} {s : Sl}, (backE ρ ρ1 vs)[i]? = some s → s ≠ .un → (i ∈ vs ∧ ρ[i]? = some s) ∨ (i ∉ vs ∧ (wipeE ρ1 vs)[i]? = some s ∧ σ'[i]? = σ[i]?) := fun {i s} q _ => by
    by_cases hi : i ∈ vs
    · rw [backE_in hl hi] at q; exact .inl ⟨hi, q⟩
    · rw [backE_out hi] at q; exact .inr ⟨hi, by rw [wipeE_out hi]; exact q, so.2 i hi⟩
  have apart : ∀ {i : Nat} {xs : List D} {a : Addr}, i ∈ vs → ρ[i]? = some (.ow xs) → σ[i]? = some (some (.ref a)) → ¬ OwnAt (wipeE ρ vs) σ a := fun {i xs a} hi q q2 ⟨j, ys, h1, h2⟩ => by
    obtain ⟨hj, h1⟩ := wipeE_is h1 (fun z => nomatch z)
    have e := o.inj i j xs ys a q h1 q2 h2
    subst e
    exact hj hi
  have own' : ∀ p, OwnAt (backE ρ ρ1 vs) σ p → OwnAt ρ σ p ∨ OwnAt (wipeE ρ1 vs) σ' p := fun p ⟨i, xs, h1, h2⟩ => by
    rcases inn h1 (fun z => nomatch z) with ⟨_, q⟩ | ⟨_, q, e⟩
    · exact .inl ⟨i, xs, q, h2⟩
    · exact .inr ⟨i, xs, q, by rw [e]; exact h2⟩
  refine ⟨⟨o'.sub, ?_, fun i d q => ?_, fun i xs q => ?_, fun i j xs ys a q1 q2 s1 s2 => ?_, o.pin⟩, ⟨s.ex, fun a u h n => s.keep a u h fun z => n (w0 a z), fun a h => ?_, fun a h => ?_, s.there⟩, own'⟩
  · rw [backE_len, ← hl]; exact o.len
  · rcases inn q (fun z => nomatch z) with ⟨_, q⟩ | ⟨_, q, e⟩
    · obtain ⟨v, h1, h2⟩ := o.fr i d q
      exact ⟨v, h1, Dq.ext s.ex h2⟩
    · rw [← e]; exact o'.fr i d q
  · rcases inn q (fun z => nomatch z) with ⟨hi, q⟩ | ⟨_, q, e⟩
    · obtain ⟨a, ws, h1, h2, h3, h4⟩ := o.ow i xs q
      have na := apart hi q h1
      refine ⟨a, ws, h1, ?_, s.keep a _ h3 na, DqAll.ext s.ex h4⟩
      cases z : F' a with
      | none => rfl
      | some u =>
        rcases s.new a (by rw [z]; exact fun y => nomatch y) with y | y | y
        · exact absurd h2 y
        · exact absurd y na
        · rw [h3] at y; cases y
    · rw [← e]; exact o'.ow i xs q
  · have mixed : ∀ {i j : Nat} {xs ys : List D} {a : Addr}, i ∈ vs → ρ[i]? = some (.ow xs) → (wipeE ρ1 vs)[j]? = some (.ow ys) → σ[i]? = some (some (.ref a)) → σ'[j]? = some (some (.ref a)) → False := fun {i j xs ys a} hi q1 q2 s1 s2 => by
      obtain ⟨a', ws, h1, _, h3, _⟩ := o.ow i xs q1
      rw [s1] at h1
      cases h1
      rcases s.own a ⟨j, ys, q2, s2⟩ with y | y
      · exact apart hi q1 s1 y
      · rw [h3] at y; cases y
    rcases inn q1 (fun z => nomatch z) with ⟨hi, q1⟩ | ⟨_, q1, e1⟩
    · rcases inn q2 (fun z => nomatch z) with ⟨_, q2⟩ | ⟨_, q2, e2⟩
      · exact o.inj i j xs ys a q1 q2 s1 s2
      · exact (mixed hi q1 q2 s1 (by rw [e2]; exact s2)).elim
    · rcases inn q2 (fun z => nomatch z) with ⟨hj, q2⟩ | ⟨_, q2, e2⟩
      · exact (mixed hj q2 q1 s2 (by rw [e1]; exact s1)).elim
      · exact o'.inj i j xs ys a q1 q2 (by rw [e1]; exact s1) (by rw [e2]; exact s2)
  · rcases s.new a h with y | y | y
    · exact .inl y
    · exact .inr (.inl (w0 a y))
    · exact .inr (.inr y)
  · rcases own' a h with y | y
    · exact .inl y
    · rcases s.own a y with y | y
      · exact .inl (w0 a y)
      · exact .inr y
end
/-- a slot's list is given up -/
theorem pd_mv {X : Cx} {P : Option V} {XR : XRel} {W : WX} {pos : Pos} {i : Nat} {x : Str} (hN : X.N[i]? = some x) (hv : Vis X.env.scope x) (hd : (x == ("__debug__" : Str)) = false) (hcd : (x == ("__classdict__" : Str)) = false) : PD X P XR W (.Name x pos) (fun ρ => match ρ[i]? with
    | some (.fr d) => .ok (.fr d, ρ)
    | some (.ow xs) => .ok (.ow xs, setSl ρ i .un)
    | _ => .stuck) := PE.imp (pe_var hN hv hd hcd) fun σ H Q ⟨F, ρ, o, h⟩ => by
  cases q : ρ[i]? with
  | none => simp only [q] at h; exact h.elim
  | some s =>
    cases s with
    | un => simp only [q] at h; exact h.elim
    | fr d =>
      simp only [q] at h
      obtain ⟨v, h1, h2⟩ := o.fr i d q
      exact ⟨v, h1, Fin.here h o h2⟩
    | ow xs =>
      simp only [q] at h
      obtain ⟨a, vs, h1, h2, h3, h4⟩ := o.ow i xs q
      refine ⟨.ref a, h1, h (.ref a) F H (o.wipeP (vs := [i])) (Step.wipe (us := []) (vs := [i]) ⟨rfl, fun _ _ => rfl⟩ fun _ h => nomatch h) ⟨a, vs, rfl, h2, h3, h4, fun ⟨j, ys, q1, q2⟩ => ?_, .inl ⟨i, xs, q, h1⟩⟩⟩
      obtain ⟨hj, q3⟩ := wipeE_is (vs := [i]) (show (wipeE ρ [i])[j]? = some (.ow ys) from q1) (fun z => nomatch z)
      exact hj (by rw [o.inj i j xs ys a q q3 h1 q2]; exact List.mem_cons_self)
end Dl
end
section
set_option linter.all false
set_option maxRecDepth 100000
set_option maxHeartbeats 4000000
/-! DlLc: list comprehensions, one clause and two. -/
namespace Dl
open PySem PySem.Spec PyProof.Rows L2
/-- in a block nothing is raised -/
abbrev WF : WX := fun _ _ _ _ => False
abbrev stepG (t : T) (vs : List Nat) (fC : Env → R (Bool × Env)) (fG : Env → List D → R (Env × List D)) : D → Env → List D → R (Env × List D) :=
  fun x ρ acc => R.opt (storeD t x (wipeE ρ vs)) fun ρ1 => (fC ρ1).bind fun q => if q.1 then fG q.2 acc else .ok (q.2, acc)
abbrev lastG (fE : Env → R (Vl × Env)) : Env → List D → R (Env × List D) := fun ρ acc => (fE ρ).bind fun r => .ok (r.2, acc ++ [r.1.d])
abbrev clauseG (ok : Bool) (t : T) (vs : List Nat) (fI : Env → R (List D × Env)) (fC : Env → R (Bool × Env)) (fG : Env → List D → R (Env × List D)) : Env → List D → R (Env × List D) :=
  fun ρ acc => (fI ρ).bind fun r => if ok then turns (stepG t vs fC fG) r.1 r.2 acc else .stuck
abbrev PTsd (X : Cx) (P : Option V) (XR : XRel) (W : WX) (es : List Expr) (f : Env → R (Bool × Env)) : Prop := PTs X es (tT X.K P XR W f)
section
variable {X : Cx} {P : Option V} {XR : XRel} {W : WX} {e c : Expr} {f : Env → R (Bool × Env)}
theorem PTs.imp {es : List Expr} {t t' : TT} (h : PTs X es t) (i : ∀ σ H Q, t' σ H Q → t σ H Q) : PTs X es t' := ⟨fun pins s σ H Q I q => h.run pins s σ H Q I (i σ H Q q)⟩
theorem ptsd_nil : PTsd X P XR W [] (fun ρ => .ok (true, ρ)) := PTs.imp pts_nil fun σ H Q ⟨F, ρ, ok, q⟩ => Fin.here q ok rfl
theorem ptsd_one (h : PTd X P XR W c f) : PTsd X P XR W [c] (fun ρ => (f ρ).bind fun r => if r.1 then .ok (true, r.2) else .ok (false, r.2)) := PTs.imp (pts_one h) fun σ H Q ⟨F, ρ, ok, q⟩ => by
  refine ⟨F, ρ, ok, ?_⟩
  have e : ((f ρ).bind fun r => if r.1 = true then R.ok (true, r.2) else .ok (false, r.2)) = f ρ := by
    cases f ρ with
    | ok r => obtain ⟨b, ρ'⟩ := r; cases b <;> rfl
    | exc _ _ _ => rfl
    | stuck => rfl
  have q : Fin X.K P XR W F ρ H σ RB ((f ρ).bind fun r => if r.1 = true then R.ok (true, r.2) else .ok (false, r.2)) Q := q
  rw [e] at q
  exact q
end
/-- behind a block's turn, its new item appended -/
theorem acc_put {K : PySem.W.Frag} {P : Option V} {F F0 H H0 : Hp} {ρ ρ0 : Env} {σ σ0 : L2.St} {D' : Addr} {vacc : List V} {y : V} (o : Ok K P F ρ σ H) (s : Step F0 ρ0 σ0 H0 F ρ σ H) (hD0 : H0 D' = none) (hF : F D' = none) (hO : ¬ OwnAt ρ σ D') :
    Ok K P F ρ σ (upd H D' (.lst (vacc ++ [y]))) ∧ Step F0 ρ0 σ0 H0 F ρ σ (upd H D' (.lst (vacc ++ [y]))) := ⟨o.other hF hO, s.other hD0⟩
/-- the new list is left alone by a step -/
theorem acc_stay {F F' H H' : Hp} {ρ ρ' : Env} {σ σ' : L2.St} {D' : Addr} {u : HO} (s : Step F ρ σ H F' ρ' σ' H') (hH : H D' = some u) (hF : F D' = none) (hO : ¬ OwnAt ρ σ D') : H' D' = some u ∧ F' D' = none ∧ ¬ OwnAt ρ' σ' D' := by
  refine ⟨s.keep _ _ hH hO, ?_, fun z => ?_⟩
  · cases z : F' D' with
    | none => rfl
    | some w =>
      rcases s.new D' (by rw [z]; exact fun y => nomatch y) with y | y | y
      · exact absurd hF y
      · exact absurd y hO
      · rw [hH] at y; cases y
  · rcases s.own D' z with y | y
    · exact hO y
    · rw [hH] at y; cases y
theorem turns_cons {f : D → Env → List D → R (Env × List D)} {x : D} {xs : List D} {ρ : Env} {acc : List D} {b : Env × List D} (h : turns f (x :: xs) ρ acc = .ok b) : ∃ r, f x ρ acc = .ok r ∧ turns f xs r.1 r.2 = .ok b := R.bind_ok h
theorem drop_at {ds : List D} {i : Nat} (h : i < ds.length) : ds.drop i = ds[i] :: ds.drop (i + 1) := List.drop_eq_getElem_cons h
/-- what a turn is known to grow to -/
theorem grow_turns {f : D → Env → List D → R (Env × List D)} (g : ∀ x ρ acc r, f x ρ acc = .ok r → acc.length ≤ r.2.length) : ∀ (xs : List D) {ρ : Env} {acc : List D} {r : Env × List D}, turns f xs ρ acc = .ok r → acc.length ≤ r.2.length
  | [], ρ, acc, r, h => by cases h; exact Nat.le_refl _
  | x :: xs, ρ, acc, r, h => by
    obtain ⟨q, h1, h2⟩ := turns_cons h
    exact Nat.le_trans (g _ _ _ _ h1) (grow_turns g xs h2)
theorem grow_step {t : T} {vs : List Nat} {fC : Env → R (Bool × Env)} {fG : Env → List D → R (Env × List D)} (g : ∀ ρ acc r, fG ρ acc = .ok r → acc.length ≤ r.2.length) : ∀ x ρ acc r, stepG t vs fC fG x ρ acc = .ok r → acc.length ≤ r.2.length := fun x ρ acc r h => by
  obtain ⟨ρ1, _, h⟩ := R.opt_ok h
  obtain ⟨q, _, h⟩ := R.bind_ok h
  split at h
  · exact g _ _ _ h
  · cases h; exact Nat.le_refl _
theorem grow_last {fE : Env → R (Vl × Env)} : ∀ ρ acc r, lastG fE ρ acc = .ok r → acc.length ≤ r.2.length := fun ρ acc r h => by
  obtain ⟨q, _, h⟩ := R.bind_ok h
  cases h
  simp
abbrev QuietStep (ops vs : List Nat) (step : D → Env → List D → R (Env × List D)) : Prop := ∀ i ∈ ops, i ∉ vs ∧ ∀ n x ρ acc r, step x ρ acc = .ok r → Has i n ρ → Has i n r.1
section
variable {X : Cx} {P : Option V} {XR : XRel} {W : WX} {tg tg1 iter iter1 elt : Expr} {ifs ifs1 : List Expr} {scope : Scope} {own : List (Str × Nat)} {pos : Pos} {t t1 : T} {vs vs1 ops ops1 : List Nat} {fI fI1 : Env → R (List D × Env)} {fC fC1 : Env → R (Bool × Env)} {fE : Env → R (Vl × Env)}
theorem G_later {G : Hp → Env → L2.St → Prop} (st : Stays ops G) {F F' : Hp} {ρ ρ' : Env} {σ : L2.St} {f : D → Env → List D → R (Env × List D)} (q : QuietStep ops vs f) {x : D} {acc : List D} {r : Env × List D} (e : Same F F') (h : f x ρ acc = .ok r) (g : G F (wipeE ρ vs) (wipe σ vs)) : G F' (wipeE r.1 vs) (wipe σ vs) := by
  refine st.later e (fun i hi xs hx => ?_) (fun i hi v hv => hv) g
  obtain ⟨h1, h2⟩ := q i hi
  rw [wipeE_out h1] at hx ⊢
  exact (h2 (xs, ρ.length) x ρ acc r h ⟨hx, rfl⟩).1
theorem lc1_imp {ok : Bool} (ht : ∀ i ∈ ownT t, i ∈ vs) (hq : ok = true → QuietStep ops vs (stepG t vs fC (lastG fE))) {σ : L2.St} {H : Hp} {Q : VK}
    (h : tE X.K P XR W (fun ρ => (clauseG ok t vs fI fC (lastG fE) (wipeE ρ vs) []).nox.bind fun r => .ok (.ow r.2, backE ρ r.1 vs)) σ H Q) :
    tLc (tI X.K P XR W ops fI) (gT X.K none (storeD t) (ownT t)) (tT X.K none XR WF fC) (tE X.K none XR WF fE) vs σ H Q := by
  obtain ⟨F, ρ, o, h⟩ := h
  cases hr : (clauseG ok t vs fI fC (lastG fE) (wipeE ρ vs) []).nox with
  | exc _ _ _ => revert hr; cases clauseG ok t vs fI fC (lastG fE) (wipeE ρ vs) [] <;> intro hr <;> cases hr
  | stuck => simp only [hr] at h; exact h.elim
  | ok fin =>
    simp only [hr] at h
    have hr := R.nox_ok hr
    obtain ⟨⟨ds, ρ1⟩, e1, hr⟩ := R.bind_ok hr
    cases ok with
    | false => cases hr
    | true =>
    have hq := hq rfl
    have hr : turns (stepG t vs fC (lastG fE)) ds ρ1 [] = .ok fin := hr
    refine ⟨F, wipeE ρ vs, o.wipeP, ?_⟩
    rw [e1]
    intro J F1 H1 o1 s1 ⟨hlen, G, hst, hG, hw⟩ D' hD
    have hlen : ds.length ≤ 16777216 := hlen
    have hD0 : H D' = none := s1.there D' hD
    have hF1 : F1 D' = none := Same.free o1.sub hD
    have hO1 : ¬ OwnAt ρ1 σ D' := fun ⟨i, xs, q1, q2⟩ => by
      obtain ⟨a, ws, h1, _, h3, _⟩ := o1.ow i xs q1
      rw [h1] at q2
      cases q2
      rw [hD] at h3
      cases h3
    have so : SameOut vs σ (wipe σ vs) := wipe_sameOut
    refine ⟨fun i m H' => m = ds.length - i ∧ i ≤ ds.length ∧ ∃ F' ρ' acc vacc, Ok X.K none F' (wipeE ρ' vs) (wipe σ vs) H' ∧ Step F (wipeE ρ vs) σ H F' (wipeE ρ' vs) (wipe σ vs) H' ∧ F' D' = none ∧ ¬ OwnAt (wipeE ρ' vs) (wipe σ vs) D' ∧
      H' D' = some (.lst vacc) ∧ DqAll X.K F' vacc acc ∧ acc.length ≤ i ∧ turns (stepG t vs fC (lastG fE)) (ds.drop i) ρ' acc = .ok fin ∧ G F' (wipeE ρ' vs) (wipe σ vs), ⟨ds.length, by simp, Nat.zero_le _, F1, ρ1, [], [], ?_⟩, ?_⟩
    · have ow := o1.wipe so (fun _ h => h)
      have nw : ¬ OwnAt (wipeE ρ1 vs) (wipe σ vs) D' := fun z => hO1 (own_wiped so (fun _ h => h) z)
      refine ⟨ow.other hF1 nw, (s1.trans (Step.wipe so fun _ h => h)).other hD0, hF1, nw, upd_same, .nil, Nat.le_refl _, by rw [List.drop_zero]; exact hr, ?_⟩
      refine hst.later (Same.refl _) (fun i hi xs hx => ?_) (fun i hi v hx => ?_) hG
      · rw [wipeE_out (hq i hi).1]; exact hx
      · rw [wipe_out (hq i hi).1]; exact hx
    · rintro i m H' ⟨rfl, hi, F', ρ', acc, vacc, o', s', hF', hO', hD', hacc, hal, htn, hG'⟩
      by_cases hlt : i < ds.length
      · refine .inr ⟨hw.goes o' hG' (d := ds[i]) (by simp [hlt]), _, fun H2 h2 => ⟨ds.length - (i + 1), by omega, h2⟩, fun x H2 y => ?_⟩
        obtain ⟨F2, o2, s2, dx⟩ := hw.yields o' hG' (d := ds[i]) (by simp [hlt]) y
        rw [drop_at hlt] at htn
        obtain ⟨r, hstep, htn⟩ := turns_cons htn
        have hstep0 := hstep
        obtain ⟨ρ3, e3, hstep⟩ := R.opt_ok hstep
        obtain ⟨⟨b, ρ4⟩, e4, hstep⟩ := R.bind_ok hstep
        have hstep : (if b = true then lastG fE ρ4 acc else R.ok (ρ4, acc)) = .ok r := hstep
        refine ⟨F2, wipeE ρ' vs, ds[i], ρ3, o2, dx, e3, fun σ3 o3 s3 so3 => ⟨wipe_eq so3 ht, F2, ρ3, o3, ?_⟩⟩
        rw [e4]
        intro b' F4 H4 o4 s4 eb
        have eb : b' = b := eb
        subst eb
        have so34 : ∀ {ρ5 : Env}, ∀ i, i ∉ vs → (wipe σ vs)[i]? = σ3[i]? := fun {ρ5} i hi => (so3.2 i fun z => hi (ht i z)).symm
        have so3' : SameOut vs σ3 (wipe σ vs) := ⟨so3.1.symm, fun i hi => (so3.2 i fun z => hi (ht i z)).symm⟩
        have s24 : Step F' (wipeE ρ' vs) (wipe σ vs) H' F4 ρ4 σ3 H4 := (s2.trans s3).trans s4
        cases b' with
        | false =>
          rw [if_neg Bool.false_ne_true] at hstep ⊢
          cases hstep
          have st := s24.trans (Step.wipe so3' fun _ h => h)
          obtain ⟨g1, g2, g3⟩ := acc_stay st hD' hF' hO'
          exact ⟨by omega, by omega, F4, ρ4, acc, vacc, o4.wipe so3' fun _ h => h, s'.trans st, g2, g3, g1, DqAll.ext st.ex hacc, by omega, htn, G_later hst hq (ρ' := ρ') st.ex hstep0 hG'⟩
        | true =>
          rw [if_pos rfl] at hstep ⊢
          obtain ⟨⟨v, ρ5⟩, e5, hstep⟩ := R.bind_ok hstep
          cases hstep
          refine ⟨F4, ρ4, o4, ?_⟩
          rw [e5]
          intro y5 F5 H5 o5 s5 rv
          obtain ⟨F6, o6, s6, d6, _⟩ := rv_known o5 rv s5
          have s26 : Step F' (wipeE ρ' vs) (wipe σ vs) H' F6 ρ5 σ3 H5 := s24.trans s6
          have st := s26.trans (Step.wipe so3' fun _ h => h)
          obtain ⟨g1, g2, g3⟩ := acc_stay st hD' hF' hO'
          obtain ⟨o7, s7⟩ := acc_put (y := y5) (vacc := vacc) (o6.wipe so3' fun _ h => h) (s'.trans st) hD0 g2 g3
          refine ⟨vacc, g1, ?_, by omega, by omega, F6, ρ5, acc ++ [v.d], vacc ++ [y5], o7, s7, g2, g3, upd_same, (DqAll.ext st.ex hacc).append (.cons d6 .nil), by rw [List.length_append]; simp; omega, htn, G_later hst hq (ρ' := ρ') st.ex hstep0 hG'⟩
          rw [hacc.length, sizeLine_eq]
          omega
      · have e : i = ds.length := by omega
        subst e
        rw [List.drop_length] at htn
        cases htn
        refine .inl ⟨hw.stops o' hG', ?_⟩
        obtain ⟨ob, sb, ab⟩ := o.back so o' s'
        refine h _ F' H' ob sb ⟨D', vacc, rfl, hF', hD', hacc, fun z => ?_, .inr hD0⟩
        rcases ab D' z with z | z
        · obtain ⟨i, xs, q1, q2⟩ := z
          obtain ⟨a, ws, h1, _, h3, _⟩ := o.ow i xs q1
          rw [h1] at q2
          cases q2
          rw [hD0] at h3
          cases h3
        · exact hO' z

theorem pd_lc1 {ok : Bool} (hc : X.calm = true) (hN : X.N.Nodup) (bk : BlkOk X.N X.env.scope scope own) (hv : own.map (·.2) = vs) (ht : ∀ i ∈ ownT t, i ∈ vs)
    (hi : PId X P XR W tg iter ops fI)
    (hg : ∀ (s : Shared) (H : Hp) (C : Addr) (cl : List (Str × Addr)) (fp : List Addr), PG (X.blk s H scope (compEnvC scope cl C X.env) fp) tg (gT X.K none (storeD t) (ownT t)))
    (hC : ∀ (s : Shared) (H : Hp) (C : Addr) (cl : List (Str × Addr)) (fp : List Addr), PTsd (X.blk s H scope (compEnvC scope cl C X.env) fp) none XR WF ifs fC)
    (he : ∀ (s : Shared) (H : Hp) (C : Addr) (cl : List (Str × Addr)) (fp : List Addr), PD (X.blk s H scope (compEnvC scope cl C X.env) fp) none XR WF elt fE)
    (hq : ok = true → QuietStep ops vs (stepG t vs fC (lastG fE))) (hs : ∀ x, foldedSetIterable iter X.env x = pure x) :
    PD X P XR W (.ListComp elt [⟨tg, iter, ifs, 0⟩] scope pos) (fun ρ => (clauseG ok t vs fI fC (lastG fE) (wipeE ρ vs) []).nox.bind fun r => .ok (.ow r.2, backE ρ r.1 vs)) := by
  have z := pe_lc (pos := pos) (te := tE X.K none XR WF fE) (tt := tT X.K none XR WF fC) hc hN hi bk hg hC he hs
  rw [hv] at z
  exact PE.imp z fun σ H Q h => lc1_imp ht hq h
theorem ps_lc1 {i : Nat} {y : Str} {py spos : Pos} {ok : Bool} (hy : X.N[i]? = some y) (hyl : X.env.scope.names.lookup y = some .local)
    (hsw : swapsWith (.ListComp elt [⟨tg, iter, ifs, 0⟩] scope pos) (some (.Name y py)) spos.line X.env = pure true) (hc : X.calm = true) (hN : X.N.Nodup) (bk : BlkOk X.N X.env.scope scope own) (hv : own.map (·.2) = vs) (ht : ∀ i ∈ ownT t, i ∈ vs)
    (hi : PId X P XR W tg iter ops fI)
    (hg : ∀ (s : Shared) (H : Hp) (C : Addr) (cl : List (Str × Addr)) (fp : List Addr), PG (X.blk s H scope (compEnvC scope cl C X.env) fp) tg (gT X.K none (storeD t) (ownT t)))
    (hC : ∀ (s : Shared) (H : Hp) (C : Addr) (cl : List (Str × Addr)) (fp : List Addr), PTsd (X.blk s H scope (compEnvC scope cl C X.env) fp) none XR WF ifs fC)
    (he : ∀ (s : Shared) (H : Hp) (C : Addr) (cl : List (Str × Addr)) (fp : List Addr), PD (X.blk s H scope (compEnvC scope cl C X.env) fp) none XR WF elt fE)
    (hq : ok = true → QuietStep ops vs (stepG t vs fC (lastG fE))) (hs : ∀ x, foldedSetIterable iter X.env x = pure x) :
    PS X (.Assign [.Name y py] (.ListComp elt [⟨tg, iter, ifs, 0⟩] scope pos) spos) (tAsg (tE X.K P XR W (fun ρ => (clauseG ok t vs fI fC (lastG fE) (wipeE ρ vs) []).nox.bind fun r => .ok (.ow r.2, backE ρ r.1 vs))) (gName i)) := by
  have z := ps_setLc (te := tE X.K none XR WF fE) (tt := tT X.K none XR WF fC) hc hN hy hyl hsw hi bk hg hC he hs
  rw [hv] at z
  exact PS.imp z fun D σ H h => lc1_imp ht hq h
theorem lc2_imp {ok ok1 : Bool} (ht : ∀ i ∈ ownT t, i ∈ vs) (hv1 : ∀ i ∈ vs1, i ∈ vs) (ht1 : ∀ i ∈ ownT t1, i ∈ vs1)
    (hq : ok = true → QuietStep ops vs (stepG t vs fC (clauseG ok1 t1 vs1 fI1 fC1 (lastG fE)))) (hq1 : ok1 = true → QuietStep ops1 vs1 (stepG t1 vs1 fC1 (lastG fE))) {σ : L2.St} {H : Hp} {Q : VK}
    (h : tE X.K P XR W (fun ρ => (clauseG ok t vs fI fC (clauseG ok1 t1 vs1 fI1 fC1 (lastG fE)) (wipeE ρ vs) []).nox.bind fun r => if fits r.2.length then .ok (.ow r.2, backE ρ r.1 vs) else .stuck) σ H Q) :
    tLc2 (tI X.K P XR W ops fI) (gT X.K none (storeD t) (ownT t)) (tT X.K none XR WF fC) (tI X.K none XR WF ops1 fI1) (gT X.K none (storeD t1) (ownT t1)) (tT X.K none XR WF fC1) (tE X.K none XR WF fE) vs vs1 σ H Q := by
  obtain ⟨F, ρ, o, h⟩ := h
  cases hr : (clauseG ok t vs fI fC (clauseG ok1 t1 vs1 fI1 fC1 (lastG fE)) (wipeE ρ vs) []).nox with
  | exc _ _ _ => revert hr; cases clauseG ok t vs fI fC (clauseG ok1 t1 vs1 fI1 fC1 (lastG fE)) (wipeE ρ vs) [] <;> intro hr <;> cases hr
  | stuck => simp only [hr] at h; exact h.elim
  | ok fin =>
    simp only [hr] at h
    have h : Fin X.K P XR W F ρ H σ (RV X.K σ) (if fits fin.2.length = true then R.ok (Vl.ow fin.2, backE ρ fin.1 vs) else .stuck) Q := h
    cases hfit : fits fin.2.length with
    | false => rw [hfit] at h; exact h.elim
    | true =>
    rw [hfit, if_pos rfl] at h
    have hfit : fin.2.length ≤ 16777216 := by have := fits_le hfit; rw [sizeLine_eq] at this; exact this
    have hr := R.nox_ok hr
    obtain ⟨⟨ds, ρ1⟩, e1, hr⟩ := R.bind_ok hr
    cases ok with
    | false => cases hr
    | true =>
    have hq := hq rfl
    have hr : turns (stepG t vs fC (clauseG ok1 t1 vs1 fI1 fC1 (lastG fE))) ds ρ1 [] = .ok fin := hr
    have grow1 : ∀ x ρ acc r, stepG t1 vs1 fC1 (lastG fE) x ρ acc = .ok r → acc.length ≤ r.2.length := grow_step grow_last
    have growC : ∀ ρ acc r, clauseG ok1 t1 vs1 fI1 fC1 (lastG fE) ρ acc = .ok r → acc.length ≤ r.2.length := fun ρ acc r h => by
      obtain ⟨q, _, h⟩ := R.bind_ok h
      split at h
      · exact grow_turns grow1 _ h
      · cases h
    have grow0 : ∀ x ρ acc r, stepG t vs fC (clauseG ok1 t1 vs1 fI1 fC1 (lastG fE)) x ρ acc = .ok r → acc.length ≤ r.2.length := grow_step growC
    refine ⟨F, wipeE ρ vs, o.wipeP, ?_⟩
    rw [e1]
    intro J F1 H1 o1 s1 ⟨hlen, G, hst, hG, hw⟩ D' hD
    have hlen : ds.length ≤ 16777216 := hlen
    have hD0 : H D' = none := s1.there D' hD
    have hF1 : F1 D' = none := Same.free o1.sub hD
    have hO1 : ¬ OwnAt ρ1 σ D' := fun ⟨i, xs, q1, q2⟩ => by
      obtain ⟨a, ws, h1, _, h3, _⟩ := o1.ow i xs q1
      rw [h1] at q2
      cases q2
      rw [hD] at h3
      cases h3
    have so : SameOut vs σ (wipe σ vs) := wipe_sameOut
    refine ⟨fun i m H' => m = ds.length - i ∧ i ≤ ds.length ∧ ∃ F' ρ' acc vacc, Ok X.K none F' (wipeE ρ' vs) (wipe σ vs) H' ∧ Step F (wipeE ρ vs) σ H F' (wipeE ρ' vs) (wipe σ vs) H' ∧ F' D' = none ∧ ¬ OwnAt (wipeE ρ' vs) (wipe σ vs) D' ∧
      H' D' = some (.lst vacc) ∧ DqAll X.K F' vacc acc ∧ turns (stepG t vs fC (clauseG ok1 t1 vs1 fI1 fC1 (lastG fE))) (ds.drop i) ρ' acc = .ok fin ∧ G F' (wipeE ρ' vs) (wipe σ vs), ⟨ds.length, by simp, Nat.zero_le _, F1, ρ1, [], [], ?_⟩, ?_⟩
    · have ow := o1.wipe so (fun _ h => h)
      have nw : ¬ OwnAt (wipeE ρ1 vs) (wipe σ vs) D' := fun z => hO1 (own_wiped so (fun _ h => h) z)
      refine ⟨ow.other hF1 nw, (s1.trans (Step.wipe so fun _ h => h)).other hD0, hF1, nw, upd_same, .nil, by rw [List.drop_zero]; exact hr, ?_⟩
      refine hst.later (Same.refl _) (fun i hi xs hx => ?_) (fun i hi v hx => ?_) hG
      · rw [wipeE_out (hq i hi).1]; exact hx
      · rw [wipe_out (hq i hi).1]; exact hx
    · rintro i m H' ⟨rfl, hi, F', ρ', acc, vacc, o', s', hF', hO', hD', hacc, htn, hG'⟩
      by_cases hlt : i < ds.length
      · refine .inr ⟨hw.goes o' hG' (d := ds[i]) (by simp [hlt]), _, fun H2 h2 => ⟨ds.length - (i + 1), by omega, h2⟩, fun x H2 y => ?_⟩
        obtain ⟨F2, o2, s2, dx⟩ := hw.yields o' hG' (d := ds[i]) (by simp [hlt]) y
        rw [drop_at hlt] at htn
        obtain ⟨r, hstep, htn⟩ := turns_cons htn
        have hstep0 := hstep
        have hgrow : r.2.length ≤ fin.2.length := grow_turns grow0 _ htn
        obtain ⟨ρ3, e3, hstep⟩ := R.opt_ok hstep
        obtain ⟨⟨b, ρ4⟩, e4, hstep⟩ := R.bind_ok hstep
        have hstep : (if b = true then clauseG ok1 t1 vs1 fI1 fC1 (lastG fE) ρ4 acc else R.ok (ρ4, acc)) = .ok r := hstep
        refine ⟨F2, wipeE ρ' vs, ds[i], ρ3, o2, dx, e3, fun σ3 o3 s3 so3 => ⟨wipe_eq so3 ht, F2, ρ3, o3, ?_⟩⟩
        rw [e4]
        intro b' F4 H4 o4 s4 eb
        have eb : b' = b := eb
        subst eb
        have so3' : SameOut vs σ3 (wipe σ vs) := ⟨so3.1.symm, fun i hi => (so3.2 i fun z => hi (ht i z)).symm⟩
        have s24 : Step F' (wipeE ρ' vs) (wipe σ vs) H' F4 ρ4 σ3 H4 := (s2.trans s3).trans s4
        cases b' with
        | false =>
          rw [if_neg Bool.false_ne_true] at hstep ⊢
          cases hstep
          have st := s24.trans (Step.wipe so3' fun _ h => h)
          obtain ⟨g1, g2, g3⟩ := acc_stay st hD' hF' hO'
          exact ⟨by omega, by omega, F4, ρ4, acc, vacc, o4.wipe so3' fun _ h => h, s'.trans st, g2, g3, g1, DqAll.ext st.ex hacc, htn, G_later hst hq (ρ' := ρ') st.ex hstep0 hG'⟩
        | true =>
          rw [if_pos rfl] at hstep ⊢
          obtain ⟨⟨ds1, ρ5⟩, e5, hstep⟩ := R.bind_ok hstep
          cases ok1 with
          | false => cases hstep
          | true =>
          have hq1 := hq1 rfl
          have hstep : turns (stepG t1 vs1 fC1 (lastG fE)) ds1 ρ5 acc = .ok r := hstep
          refine ⟨F4, ρ4, o4, ?_⟩
          rw [e5]
          intro J1 F5 H5 o5 s5 ⟨hlen1, G1, hst1, hG1, hw1⟩
          have hlen1 : ds1.length ≤ 16777216 := hlen1
          have soi : SameOut vs1 σ3 (wipe σ3 vs1) := wipe_sameOut
          have s25 := s24.trans s5
          have sti := s25.trans (Step.wipe (ρ := ρ5) (vs := vs1) soi fun _ h => h)
          obtain ⟨g1, g2, g3⟩ := acc_stay sti hD' hF' hO'
          refine ⟨fun j k H6 => k = ds1.length - j ∧ j ≤ ds1.length ∧ ∃ F6 ρ6 acc1 vacc1, Ok X.K none F6 (wipeE ρ6 vs1) (wipe σ3 vs1) H6 ∧ Step F (wipeE ρ vs) σ H F6 (wipeE ρ6 vs1) (wipe σ3 vs1) H6 ∧ Same F' F6 ∧ F6 D' = none ∧ ¬ OwnAt (wipeE ρ6 vs1) (wipe σ3 vs1) D' ∧
            H6 D' = some (.lst vacc1) ∧ DqAll X.K F6 vacc1 acc1 ∧ turns (stepG t1 vs1 fC1 (lastG fE)) (ds1.drop j) ρ6 acc1 = .ok r ∧ G1 F6 (wipeE ρ6 vs1) (wipe σ3 vs1), ⟨ds1.length, by simp, Nat.zero_le _, F5, ρ5, acc, vacc, ?_⟩, ?_⟩
          · refine ⟨o5.wipe soi fun _ h => h, s'.trans sti, sti.ex, g2, g3, g1, DqAll.ext sti.ex hacc, by rw [List.drop_zero]; exact hstep, ?_⟩
            refine hst1.later (Same.refl _) (fun i hi xs hx => ?_) (fun i hi v hx => ?_) hG1
            · rw [wipeE_out (hq1 i hi).1]; exact hx
            · rw [wipe_out (hq1 i hi).1]; exact hx
          · rintro j k H6 ⟨rfl, hj, F6, ρ6, acc1, vacc1, o6, s6, ex6, hF6, hO6, hD6, hacc1, htn1, hG6⟩
            by_cases hlt1 : j < ds1.length
            · refine .inr ⟨hw1.goes o6 hG6 (d := ds1[j]) (by simp [hlt1]), _, fun H7 h7 => ⟨ds1.length - (j + 1), by omega, h7⟩, fun x1 H7 y1 => ?_⟩
              obtain ⟨F7, o7, s7, dx1⟩ := hw1.yields o6 hG6 (d := ds1[j]) (by simp [hlt1]) y1
              rw [drop_at hlt1] at htn1
              obtain ⟨r1, hstep1, htn1⟩ := turns_cons htn1
              have hstep10 := hstep1
              have hgrow1 : r1.2.length ≤ r.2.length := grow_turns grow1 _ htn1
              obtain ⟨ρ8, e8, hstep1⟩ := R.opt_ok hstep1
              obtain ⟨⟨b1, ρ9⟩, e9, hstep1⟩ := R.bind_ok hstep1
              have hstep1 : (if b1 = true then lastG fE ρ9 acc1 else R.ok (ρ9, acc1)) = .ok r1 := hstep1
              refine ⟨F7, wipeE ρ6 vs1, ds1[j], ρ8, o7, dx1, e8, fun σ8 o8 s8 so8 => ⟨wipe_eq so8 ht1, F7, ρ8, o8, ?_⟩⟩
              rw [e9]
              intro b' F9 H9 o9 s9 eb
              have eb : b' = b1 := eb
              subst eb
              have so8' : SameOut vs1 σ8 (wipe σ3 vs1) := ⟨so8.1.symm, fun i hi => (so8.2 i fun z => hi (ht1 i z)).symm⟩
              have s69 : Step F6 (wipeE ρ6 vs1) (wipe σ3 vs1) H6 F9 ρ9 σ8 H9 := (s7.trans s8).trans s9
              cases b' with
              | false =>
                rw [if_neg Bool.false_ne_true] at hstep1 ⊢
                cases hstep1
                have st := s69.trans (Step.wipe so8' fun _ h => h)
                obtain ⟨g1, g2, g3⟩ := acc_stay st hD6 hF6 hO6
                exact ⟨by omega, by omega, F9, ρ9, acc1, vacc1, o9.wipe so8' fun _ h => h, s6.trans st, ex6.trans st.ex, g2, g3, g1, DqAll.ext st.ex hacc1, htn1, G_later hst1 hq1 (ρ' := ρ6) st.ex hstep10 hG6⟩
              | true =>
                rw [if_pos rfl] at hstep1 ⊢
                obtain ⟨⟨v, ρa⟩, ea, hstep1⟩ := R.bind_ok hstep1
                cases hstep1
                refine ⟨F9, ρ9, o9, ?_⟩
                rw [ea]
                intro ya Fa Ha oa sa rv
                obtain ⟨Fb, ob, sb, db, _⟩ := rv_known oa rv sa
                have st := (s69.trans sb).trans (Step.wipe so8' fun _ h => h)
                obtain ⟨g1, g2, g3⟩ := acc_stay st hD6 hF6 hO6
                obtain ⟨oc, sc⟩ := acc_put (y := ya) (vacc := vacc1) (ob.wipe so8' fun _ h => h) (s6.trans st) hD0 g2 g3
                refine ⟨vacc1, g1, ?_, by omega, by omega, Fb, ρa, acc1 ++ [v.d], vacc1 ++ [ya], oc, sc, ex6.trans st.ex, g2, g3, upd_same, (DqAll.ext st.ex hacc1).append (.cons db .nil), htn1, G_later hst1 hq1 (ρ' := ρ6) st.ex hstep10 hG6⟩
                have hgrow1 : (acc1 ++ [v.d]).length ≤ r.2.length := hgrow1
                rw [List.length_append] at hgrow1
                rw [hacc1.length, sizeLine_eq]
                simp at hgrow1
                omega
            · have e : j = ds1.length := by omega
              subst e
              rw [List.drop_length] at htn1
              cases htn1
              refine .inl ⟨hw1.stops o6 hG6, by omega, by omega, F6, ρ6, acc1, vacc1, ?_⟩
              -- from the inner block's slots to the outer's
              have soo : SameOut vs (wipe σ3 vs1) (wipe σ vs) := by
                refine ⟨by rw [wipe_length σ3]; exact so3'.1, fun i hi => ?_⟩
                rw [wipe_out (σ := σ3) fun z => hi (hv1 i z)]
                exact so3'.2 i hi
              have ww : ∀ {F H : Hp} , Ok X.K none F (wipeE ρ6 vs1) (wipe σ3 vs1) H → Ok X.K none F (wipeE ρ6 vs) (wipe σ vs) H := fun {F H} oo => by
                have w := oo.wipe soo (fun _ h => h)
                have e : wipeE (wipeE ρ6 vs1) vs = wipeE ρ6 vs := by
                  apply List.ext_getElem?
                  intro i
                  by_cases hi : i ∈ vs
                  · cases q : (wipeE ρ6 vs)[i]? with
                    | none =>
                      have := List.getElem?_eq_none_iff.mp q
                      rw [wipeE_len] at this
                      rw [List.getElem?_eq_none (by rw [wipeE_len, wipeE_len]; exact this)]
                    | some s =>
                      have hl := (List.getElem?_eq_some_iff.mp q).1
                      rw [wipeE_len] at hl
                      have h1 := wipeE_in hi q
                      have h2 : i < (wipeE (wipeE ρ6 vs1) vs).length := by rw [wipeE_len, wipeE_len]; exact hl
                      rw [List.getElem?_eq_getElem h2]
                      have h3 := wipeE_in hi (List.getElem?_eq_getElem h2)
                      rw [h3, h1]
                  · rw [wipeE_out hi, wipeE_out hi, wipeE_out fun z => hi (hv1 i z)]
                rw [e] at w
                exact w
              have own6 : ∀ a, OwnAt (wipeE ρ6 vs) (wipe σ vs) a → OwnAt (wipeE ρ6 vs1) (wipe σ3 vs1) a := fun a ⟨i, xs, h1, h2⟩ => by
                obtain ⟨hi, h3⟩ := wipeE_is h1 (fun z => nomatch z)
                exact ⟨i, xs, by rw [wipeE_out fun z => hi (hv1 i z)]; exact h3, by rw [← soo.2 i hi]; exact h2⟩
              have sw : Step F6 (wipeE ρ6 vs1) (wipe σ3 vs1) H6 F6 (wipeE ρ6 vs) (wipe σ vs) H6 := ⟨Same.refl _, fun _ _ h _ => h, fun _ h => .inl h, fun a h => .inl (own6 a h), fun _ h => h⟩
              exact ⟨ww o6, s6.trans sw, hF6, fun z => hO6 (own6 _ z), hD6, hacc1, htn, G_later hst hq (ρ' := ρ') ex6 hstep0 hG'⟩
      · have e : i = ds.length := by omega
        subst e
        rw [List.drop_length] at htn
        cases htn
        refine .inl ⟨hw.stops o' hG', ?_⟩
        obtain ⟨ob, sb, ab⟩ := o.back so o' s'
        refine h _ F' H' ob sb ⟨D', vacc, rfl, hF', hD', hacc, fun z => ?_, .inr hD0⟩
        rcases ab D' z with z | z
        · obtain ⟨i, xs, q1, q2⟩ := z
          obtain ⟨a, ws, h1, _, h3, _⟩ := o.ow i xs q1
          rw [h1] at q2
          cases q2
          rw [hD0] at h3
          cases h3
        · exact hO' z
theorem pd_lc2 {ok ok1 : Bool} (hc : X.calm = true) (hN : X.N.Nodup) (bk : BlkOk X.N X.env.scope scope own) (hv : own.map (·.2) = vs) (ht : ∀ i ∈ ownT t, i ∈ vs) (hv1 : ∀ i ∈ vs1, i ∈ vs) (ht1 : ∀ i ∈ ownT t1, i ∈ vs1)
    (hi : PId X P XR W tg iter ops fI)
    (hg : ∀ (s : Shared) (H : Hp) (C : Addr) (cl : List (Str × Addr)) (fp : List Addr), PG (X.blk s H scope (compEnvC scope cl C X.env) fp) tg (gT X.K none (storeD t) (ownT t)))
    (hC : ∀ (s : Shared) (H : Hp) (C : Addr) (cl : List (Str × Addr)) (fp : List Addr), PTsd (X.blk s H scope (compEnvC scope cl C X.env) fp) none XR WF ifs fC)
    (he : ∀ (s : Shared) (H : Hp) (C : Addr) (cl : List (Str × Addr)) (fp : List Addr), PD (X.blk s H scope (compEnvC scope cl C X.env) fp) none XR WF elt fE)
    (hi1 : ∀ (s : Shared) (H : Hp) (C : Addr) (cl : List (Str × Addr)) (fp : List Addr), PId (X.blk s H scope (compEnvC scope cl C X.env) fp) none XR WF tg1 iter1 ops1 fI1)
    (hg1 : ∀ (s : Shared) (H : Hp) (C : Addr) (cl : List (Str × Addr)) (fp : List Addr), PG (X.blk s H scope (compEnvC scope cl C X.env) fp) tg1 (gT X.K none (storeD t1) (ownT t1)))
    (hC1 : ∀ (s : Shared) (H : Hp) (C : Addr) (cl : List (Str × Addr)) (fp : List Addr), PTsd (X.blk s H scope (compEnvC scope cl C X.env) fp) none XR WF ifs1 fC1)
    (hq : ok = true → QuietStep ops vs (stepG t vs fC (clauseG ok1 t1 vs1 fI1 fC1 (lastG fE)))) (hq1 : ok1 = true → QuietStep ops1 vs1 (stepG t1 vs1 fC1 (lastG fE)))
    (hs : ∀ x, foldedSetIterable iter X.env x = pure x) (hs1 : ∀ env x, foldedSetIterable iter1 env x = pure x) :
    PD X P XR W (.ListComp elt [⟨tg, iter, ifs, 0⟩, ⟨tg1, iter1, ifs1, 0⟩] scope pos) (fun ρ => (clauseG ok t vs fI fC (clauseG ok1 t1 vs1 fI1 fC1 (lastG fE)) (wipeE ρ vs) []).nox.bind fun r => if fits r.2.length then .ok (.ow r.2, backE ρ r.1 vs) else .stuck) := by
  have z := pe_lc2 (pos := pos) (te := tE X.K none XR WF fE) (tt := tT X.K none XR WF fC) (tt1 := tT X.K none XR WF fC1) (wi1 := tI X.K none XR WF ops1 fI1) (g1 := gT X.K none (storeD t1) (ownT t1)) (vs1 := vs1) hc hN hi bk (fun i h => by rw [hv]; exact hv1 i h) hg hC hi1 hg1 hC1 he hs hs1
  rw [hv] at z
  exact PE.imp z fun σ H Q h => lc2_imp ht hv1 ht1 hq hq1 h
theorem ps_lc2 {i : Nat} {y : Str} {py spos : Pos} {ok ok1 : Bool} (hy : X.N[i]? = some y) (hyl : X.env.scope.names.lookup y = some .local)
    (hsw : swapsWith (.ListComp elt [⟨tg, iter, ifs, 0⟩, ⟨tg1, iter1, ifs1, 0⟩] scope pos) (some (.Name y py)) spos.line X.env = pure true) (hc : X.calm = true) (hN : X.N.Nodup) (bk : BlkOk X.N X.env.scope scope own) (hv : own.map (·.2) = vs) (ht : ∀ i ∈ ownT t, i ∈ vs) (hv1 : ∀ i ∈ vs1, i ∈ vs) (ht1 : ∀ i ∈ ownT t1, i ∈ vs1)
    (hi : PId X P XR W tg iter ops fI)
    (hg : ∀ (s : Shared) (H : Hp) (C : Addr) (cl : List (Str × Addr)) (fp : List Addr), PG (X.blk s H scope (compEnvC scope cl C X.env) fp) tg (gT X.K none (storeD t) (ownT t)))
    (hC : ∀ (s : Shared) (H : Hp) (C : Addr) (cl : List (Str × Addr)) (fp : List Addr), PTsd (X.blk s H scope (compEnvC scope cl C X.env) fp) none XR WF ifs fC)
    (he : ∀ (s : Shared) (H : Hp) (C : Addr) (cl : List (Str × Addr)) (fp : List Addr), PD (X.blk s H scope (compEnvC scope cl C X.env) fp) none XR WF elt fE)
    (hi1 : ∀ (s : Shared) (H : Hp) (C : Addr) (cl : List (Str × Addr)) (fp : List Addr), PId (X.blk s H scope (compEnvC scope cl C X.env) fp) none XR WF tg1 iter1 ops1 fI1)
    (hg1 : ∀ (s : Shared) (H : Hp) (C : Addr) (cl : List (Str × Addr)) (fp : List Addr), PG (X.blk s H scope (compEnvC scope cl C X.env) fp) tg1 (gT X.K none (storeD t1) (ownT t1)))
    (hC1 : ∀ (s : Shared) (H : Hp) (C : Addr) (cl : List (Str × Addr)) (fp : List Addr), PTsd (X.blk s H scope (compEnvC scope cl C X.env) fp) none XR WF ifs1 fC1)
    (hq : ok = true → QuietStep ops vs (stepG t vs fC (clauseG ok1 t1 vs1 fI1 fC1 (lastG fE)))) (hq1 : ok1 = true → QuietStep ops1 vs1 (stepG t1 vs1 fC1 (lastG fE)))
    (hs : ∀ x, foldedSetIterable iter X.env x = pure x) (hs1 : ∀ env x, foldedSetIterable iter1 env x = pure x) :
    PS X (.Assign [.Name y py] (.ListComp elt [⟨tg, iter, ifs, 0⟩, ⟨tg1, iter1, ifs1, 0⟩] scope pos) spos) (tAsg (tE X.K P XR W (fun ρ => (clauseG ok t vs fI fC (clauseG ok1 t1 vs1 fI1 fC1 (lastG fE)) (wipeE ρ vs) []).nox.bind fun r => if fits r.2.length then .ok (.ow r.2, backE ρ r.1 vs) else .stuck)) (gName i)) := by
  have z := ps_setLc2 (te := tE X.K none XR WF fE) (tt := tT X.K none XR WF fC) (tt1 := tT X.K none XR WF fC1) (wi1 := tI X.K none XR WF ops1 fI1) (g1 := gT X.K none (storeD t1) (ownT t1)) (vs1 := vs1) hc hN hy hyl hsw hi bk (fun i h => by rw [hv]; exact hv1 i h) hg hC hi1 hg1 hC1 he hs hs1
  rw [hv] at z
  exact PS.imp z fun D σ H h => lc2_imp ht hv1 ht1 hq hq1 h
end
end Dl
end
section
set_option linter.all false
set_option maxRecDepth 100000
set_option maxHeartbeats 4000000
/-! DlMut: methods that change a slot's list; data of the module. -/
namespace Dl
open PySem PySem.Spec PyProof.Rows L2
section
variable {K : PySem.W.Frag} {P : Option V} {F F' H H' : Hp} {ρ : Env} {σ : L2.St} {i : Nat} {a : Addr} {xs ys : List D} {vs : List V}
theorem Ok.ow' (o : Ok K P F ρ σ H) (h : owOf ρ i = some xs) : ∃ a vs, σ[i]? = some (some (.ref a)) ∧ F a = none ∧ H a = some (.lst vs) ∧ DqAll K F vs xs := o.ow i xs (ow_of h)
/-- slot i's list is changed -/
theorem Ok.write (o : Ok K P F ρ σ H) (hi : ρ[i]? = some (.ow xs)) (hb : σ[i]? = some (some (.ref a))) (d1 : DqAll K F vs ys) :
    Ok K P F (setSl ρ i (.ow ys)) σ (upd H a (.lst vs)) ∧ Step F ρ σ H F (setSl ρ i (.ow ys)) σ (upd H a (.lst vs)) := by
  have fa : F a = none := o.nofr ⟨i, xs, hi, hb⟩
  have ha : H a ≠ none := fun z => by
    obtain ⟨b, _, h1, _, h3, _⟩ := o.ow i xs hi
    rw [hb] at h1
    cases h1
    rw [z] at h3
    cases h3
  have af : After (fun c => c = a) F H F (upd H a (.lst vs)) := ⟨fun b u h => by rw [upd_ne (ne_of_none h fa)]; exact o.sub b u h, Same.refl _, fun b u h n => by rw [upd_ne n]; exact h, fun b h => .inl h, fun b h => by
    by_cases hb : b = a
    · subst hb; rw [upd_same] at h; cases h
    · rw [upd_ne hb] at h; exact h⟩
  obtain ⟨o1, s1, _⟩ := af.stepIo o hi hb fa upd_same d1
  exact ⟨o1, s1⟩
end
section
variable {X : Cx} {P : Option V} {XR : XRel} {W : WX} {e : Expr} {f : Env → R (Vl × Env)} {fo : Env → R (Op × Env)} {i : Nat} {y : Str} {apos cpos p : Pos}
abbrev appF (i : Nat) (f : Env → R (Vl × Env)) : Env → R (Vl × Env) := fun ρ => R.opt (owOf ρ i) fun _ => (f ρ).bind fun r => R.opt (owOf r.2 i) fun xs => if fits (xs.length + 1) then .ok (.fr .none, setSl r.2 i (.ow (xs ++ [r.1.d]))) else .stuck
theorem recv_ok {K : PySem.W.Frag} {F H : Hp} {ρ : Env} {σ : L2.St} {xs : List D} (o : Ok K P F ρ σ H) (h : owOf ρ i = some xs) : ∃ a, σ[i]? = some (some (.ref a)) ∧ tyV K "list" (.ref a) H := by
  obtain ⟨a, vs, h1, _, h3, _⟩ := o.ow' h
  exact ⟨a, h1, .inl ⟨rfl, vs, .inl (.inl h3)⟩⟩
theorem fin_if {K : PySem.W.Frag} {F H : Hp} {ρ : Env} {σ : L2.St} {b : Bool} {α β : Type} {RR : RRel β α} {x : R (α × Env)} {Q : β → Hp → Prop} (h : Fin K P XR W F ρ H σ RR (if b = true then x else .stuck) Q) : b = true ∧ Fin K P XR W F ρ H σ RR x Q := by
  cases b with
  | false => exact h.elim
  | true => exact ⟨rfl, h⟩
variable {m : Str} (hN : X.N[i]? = some y) (hv : Vis X.env.scope y) (hd : (y == ("__debug__" : Str)) = false) (hcd : (y == ("__classdict__" : Str)) = false)
  (hbase : attributeBase (.Name y p) m X.env (eval (.Name y p) X.env) = eval (.Name y p) X.env) (hline : (apos.endLine == cpos.line) = true)
include hN hv hd hcd hbase hline
section
variable (hm : m = "append") (hfew : ((backTo cpos (starEach [e] X.env)).all (fun x => !x.1) && (backToKw cpos (keywordEach [] X.env)).all (fun x => x.1.isSome)
      && decide ([e].length + ([] : List Keyword).length + (if ([] : List Keyword).isEmpty then 0 else 1) < 30)) = true) (hs : starEach [e] X.env = (false, eval e X.env) :: starEach [] X.env) (hpl : (backTo cpos (starEach [] X.env)).any (·.1) = false)
include hfew hs hpl
include hm in
theorem pd_app (he : PD X P XR W e f) : PD X P XR W (.Call (.Attribute (.Name y p) m apos) [e] [] cpos) (appF i f) := by
  subst hm
  refine PE.imp (pe_bm PySem.F.plainAttrs_list PySem.F.slot_list_append PySem.F.type_list_append mt_append (pe_var hN hv hd hcd) (pa_cons he pa_nil hs) hbase hfew hline hs hpl) fun σ H Q ⟨F, ρ, ok, q⟩ => ?_
  obtain ⟨xs0, h0, q⟩ := Fin.opt q
  obtain ⟨a, ha, ty⟩ := recv_ok ok h0
  refine ⟨.ref a, ha, ty, F, ρ, ok, ?_⟩
  refine Fin.mono (Fin.bind0 (RR := RV X.K σ) q) fun v H1 z => ?_
  obtain ⟨F1, ρ1, a1, _, o1, s1, r1, q1⟩ := z
  obtain ⟨xs, h1, q1⟩ := Fin.opt q1
  obtain ⟨hf, q1⟩ := fin_if q1
  obtain ⟨F2, o2, s2, d2, _⟩ := rv_known o1 r1 s1
  obtain ⟨b, vs, hb, _, g3, g4⟩ := o2.ow' h1
  rw [ha] at hb
  cases hb
  obtain ⟨o3, s3⟩ := o2.write (ow_of h1) ha (g4.append (.cons d2 .nil))
  have hz := fits_le hf
  refine ⟨a, vs, v, rfl, rfl, g3, by rw [g4.length]; omega, q1 _ F2 _ o3 (s2.trans s3) .non⟩
end
abbrev extF (i : Nat) (f : Env → R (Op × Env)) : Env → R (Vl × Env) := fun ρ => R.opt (owOf ρ i) fun _ => (f ρ).bind fun r => R.opt (owOf r.2 i) fun xs => R.opt (exD r.2 r.1) fun ys => if fits (xs.length + ys.length) then .ok (.fr .none, setSl r.2 i (.ow (xs ++ ys))) else .stuck
section
variable (hm : m = "extend") (hfew : ((backTo cpos (starEach [e] X.env)).all (fun x => !x.1) && (backToKw cpos (keywordEach [] X.env)).all (fun x => x.1.isSome)
      && decide ([e].length + ([] : List Keyword).length + (if ([] : List Keyword).isEmpty then 0 else 1) < 30)) = true) (hs : starEach [e] X.env = (false, eval e X.env) :: starEach [] X.env) (hpl : (backTo cpos (starEach [] X.env)).any (·.1) = false)
include hfew hs hpl
include hm in
theorem pd_ext (he : PO' X P XR W e fo) : PD X P XR W (.Call (.Attribute (.Name y p) m apos) [e] [] cpos) (extF i fo) := by
  subst hm
  refine PE.imp (pe_bm PySem.F.plainAttrs_list PySem.F.slot_list_extend PySem.F.type_list_extend mt_extend (pe_var hN hv hd hcd) (pa_cons he pa_nil hs) hbase hfew hline hs hpl) fun σ H Q ⟨F, ρ, ok, q⟩ => ?_
  obtain ⟨xs0, h0, q⟩ := Fin.opt q
  obtain ⟨a, ha, ty⟩ := recv_ok ok h0
  refine ⟨.ref a, ha, ty, F, ρ, ok, ?_⟩
  refine Fin.mono (Fin.bind0 (RR := RO X.K σ) q) fun v H1 z => ?_
  obtain ⟨F1, ρ1, a1, _, o1, s1, r1, q1⟩ := z
  obtain ⟨xs, h1, q1⟩ := Fin.opt q1
  obtain ⟨ys, h2, q1⟩ := Fin.opt q1
  obtain ⟨hf, q1⟩ := fin_if q1
  obtain ⟨b, vs, hb, _, g3, g4⟩ := o1.ow' h1
  rw [ha] at hb
  cases hb
  have key : ∃ b ws, v = .ref b ∧ H1 b = some (.lst ws) ∧ DqAll X.K F1 ws ys := by
    cases a1 with
    | vl x =>
      cases x with
      | fr d => cases h2
      | ow zs =>
        cases h2
        obtain ⟨p, ws, rfl, _, k3, k4, _⟩ := r1
        exact ⟨p, ws, rfl, k3, k4⟩
    | sl j =>
      obtain ⟨p, ws, k1, _, k3, k4⟩ := o1.ow' h2
      have r1 : σ[j]? = some (some v) := r1
      rw [r1] at k1
      cases k1
      exact ⟨p, ws, rfl, k3, k4⟩
  obtain ⟨b, ws, rfl, k3, k4⟩ := key
  obtain ⟨o3, s3⟩ := o1.write (ow_of h1) ha (g4.append k4)
  exact ⟨a, b, vs, ws, rfl, rfl, g3, k3, by rw [g4.length, k4.length]; exact fits_le hf, q1 _ F1 _ o3 (s1.trans s3) .non⟩
end
theorem getLast_of {α : Type} {xs : List α} {d : α} (h : xs.getLast? = some d) : xs[xs.length - 1]? = some d := by
  rw [List.getLast?_eq_getElem?] at h
  exact h
section
variable (hm : m = "pop")
include hm
theorem pd_pop0 : PD X P XR W (.Call (.Attribute (.Name y p) m apos) [] [] cpos) (fun ρ => R.opt (owOf ρ i) fun xs => R.opt (xs.getLast?) fun d => .ok (.fr d, setSl ρ i (.ow xs.dropLast))) := by
  subst hm
  refine PE.imp (pe_bm0 PySem.F.plainAttrs_list PySem.F.slot_list_pop PySem.F.type_list_pop mt_pop (pe_var hN hv hd hcd) hbase hline) fun σ H Q ⟨F, ρ, ok, q⟩ => ?_
  obtain ⟨xs, h0, q⟩ := Fin.opt q
  obtain ⟨d, h1, q⟩ := Fin.opt q
  obtain ⟨a, ha, ty⟩ := recv_ok ok h0
  obtain ⟨b, vs, hb, _, g3, g4⟩ := ok.ow' h0
  rw [ha] at hb
  cases hb
  obtain ⟨v, k1, k2⟩ := g4.get (List.getLast?_eq_getElem? ▸ h1)
  obtain ⟨o3, s3⟩ := ok.write (ow_of h0) ha g4.dropLast
  exact ⟨.ref a, ha, ty, a, vs, v, rfl, rfl, g3, by rw [g4.length]; exact k1, q _ F _ o3 s3 k2⟩
end
abbrev popF (i : Nat) (f : Env → R (Vl × Env)) : Env → R (Vl × Env) := fun ρ => R.opt (owOf ρ i) fun _ => (f ρ).bind fun r => R.opt (owOf r.2 i) fun xs => R.opt (intOf r.1) fun k => R.opt (ixN xs.length k) fun j => R.opt (xs[j]?) fun d => .ok (.fr d, setSl r.2 i (.ow (xs.eraseIdx j)))
section
variable (hm : m = "pop") (hfew : ((backTo cpos (starEach [e] X.env)).all (fun x => !x.1) && (backToKw cpos (keywordEach [] X.env)).all (fun x => x.1.isSome)
      && decide ([e].length + ([] : List Keyword).length + (if ([] : List Keyword).isEmpty then 0 else 1) < 30)) = true) (hs : starEach [e] X.env = (false, eval e X.env) :: starEach [] X.env) (hpl : (backTo cpos (starEach [] X.env)).any (·.1) = false)
include hfew hs hpl
include hm in
theorem pd_pop1 (he : PD X P XR W e f) : PD X P XR W (.Call (.Attribute (.Name y p) m apos) [e] [] cpos) (popF i f) := by
  subst hm
  refine PE.imp (pe_bm PySem.F.plainAttrs_list PySem.F.slot_list_pop PySem.F.type_list_pop mt_popAt (pe_var hN hv hd hcd) (pa_cons (pe_bnd he) pa_nil hs) hbase hfew hline hs hpl) fun σ H Q ⟨F, ρ, ok, q⟩ => ?_
  obtain ⟨xs0, h0, q⟩ := Fin.opt q
  obtain ⟨a, ha, ty⟩ := recv_ok ok h0
  refine ⟨.ref a, ha, ty, F, ρ, ok, ?_⟩
  refine Fin.mono (Fin.bind0 (RR := RV X.K σ) q) fun v H1 z bd => ?_
  obtain ⟨F1, ρ1, a1, _, o1, s1, r1, q1⟩ := z
  obtain ⟨xs, h1, q1⟩ := Fin.opt q1
  obtain ⟨k, h2, q1⟩ := Fin.opt q1
  obtain ⟨j, h3, q1⟩ := Fin.opt q1
  obtain ⟨d, h4, q1⟩ := Fin.opt q1
  obtain ⟨b, vs, hb, _, g3, g4⟩ := o1.ow' h1
  rw [ha] at hb
  cases hb
  obtain ⟨w, k1, k2⟩ := g4.get h4
  obtain ⟨o3, s3⟩ := o1.write (ow_of h1) ha (g4.erase j)
  have hk : v = .int k := by
    cases a1 with
    | ow _ => cases h2
    | fr d => cases d with
      | int i => cases h2; cases r1; rfl
      | _ => cases h2
  subst hk
  have hb2 := bd a vs (.inl (.inl (.inl g3)))
  rw [g4.length] at hb2
  obtain ⟨z1, z2, z3, z4⟩ := ixN_seq h3
  refine ⟨a, vs, k, j, w, rfl, rfl, g3, by omega, by omega, by rw [g4.length]; exact z1, k1, q1 _ F1 _ o3 (s1.trans s3) k2⟩
end
end
end Dl
end
section
set_option linter.all false
set_option maxRecDepth 100000
set_option maxHeartbeats 4000000
/-! DlStm: statements. -/
namespace Dl
open PySem PySem.Spec PyProof.Rows L2
/-- a value that comes out, seen from the start -/
def RVr (K : PySem.W.Frag) (σ₀ : L2.St) (ρ₀ : Env) (H₀ F H : Hp) (ρ : Env) (σ : L2.St) (u : V) : Vl → Prop
  | .fr d => Dq K F u d
  | .ow xs => ∃ p vs, u = .ref p ∧ F p = none ∧ H p = some (.lst vs) ∧ DqAll K F vs xs ∧ ¬ OwnAt ρ σ p ∧ (OwnAt ρ₀ σ₀ p ∨ H₀ p = none)
def FinS (K : PySem.W.Frag) (P : Option V) (XR : XRel) (W : WX) (F : Hp) (ρ : Env) (H : Hp) (σ : L2.St) (o : Out) (D : Ends) : Prop := match o with
  | .next ρ' => ∀ F' σ' H', Ok K P F' ρ' σ' H' → Step F ρ σ H F' ρ' σ' H' → D.nx σ' H'
  | .brk ρ' => ∀ F' σ' H', Ok K P F' ρ' σ' H' → Step F ρ σ H F' ρ' σ' H' → D.bk σ' H'
  | .cont ρ' => ∀ F' σ' H', Ok K P F' ρ' σ' H' → Step F ρ σ H F' ρ' σ' H' → D.ct σ' H'
  | .ret v ρ' => ∀ u F' σ' H', Ok K P F' ρ' σ' H' → Step F ρ σ H F' ρ' σ' H' → RVr K σ ρ H F' H' ρ' σ' u v → D.rt u H'
  | .exc c xs ρ' => ∀ cls d F' σ' H', Ok K P F' ρ' σ' H' → Step F ρ σ H F' ρ' σ' H' → XR F' H' cls d c xs → W cls d σ' H'
  | .stuck => False
def tS (K : PySem.W.Frag) (P : Option V) (XR : XRel) (W : WX) (f : Env → Out) : TS := fun D σ H => ∃ F ρ, Ok K P F ρ σ H ∧ FinS K P XR W F ρ H σ (f ρ) D
abbrev PSd (X : Cx) (P : Option V) (XR : XRel) (W : WX) (st : Stmt) (f : Env → Out) : Prop := PS X st (tS X.K P XR W f)
abbrev PSsd (X : Cx) (P : Option V) (XR : XRel) (W : WX) (st : List Stmt) (f : Env → Out) : Prop := PSs X st (tS X.K P XR W f)
section
variable {K : PySem.W.Frag} {P : Option V} {XR : XRel} {W : WX} {F F1 H H1 : Hp} {ρ ρ1 : Env} {σ σ1 : L2.St} {D : Ends} {o : Out}
theorem FinS.shift (s : Step F ρ σ H F1 ρ1 σ1 H1) (h : FinS K P XR W F ρ H σ o D) : FinS K P XR W F1 ρ1 H1 σ1 o D := by
  cases o with
  | next ρ' => exact fun F' σ' H' ok s' => h F' σ' H' ok (s.trans s')
  | brk ρ' => exact fun F' σ' H' ok s' => h F' σ' H' ok (s.trans s')
  | cont ρ' => exact fun F' σ' H' ok s' => h F' σ' H' ok (s.trans s')
  | ret v ρ' =>
    intro u F' σ' H' ok s' r
    refine h u F' σ' H' ok (s.trans s') ?_
    cases v with
    | fr d => exact r
    | ow xs =>
      obtain ⟨p, vs, h1, h2, h3, h4, h5, h6⟩ := r
      refine ⟨p, vs, h1, h2, h3, h4, h5, ?_⟩
      rcases h6 with q | q
      · exact s.own p q
      · exact .inr (s.there p q)
  | exc c xs ρ' => exact fun cls d F' σ' H' ok s' => h cls d F' σ' H' ok (s.trans s')
  | stuck => exact h
/-- an expression, then what is made of it -/
theorem FinS.ofR {α β : Type} {RR : RRel β α} {r : R (α × Env)} {g : α × Env → Out} (h : FinS K P XR W F ρ H σ (r.out g) D) :
    Fin K P XR W F ρ H σ RR r fun v H1 => ∃ F1 ρ1 a, r = .ok (a, ρ1) ∧ Ok K P F1 ρ1 σ H1 ∧ Step F ρ σ H F1 ρ1 σ H1 ∧ RR ρ H F1 H1 ρ1 v a ∧ FinS K P XR W F ρ H σ (g (a, ρ1)) D := by
  cases r with
  | ok a => exact fun v F' H' o s q => ⟨F', a.2, a.1, rfl, o, s, q, h⟩
  | exc c xs ρ' => exact fun cls d F' H' o s q => h cls d F' σ H' o s q
  | stuck => exact h
theorem FinS.ofR1 {α β : Type} {RR : RRel β α} {F0 H0 : Hp} {ρ0 : Env} {σ0 : L2.St} {r : R (α × Env)} {g : α × Env → Out} (s0 : Step F0 ρ0 σ0 H0 F ρ σ H) (h : FinS K P XR W F0 ρ0 H0 σ0 (r.out g) D) :
    Fin K P XR W F ρ H σ RR r fun v H1 => ∃ F1 ρ1 a, r = .ok (a, ρ1) ∧ Ok K P F1 ρ1 σ H1 ∧ Step F ρ σ H F1 ρ1 σ H1 ∧ RR ρ H F1 H1 ρ1 v a ∧ FinS K P XR W F0 ρ0 H0 σ0 (g (a, ρ1)) D := by
  cases r with
  | ok a => exact fun v F' H' o s q => ⟨F', a.2, a.1, rfl, o, s, q, h⟩
  | exc c xs ρ' => exact fun cls d F' H' o s q => h cls d F' σ H' o (s0.trans s) q
  | stuck => exact h
theorem FinS.opt {α : Type} {x : Option α} {g : α → Out} (h : FinS K P XR W F ρ H σ (optOut x g) D) : ∃ a, x = some a ∧ FinS K P XR W F ρ H σ (g a) D := by
  cases x with
  | none => exact h.elim
  | some a => exact ⟨a, rfl, h⟩
/-- a value goes to slot i -/
theorem Ok.putV {F0 H0 : Hp} {ρ0 : Env} {σ0 : L2.St} {i : Nat} {u : V} {v : Vl} (o : Ok K P F ρ σ H) (s : Step F0 ρ0 σ0 H0 F ρ σ H) (r : RVr K σ0 ρ0 H0 F H ρ σ u v) (hp : P = none ∨ 0 ≠ i) :
    Ok K P F (setSl ρ i v.sl) (σ.set i (some u)) H ∧ Step F0 ρ0 σ0 H0 F (setSl ρ i v.sl) (σ.set i (some u)) H := by
  cases v with
  | fr d =>
    obtain ⟨o1, s1⟩ := o.put (i := i) r hp
    exact ⟨o1, s.trans s1⟩
  | ow xs =>
    obtain ⟨p, vs, rfl, hf, hH, dv, no, fresh⟩ := r
    have back : ∀ (j : Nat) (zs : List _root_.Dl.D), (setSl ρ i (.ow xs))[j]? = some (.ow zs) → (j = i ∧ zs = xs ∧ i < ρ.length) ∨ (j ≠ i ∧ ρ[j]? = some (.ow zs)) := fun j zs q => by
      unfold setSl at q
      by_cases hj : i = j
      · subst hj
        rw [List.getElem?_set, if_pos rfl] at q
        split at q
        · rename_i hl; cases q; exact .inl ⟨rfl, rfl, hl⟩
        · cases q
      · rw [List.getElem?_set_ne hj] at q
        exact .inr ⟨Ne.symm hj, q⟩
    have own' : ∀ a, OwnAt (setSl ρ i (.ow xs)) (σ.set i (some (.ref p))) a → a = p ∨ OwnAt ρ σ a := fun a ⟨j, zs, q1, q2⟩ => by
      rcases back j zs q1 with ⟨rfl, _, hl⟩ | ⟨hj, q⟩
      · rw [List.getElem?_set_self (by rw [← o.len]; exact hl)] at q2
        cases q2
        exact .inl rfl
      · rw [List.getElem?_set_ne (Ne.symm hj)] at q2
        exact .inr ⟨j, zs, q, q2⟩
    refine ⟨⟨o.sub, ?_, fun j e q => ?_, fun j zs q => ?_, fun j k zs ws c q1 q2 s1 s2 => ?_, fun w hw => ?_⟩, ⟨s.ex, s.keep, s.new, fun a h => ?_, s.there⟩⟩
    · show (setSl ρ i (.ow xs)).length = _
      unfold setSl; rw [List.length_set, List.length_set]; exact o.len
    · have q : (setSl ρ i (.ow xs))[j]? = some (.fr e) := q
      unfold setSl at q
      by_cases hj : i = j
      · subst hj
        rw [List.getElem?_set, if_pos rfl] at q
        split at q <;> cases q
      · rw [List.getElem?_set_ne hj] at q ⊢
        exact o.fr j e q
    · rcases back j zs q with ⟨rfl, rfl, hl⟩ | ⟨hj, q⟩
      · exact ⟨p, vs, by rw [List.getElem?_set_self (by rw [← o.len]; exact hl)], hf, hH, dv⟩
      · rw [List.getElem?_set_ne (Ne.symm hj)]
        exact o.ow j zs q
    · rcases back j zs q1 with ⟨rfl, _, hl⟩ | ⟨hj, q1⟩
      · rw [List.getElem?_set_self (by rw [← o.len]; exact hl)] at s1
        cases s1
        rcases back k ws q2 with ⟨e, _, _⟩ | ⟨hk, q2⟩
        · exact e.symm
        · rw [List.getElem?_set_ne (Ne.symm hk)] at s2
          exact absurd ⟨k, ws, q2, s2⟩ no
      · rw [List.getElem?_set_ne (Ne.symm hj)] at s1
        rcases back k ws q2 with ⟨rfl, _, hl⟩ | ⟨hk, q2⟩
        · rw [List.getElem?_set_self (by rw [← o.len]; exact hl)] at s2
          cases s2
          exact (no ⟨j, zs, by assumption, s1⟩).elim
        · rw [List.getElem?_set_ne (Ne.symm hk)] at s2
          exact o.inj j k zs ws c q1 q2 s1 s2
    · rcases hp with z | z
      · rw [z] at hw; cases hw
      · rw [List.getElem?_set_ne (Ne.symm z)]
        exact o.pin w hw
    · rcases own' a h with rfl | h
      · exact fresh
      · exact s.own a h
end
section
variable {X : Cx} {P : Option V} {XR : XRel} {W : WX} {st : Stmt} {sts a b body : List Stmt} {e c : Expr} {f : Env → R (Vl × Env)} {t : Env → R (Bool × Env)} {g h : Env → Out} {pos pos' : Pos} {i : Nat} {x : Str}
theorem pssd_nil : PSsd X P XR W [] .next := PSs.imp pss_nil fun D σ H ⟨F, ρ, ok, q⟩ => q F σ H ok Step.refl
theorem pssd_cons (h1 : PSd X P XR W st g) (h2 : PSsd X P XR W sts h) : PSsd X P XR W (st :: sts) (fun ρ => match g ρ with
    | .next ρ' => h ρ'
    | o => o) := PSs.imp (pss_cons h1 h2) fun D σ H ⟨F, ρ, ok, q⟩ => by
  refine ⟨F, ρ, ok, ?_⟩
  cases hg : g ρ with
  | next ρ' =>
    simp only [hg] at q
    exact fun F' σ' H' o' s' => ⟨F', ρ', o', FinS.shift s' q⟩
  | _ => simp only [hg] at q; exact q
theorem psd_pass : PSd X P XR W (.Pass pos) .next := PS.imp ps_pass fun D σ H ⟨F, ρ, ok, q⟩ => q F σ H ok Step.refl
theorem psd_brk : PSd X P XR W (.Break pos) .brk := PS.imp ps_break fun D σ H ⟨F, ρ, ok, q⟩ => q F σ H ok Step.refl
theorem psd_cont : PSd X P XR W (.Continue pos) .cont := PS.imp ps_continue fun D σ H ⟨F, ρ, ok, q⟩ => q F σ H ok Step.refl
theorem psd_doc {j : Nat} {z : Str} : PSd X P XR W (.Expr (.Constant (.str z) j pos) pos') .next := PS.imp ps_doc fun D σ H ⟨F, ρ, ok, q⟩ => q F σ H ok Step.refl
theorem psd_ex (he : PD X P XR W e f) (hs : swapsWith e none pos.line X.env = pure false) : PSd X P XR W (.Expr e pos) (fun ρ => (f ρ).out fun r => .next r.2) := PS.imp (ps_expr he hs) fun D σ H ⟨F, ρ, ok, q⟩ => by
  refine ⟨F, ρ, ok, ?_⟩
  refine Fin.mono (FinS.ofR (RR := RV X.K σ) q) fun v H1 z => ?_
  obtain ⟨F1, ρ1, a1, _, o1, s1, r1, q1⟩ := z
  exact q1 F1 σ H1 o1 s1
theorem rv_r {K : PySem.W.Frag} {σ : L2.St} {ρ0 ρ : Env} {H0 F H : Hp} {u : V} {v : Vl} (r : RV K σ ρ0 H0 F H ρ u v) : RVr K σ ρ0 H0 F H ρ σ u v := by
  cases v with
  | fr d => exact r
  | ow xs => exact r
theorem psd_ret (he : PD X P XR W e f) : PSd X P XR W (.Return (some e) pos) (fun ρ => (f ρ).out fun r => .ret r.1 r.2) := PS.imp (ps_ret he) fun D σ H ⟨F, ρ, ok, q⟩ => by
  refine ⟨F, ρ, ok, ?_⟩
  refine Fin.mono (FinS.ofR (RR := RV X.K σ) q) fun v H1 z => ?_
  obtain ⟨F1, ρ1, a1, _, o1, s1, r1, q1⟩ := z
  exact q1 v F1 σ H1 o1 s1 (rv_r r1)
theorem psd_retf (he : PD X P XR W e f) : PSd X P XR W (.Return (some e) pos) (fun ρ => (f ρ).out fun r => .ret (.fr r.1.d) r.2) := PS.imp (ps_ret he) fun D σ H ⟨F, ρ, ok, q⟩ => by
  refine ⟨F, ρ, ok, ?_⟩
  refine Fin.mono (FinS.ofR (RR := RV X.K σ) q) fun v H1 z => ?_
  obtain ⟨F1, ρ1, a1, _, o1, s1, r1, q1⟩ := z
  obtain ⟨F2, o2, s2, d2, _⟩ := rv_known o1 r1 s1
  exact q1 v F2 σ H1 o2 s2 d2
theorem psd_retN : PSd X P XR W (.Return none pos) (fun ρ => .ret (.fr .none) ρ) := PS.imp ps_retN fun D σ H ⟨F, ρ, ok, q⟩ => q .non F σ H ok Step.refl .non
theorem psd_if (hc : PTd X P XR W c t) (ha : PSsd X P XR W a g) (hb : PSsd X P XR W b h) : PSd X P XR W (.If c a b pos) (fun ρ => (t ρ).out fun r => if r.1 then g r.2 else h r.2) := PS.imp (ps_if hc ha hb) fun D σ H ⟨F, ρ, ok, q⟩ => by
  refine ⟨F, ρ, ok, ?_⟩
  refine Fin.mono (FinS.ofR (RR := RB) q) fun v H1 z => ?_
  obtain ⟨F1, ρ1, a1, _, o1, s1, r1, q1⟩ := z
  have e : v = a1 := r1
  subst e
  cases v with
  | true => exact ⟨F1, ρ1, o1, FinS.shift s1 q1⟩
  | false => exact ⟨F1, ρ1, o1, FinS.shift s1 q1⟩
/-- a store of what may be new, of what all know -/
theorem asg_v {te : TE} (hT : ∀ σ H Q, tE X.K P XR W f σ H Q → te σ H Q) (hs : PS X st (tAsg te (gName i))) (hp : P = none ∨ 0 ≠ i) : PSd X P XR W st (fun ρ => (f ρ).out fun r => optOut (storeV (.nm i) r.1 r.2) .next) := PS.imp hs fun D σ H ⟨F, ρ, ok, q⟩ => by
  refine hT σ H _ ⟨F, ρ, ok, ?_⟩
  refine Fin.mono (FinS.ofR (RR := RV X.K σ) q) fun v H1 z => ?_
  obtain ⟨F1, ρ1, a1, _, o1, s1, r1, q1⟩ := z
  obtain ⟨o2, s2⟩ := o1.putV s1 (rv_r r1) hp
  exact q1 F1 _ H1 o2 s2
theorem asg_f {te : TE} (hT : ∀ σ H Q, tE X.K P XR W f σ H Q → te σ H Q) (hs : PS X st (tAsg te (gName i))) (hp : P = none ∨ 0 ≠ i) : PSd X P XR W st (fun ρ => (f ρ).out fun r => optOut (storeD (.nm i) r.1.d r.2) .next) := PS.imp hs fun D σ H ⟨F, ρ, ok, q⟩ => by
  refine hT σ H _ ⟨F, ρ, ok, ?_⟩
  refine Fin.mono (FinS.ofR (RR := RV X.K σ) q) fun v H1 z => ?_
  obtain ⟨F1, ρ1, a1, _, o1, s1, r1, q1⟩ := z
  obtain ⟨F2, o2, s2, d2, _⟩ := rv_known o1 r1 s1
  obtain ⟨o3, s3⟩ := o2.put (i := i) d2 hp
  exact q1 F2 _ H1 o3 (s2.trans s3)
/-- any target -/
theorem psd_tgt {tg : Expr} {vs : List Nat} {st' : _root_.Dl.D → Env → Option Env} (he : PD X P XR W e f) (hg : PG X tg (gT X.K P st' vs)) (hs : swapsWithSole [tg] e pos.line X.env = pure false) (hw : swappedStores [tg] e X.env = pure none)
    (h1 : (assignEach [tg] X.env).map (·.2) = [assign tg X.env]) : PSd X P XR W (.Assign [tg] e pos) (fun ρ => (f ρ).out fun r => optOut (st' r.1.d r.2) .next) := PS.imp (ps_asg he hg hs hw h1) fun D σ H ⟨F, ρ, ok, q⟩ => by
  refine ⟨F, ρ, ok, ?_⟩
  refine Fin.mono (FinS.ofR (RR := RV X.K σ) q) fun v H1 z => ?_
  obtain ⟨F1, ρ1, a1, _, o1, s1, r1, q1⟩ := z
  obtain ⟨F2, o2, s2, d2, _⟩ := rv_known o1 r1 s1
  obtain ⟨ρ', e2, q2⟩ := FinS.opt q1
  exact ⟨F2, ρ1, a1.d, ρ', o2, d2, e2, fun σ' o3 s3 _ => q2 F2 σ' H1 o3 (s2.trans s3)⟩
/-- name[k] = e -/
theorem psd_sub {k : Expr} {fk : Env → R (Vl × Env)} {p2 tpos : Pos} (hN : X.N[i]? = some x) (hv : Vis X.env.scope x) (hd : (x == ("__debug__" : Str)) = false) (hcd : (x == ("__classdict__" : Str)) = false) (he : PD X P XR W e f) (hk : PD X P XR W k fk)
    (ha : ∀ v, assign (.Subscript (.Name x p2) k tpos) X.env v = (do
      let ov ← holding [v] (eval (.Name x p2) X.env)
      let iv ← holding [v, ov] (eval k X.env)
      standAt tpos
      holding [v, ov, iv] (setItem ov iv v)
      release [v, ov, iv] []))
    (hs : swapsWithSole [.Subscript (.Name x p2) k tpos] e pos.line X.env = pure false) (hw : swappedStores [.Subscript (.Name x p2) k tpos] e X.env = pure none)
    (h1 : (assignEach [.Subscript (.Name x p2) k tpos] X.env).map (·.2) = [assign (.Subscript (.Name x p2) k tpos) X.env]) :
    PSd X P XR W (.Assign [.Subscript (.Name x p2) k tpos] e pos) (fun ρ => (f ρ).out fun r => optOut (owOf r.2 i) fun _ => (fk r.2).out fun q => optOut (owOf q.2 i) fun xs => optOut (intOf q.1) fun j => optOut (ixN xs.length j) fun m => .next (setSl q.2 i (.ow (xs.set m r.1.d)))) :=
  PS.imp (ps_asg he (pg_sub (pe_var hN hv hd hcd) hk set_list ha) hs hw h1) fun D σ H ⟨F, ρ, ok, q⟩ => by
  refine ⟨F, ρ, ok, ?_⟩
  refine Fin.mono (FinS.ofR (RR := RV X.K σ) q) fun v H1 z => ?_
  obtain ⟨F1, ρ1, a1, _, o1, s1, r1, q1⟩ := z
  obtain ⟨F2, o2, s2, d2, _⟩ := rv_known o1 r1 s1
  obtain ⟨xs0, e0, q1⟩ := FinS.opt q1
  obtain ⟨p, vs, hp, _⟩ := o2.ow' e0
  refine ⟨.ref p, hp, F2, ρ1, o2, ?_⟩
  refine Fin.mono (FinS.ofR1 (RR := RV X.K σ) s2 q1) fun w H3 z => ?_
  obtain ⟨F3, ρ3, a3, _, o3, s3, r3, q3⟩ := z
  obtain ⟨xs, e1, q3⟩ := FinS.opt q3
  obtain ⟨j, e2, q3⟩ := FinS.opt q3
  obtain ⟨m, e3, q3⟩ := FinS.opt q3
  obtain ⟨p', vs', hp', _, g3, g4⟩ := o3.ow' e1
  rw [hp] at hp'
  cases hp'
  have hw : w = .int j := by
    cases a3 with
    | ow _ => cases e2
    | fr d => cases d with
      | int i => cases e2; cases r3; rfl
      | _ => cases e2
  subst hw
  obtain ⟨o4, s4⟩ := o3.write (ow_of e1) hp (g4.set (Dq.ext s3.ex d2) m)
  exact ⟨p, vs', j, m, rfl, rfl, g3, by rw [g4.length]; exact e3, q3 F3 σ _ o4 ((s2.trans s3).trans s4)⟩
/-! ### loops -/
theorem psd_for {tg iter : Expr} {tt : T} {vs : List Nat} {st' : _root_.Dl.D → Env → Option Env} {fI : Env → R (List _root_.Dl.D × Env)} (hp : PassesOwn (model X.prog X.w) X.A X.env X.xe) (hc : X.calm = true) (hi : PId X P XR W tg iter [] fI) (hg : PG X tg (gT X.K P st' vs)) (hb : PSsd X P XR W body g)
    (hs : ∀ x, foldedSetIterable iter X.env x = pure x) : PSd X P XR W (.For tg iter body [] pos) (fun ρ => (fI ρ).out fun r => loopF (fun x ρ => optOut (st' x ρ) fun ρ1 => g ρ1) r.1 r.2) :=
  PS.imp (ps_for hp hc hi hg hb hs) fun D σ H ⟨F, ρ, ok, q⟩ => by
  refine ⟨F, ρ, ok, ?_⟩
  refine Fin.mono (FinS.ofR (RR := RI X.K σ []) q) fun J H1 z => ?_
  obtain ⟨F1, ρ1, ds, _, o1, s1, ⟨_, G, hst, hG, hw⟩, q1⟩ := z
  refine ⟨fun i m σ' H' => m = ds.length - i ∧ i ≤ ds.length ∧ ∃ F' ρ', Ok X.K P F' ρ' σ' H' ∧ Step F ρ σ H F' ρ' σ' H' ∧ G F' ρ' σ' ∧ FinS X.K P XR W F ρ H σ (loopF (fun x ρ => optOut (st' x ρ) fun ρ1 => g ρ1) (ds.drop i) ρ') D,
    ⟨ds.length, by simp, Nat.zero_le _, F1, ρ1, o1, s1, hG, by rw [List.drop_zero]; exact q1⟩, ?_⟩
  rintro i m σ' H' ⟨rfl, hi, F', ρ', o', s', hG', q'⟩
  by_cases hlt : i < ds.length
  · refine .inr ⟨hw.goes o' hG' (d := ds[i]) (by simp [hlt]), _, fun σ2 H2 h2 => ⟨ds.length - (i + 1), by omega, h2⟩, fun x H2 y => ?_⟩
    obtain ⟨F2, o2, s2, dx⟩ := hw.yields o' hG' (d := ds[i]) (by simp [hlt]) y
    rw [drop_at hlt] at q'
    unfold loopF at q'
    cases e3 : st' ds[i] ρ' with
    | none => simp only [e3, optOut] at q'; exact q'.elim
    | some ρ3 =>
      simp only [e3, optOut] at q'
      refine ⟨F2, ρ', ds[i], ρ3, o2, dx, e3, fun σ3 o3 s3 _ => ⟨F2, ρ3, o3, ?_⟩⟩
      have s03 := (s'.trans s2).trans s3
      have more : ∀ {ρ4 : Env}, FinS X.K P XR W F ρ H σ (loopF (fun x ρ => optOut (st' x ρ) fun ρ1 => g ρ1) (ds.drop (i + 1)) ρ4) D → ∀ F4 σ4 H4, Ok X.K P F4 ρ4 σ4 H4 → Step F2 ρ3 σ3 H2 F4 ρ4 σ4 H4 →
          ds.length - (i + 1) = ds.length - (i + 1) ∧ i + 1 ≤ ds.length ∧ ∃ F' ρ', Ok X.K P F' ρ' σ4 H4 ∧ Step F ρ σ H F' ρ' σ4 H4 ∧ G F' ρ' σ4 ∧ FinS X.K P XR W F ρ H σ (loopF (fun x ρ => optOut (st' x ρ) fun ρ1 => g ρ1) (ds.drop (i + 1)) ρ') D :=
        fun {ρ4} q4 F4 σ4 H4 o4 s4 => ⟨rfl, by omega, F4, ρ4, o4, s03.trans s4, hst.later ((s2.trans s3).trans s4).ex (fun _ h => nomatch h) (fun _ h => nomatch h) hG', q4⟩
      cases eg : g ρ3 with
      | next ρ4 => simp only [eg] at q'; exact more q'
      | cont ρ4 => simp only [eg] at q'; exact more q'
      | brk ρ4 => simp only [eg] at q'; exact fun F4 σ4 H4 o4 s4 => q' F4 σ4 H4 o4 (s03.trans s4)
      | ret v ρ4 => simp only [eg] at q'; exact FinS.shift (o := .ret v ρ4) (D := D) s03 q'
      | exc c xs ρ4 => simp only [eg] at q'; exact FinS.shift (o := .exc c xs ρ4) (D := D) s03 q'
      | stuck => simp only [eg] at q'; exact q'.elim
  · have e : i = ds.length := by omega
    subst e
    rw [List.drop_length] at q'
    exact .inl ⟨hw.stops o' hG', q' F' σ' H' o' s'⟩
theorem psd_while (n : Nat) (hp : PassesOwn (model X.prog X.w) X.A X.env X.xe) (hc : PTd X P XR W c t) (hb : PSsd X P XR W body g) : PSd X P XR W (.While c body [] pos) (loopW t g n) :=
  PS.imp (ps_while hp hc hb) fun D σ H ⟨F, ρ, ok, q⟩ => by
  refine ⟨fun m σ' H' => ∃ F' ρ', Ok X.K P F' ρ' σ' H' ∧ Step F ρ σ H F' ρ' σ' H' ∧ FinS X.K P XR W F ρ H σ (loopW t g m ρ') D, ⟨n, F, ρ, ok, Step.refl, q⟩, ?_⟩
  rintro m σ' H' ⟨F', ρ', o', s', q'⟩
  cases m with
  | zero => exact q'.elim
  | succ m =>
    refine ⟨F', ρ', o', ?_⟩
    have q' : FinS X.K P XR W F ρ H σ ((t ρ').out fun r => if r.1 then (match g r.2 with
      | .next ρ' => loopW t g m ρ'
      | .cont ρ' => loopW t g m ρ'
      | .brk ρ' => .next ρ'
      | o => o) else .next r.2) D := q'
    refine Fin.mono (FinS.ofR1 (RR := RB) s' q') fun v H1 z => ?_
    obtain ⟨F1, ρ1, a1, _, o1, s1, r1, q1⟩ := z
    have e : v = a1 := r1
    subst e
    have s01 := s'.trans s1
    cases v with
    | false => exact q1 F1 σ' H1 o1 s01
    | true =>
      have q1 : FinS X.K P XR W F ρ H σ (match g ρ1 with
        | .next ρ' => loopW t g m ρ'
        | .cont ρ' => loopW t g m ρ'
        | .brk ρ' => .next ρ'
        | o => o) D := q1
      rw [if_pos rfl]
      refine ⟨fun σ2 H2 => ∃ F' ρ', Ok X.K P F' ρ' σ2 H2 ∧ Step F ρ σ H F' ρ' σ2 H2 ∧ FinS X.K P XR W F ρ H σ (loopW t g m ρ') D, fun σ2 H2 h2 => ⟨m, Nat.lt_succ_self m, h2⟩, F1, ρ1, o1, ?_⟩
      cases eg : g ρ1 with
      | next ρ4 => simp only [eg] at q1; exact fun F4 σ4 H4 o4 s4 => ⟨F4, ρ4, o4, s01.trans s4, q1⟩
      | cont ρ4 => simp only [eg] at q1; exact fun F4 σ4 H4 o4 s4 => ⟨F4, ρ4, o4, s01.trans s4, q1⟩
      | brk ρ4 => simp only [eg] at q1; exact fun F4 σ4 H4 o4 s4 => q1 F4 σ4 H4 o4 (s01.trans s4)
      | ret v ρ4 => simp only [eg] at q1; exact FinS.shift (o := .ret v ρ4) (D := D) s01 q1
      | exc c xs ρ4 => simp only [eg] at q1; exact FinS.shift (o := .exc c xs ρ4) (D := D) s01 q1
      | stuck => simp only [eg] at q1; exact q1.elim
/-! ### values in a row, each one new or known -/
def isOw : Vl → Bool
  | .fr _ => false
  | .ow _ => true
/-- from the start, each new one by itself -/
inductive RVss (K : PySem.W.Frag) (σ : L2.St) (ρ₀ : Env) (H₀ F H : Hp) (ρ : Env) : List V → List Vl → Prop where
  | nil : RVss K σ ρ₀ H₀ F H ρ [] []
  | cons {v : V} {o : Vl} {vs : List V} {os : List Vl} : RV K σ ρ₀ H₀ F H ρ v o → RVss K σ ρ₀ H₀ F H ρ vs os → (isOw o = true → ∀ w p, (w, p) ∈ vs.zip os → isOw p = true → w ≠ v) → RVss K σ ρ₀ H₀ F H ρ (v :: vs) (o :: os)
theorem RVss.mem {K : PySem.W.Frag} {σ : L2.St} {ρ₀ : Env} {H₀ F H : Hp} {ρ : Env} {vs : List V} {os : List Vl} (h : RVss K σ ρ₀ H₀ F H ρ vs os) : ∀ w p, (w, p) ∈ vs.zip os → RV K σ ρ₀ H₀ F H ρ w p := by
  induction h with
  | nil => intro w p h; cases h
  | cons h1 _ _ ih =>
    intro w p hm
    rcases List.mem_cons.mp hm with z | z
    · cases z; exact h1
    · exact ih w p z
theorem back_RVss {K : PySem.W.Frag} {σ : L2.St} : Back σ (RVss K σ) := ⟨fun {F₀ H₀ F₁ H₁ F H ρ₀ ρ₁ ρ v a} s h => by
  induction h with
  | nil => exact .nil
  | cons h _ n ih => exact .cons (back_RV.back s h) ih n⟩
def tVss (K : PySem.W.Frag) (P : Option V) (XR : XRel) (W : WX) (f : Env → R (List Vl × Env)) : TA := fun σ H Q => ∃ F ρ, Ok K P F ρ σ H ∧ Fin K P XR W F ρ H σ (RVss K σ) (f ρ) Q
abbrev PVss (X : Cx) (P : Option V) (XR : XRel) (W : WX) (es : List Expr) (f : Env → R (List Vl × Env)) : Prop := PA X es (tVss X.K P XR W f)
theorem pv_nil : PVss X P XR W [] (fun ρ => .ok ([], ρ)) := PA.imp pa_nil fun σ H Q ⟨F, ρ, ok, q⟩ => Fin.here q ok RVss.nil
theorem pv_cons {es : List Expr} {fs : Env → R (List Vl × Env)} (k : Bool) (hs : starEach (e :: es) X.env = (false, eval e X.env) :: starEach es X.env) (he : PD X P XR W e f) (hr : PVss X P XR W es fs) :
    PVss X P XR W (e :: es) (fun ρ => (f ρ).bind fun r => (fs r.2).bind fun q => .ok ((if k then r.1 else .fr r.1.d) :: q.1, q.2)) := PA.imp (pa_cons he hr hs) fun σ H Q ⟨F, ρ, ok, q⟩ => by
  refine ⟨F, ρ, ok, ?_⟩
  refine Fin.mono (Fin.bind0 (RR := RV X.K σ) q) fun x H1 z => ?_
  obtain ⟨F1, ρ1, a1, _, o1, s1, r1, q0⟩ := z
  cases k with
  | false =>
    obtain ⟨F2, o2, s2, d2, _⟩ := rv_known o1 r1 s1
    refine ⟨F2, ρ1, o2, ?_⟩
    refine Fin.mono (Fin.bindFrom (RR := RVss X.K σ) s2 q0) fun xs H3 z => ?_
    obtain ⟨F3, ρ3, a3, _, o3, s3, r3, q3⟩ := z
    exact q3 (x :: xs) F3 H3 o3 (s2.trans s3) (.cons (o := .fr a1.d) (Dq.ext s3.ex d2) (back_RVss.back s2 r3) fun z => nomatch z)
  | true =>
    refine ⟨F1, ρ1, o1, ?_⟩
    refine Fin.mono (Fin.bindFrom (RR := RVss X.K σ) s1 q0) fun xs H3 z => ?_
    obtain ⟨F3, ρ3, a3, _, o3, s3, r3, q3⟩ := z
    refine q3 (x :: xs) F3 H3 o3 (s1.trans s3) (.cons (o := a1) (rv_later s3 r1) (back_RVss.back s1 r3) fun hx w p hm hp hwx => ?_)
    have r3' := r3.mem w p hm
    cases p with
    | fr d => cases hp
    | ow ws =>
      cases a1 with
      | fr d => cases hx
      | ow us =>
        obtain ⟨p1, _, e1, _, h1, _, n1, _⟩ := r1
        obtain ⟨p2, _, e2, _, _, _, _, n2⟩ := r3'
        rw [e1, e2] at hwx
        cases hwx
        rcases n2 with z | z
        · exact n1 z
        · rw [h1] at z; cases z
/-- all are stored, from the left -/
def setAll (σ : L2.St) : List Nat → List V → L2.St
  | i :: is, v :: vs => setAll (σ.set i (some v)) is vs
  | _, _ => σ
theorem own_put {ρ : Env} {σ : L2.St} {i : Nat} {v : Vl} {u : V} {a : Addr} (hl : ρ.length = σ.length) (h : OwnAt (setSl ρ i v.sl) (σ.set i (some u)) a) : (isOw v = true ∧ u = .ref a) ∨ OwnAt ρ σ a := by
  obtain ⟨j, zs, q1, q2⟩ := h
  unfold setSl at q1
  by_cases hj : i = j
  · subst hj
    rw [List.getElem?_set, if_pos rfl] at q1
    split at q1
    · rename_i hlt
      rw [List.getElem?_set_self (by rw [← hl]; exact hlt)] at q2
      cases q2
      refine .inl ⟨?_, rfl⟩
      cases v with
      | fr d => cases q1
      | ow xs => rfl
    · cases q1
  · rw [List.getElem?_set_ne hj] at q1 q2
    exact .inr ⟨j, zs, q1, q2⟩
theorem putAll {K : PySem.W.Frag} {F F0 H H0 : Hp} {ρ0 : Env} {σ0 : L2.St} : ∀ (is : List (Nat × Bool)) {vs : List V} {os : List Vl} {ρ ρ' : Env} {σ : L2.St}, Ok K P F ρ σ H → Step F0 ρ0 σ0 H0 F ρ σ H → (∀ i ∈ is, P = none ∨ 0 ≠ i.1) → storeVs is os ρ = some ρ' →
    (∀ w p, (w, p) ∈ vs.zip os → RVr K σ0 ρ0 H0 F H ρ σ w p) → RVss K σ0 ρ0 H0 F H ρ0 vs os ∨ True → vs.length = os.length → (List.Pairwise (fun a b => isOw a.2 = true → isOw b.2 = true → b.1 ≠ a.1) (vs.zip os)) → Ok K P F ρ' (setAll σ (is.map (·.1)) vs) H ∧ Step F0 ρ0 σ0 H0 F ρ' (setAll σ (is.map (·.1)) vs) H
  | [], [], [], ρ, ρ', σ, o, s, _, e, _, _, _, _ => by cases e; exact ⟨o, s⟩
  | [], [], _ :: _, ρ, ρ', σ, o, s, _, e, _, _, _, _ => by cases e
  | [], _ :: _, [], ρ, ρ', σ, o, s, _, e, _, _, hl, _ => by cases hl
  | [], _ :: _, _ :: _, ρ, ρ', σ, o, s, _, e, _, _, _, _ => by cases e
  | i :: is, [], [], ρ, ρ', σ, o, s, _, e, _, _, _, _ => by cases e
  | i :: is, [], _ :: _, ρ, ρ', σ, o, s, _, e, _, _, hl, _ => by cases hl
  | i :: is, _ :: _, [], ρ, ρ', σ, o, s, _, e, _, _, _, _ => by cases e
  | i :: is, v :: vs, w :: os, ρ, ρ', σ, o, s, hp, e, r, _, hl, pw => by
    have r1 := r v w (by simp)
    obtain ⟨o1, s1⟩ := o.putV s r1 (hp i List.mem_cons_self)
    have pw := List.pairwise_cons.mp (show List.Pairwise _ ((v, w) :: vs.zip os) from pw)
    refine putAll is (vs := vs) (os := os) o1 s1 (fun j hj => hp j (List.mem_cons_of_mem _ hj)) e (fun x p hm => ?_) (.inr trivial) (by simpa using hl) pw.2
    have r2 := r x p (by rw [List.zip_cons_cons]; exact List.mem_cons_of_mem _ hm)
    cases p with
    | fr d => exact r2
    | ow xs =>
      obtain ⟨q, us, h1, h2, h3, h4, h5, h6⟩ := r2
      refine ⟨q, us, h1, h2, h3, h4, fun z => ?_, h6⟩
      rcases own_put o.len z with ⟨z1, z2⟩ | z
      · exact pw.1 (x, .ow xs) hm z1 rfl (by rw [h1, z2])
      · exact h5 z
theorem RVss.pw {K : PySem.W.Frag} {σ : L2.St} {ρ₀ : Env} {H₀ F H : Hp} {ρ : Env} {vs : List V} {os : List Vl} (h : RVss K σ ρ₀ H₀ F H ρ vs os) : List.Pairwise (fun a b : V × Vl => isOw a.2 = true → isOw b.2 = true → b.1 ≠ a.1) (vs.zip os) ∧ vs.length = os.length := by
  induction h with
  | nil => exact ⟨.nil, rfl⟩
  | cons h1 _ n ih =>
    refine ⟨?_, by rw [List.length_cons, List.length_cons, ih.2]⟩
    rw [List.zip_cons_cons]
    exact List.pairwise_cons.mpr ⟨fun b hb h1 h2 => n h1 b.1 b.2 hb h2, ih.1⟩
/-- the stores of a row -/
theorem par_end {K : PySem.W.Frag} {F F0 H H0 : Hp} {ρ0 ρ : Env} {σ : L2.St} {D : Ends} {is : List (Nat × Bool)} {vs : List V} {os : List Vl} (o : Ok K P F ρ σ H) (s : Step F0 ρ0 σ H0 F ρ σ H) (hp : ∀ i ∈ is, P = none ∨ 0 ≠ i.1) (r : RVss K σ ρ0 H0 F H ρ vs os)
    (q : FinS K P XR W F0 ρ0 H0 σ (optOut (storeVs is os ρ) .next) D) : D.nx (setAll σ (is.map (·.1)) vs) H := by
  obtain ⟨ρ', e, q⟩ := FinS.opt q
  obtain ⟨o1, s1⟩ := putAll is o s hp e (fun w p hm => rv_r (r.mem w p hm)) (.inr trivial) r.pw.2 r.pw.1
  exact q F _ H o1 s1
theorem storeVs_len : ∀ {is : List (Nat × Bool)} {os : List Vl} {ρ ρ' : Env}, storeVs is os ρ = some ρ' → is.length = os.length
  | [], [], _, _, _ => rfl
  | [], _ :: _, _, _, h => by cases h
  | _ :: _, [], _, _, h => by cases h
  | _ :: is, _ :: os, ρ, ρ', h => by rw [List.length_cons, List.length_cons, storeVs_len (show storeVs is os _ = some ρ' from h)]
/-- the row by names that are no cells: from the right; or as a tuple -/
theorem psd_par {te : TS} {is : List (Nat × Bool)} {fs : Env → R (List Vl × Env)} (hp : ∀ i ∈ is, P = none ∨ 0 ≠ i.1)
    (hs : PS X st te) (hT : ∀ D σ H, tVss X.K P XR W fs σ H (fun vs H1 => vs.length = is.length ∧ (∀ p, H1 p = none → D.nx (setAll σ (is.map (·.1)) vs) (upd H1 p (.tup vs))) ∧ D.nx (setAll σ (is.map (·.1)) vs) H1) → te D σ H) :
    PSd X P XR W st (fun ρ => (fs ρ).out fun r => optOut (storeVs is r.1 r.2) .next) := PS.imp hs fun D σ H ⟨F, ρ, ok, q⟩ => by
  refine hT D σ H ⟨F, ρ, ok, ?_⟩
  refine Fin.mono (FinS.ofR (RR := RVss X.K σ) q) fun vs H1 z => ?_
  obtain ⟨F1, ρ1, os, _, o1, s1, r1, q1⟩ := z
  obtain ⟨ρ', e, _⟩ := FinS.opt q1
  refine ⟨by rw [r1.pw.2, storeVs_len e], fun p hp' => ?_, par_end o1 s1 hp r1 q1⟩
  have eH : Same H1 (upd H1 p (.tup vs)) := fun b u q => by rw [upd_ne (ne_of_none q hp')]; exact q
  have sg : Step F1 ρ1 σ H1 F1 ρ1 σ (upd H1 p (.tup vs)) := Step.grow eH
  refine par_end (o1.grow eH) (s1.trans sg) hp ?_ q1
  have : ∀ {vs : List V} {os : List Vl}, RVss X.K σ ρ H F1 H1 ρ1 vs os → RVss X.K σ ρ H F1 (upd H1 p (.tup _)) ρ1 vs os := fun h => by
    induction h with
    | nil => exact .nil
    | cons h _ n ih => exact .cons (rv_later sg h) ih n
  exact this r1
/-- names as targets, one behind another -/
def gNames (is : List Nat) : TGs := fun vs σ H Q => vs.length = is.length ∧ Q (setAll σ is vs) H
theorem pgs_names0 : PGs X [] (gNames []) := PGs.imp pgs_nil fun vs σ H Q ⟨hl, q⟩ => by
  cases vs with
  | nil => exact ⟨rfl, q⟩
  | cons _ _ => cases hl
theorem pgs_names {es : List Expr} {is : List Nat} (hN : X.N.Nodup) (hi : X.N[i]? = some x) (hx : Loc X.env.scope x) (hf : X.fn x = true ∨ X.env.scope.names.lookup x = some .local) (hr : PGs X es (gNames is))
    (hs : (assignEach (.Name x pos :: es) X.env).map (·.2) = assign (.Name x pos) X.env :: (assignEach es X.env).map (·.2)) : PGs X (.Name x pos :: es) (gNames (i :: is)) :=
  PGs.imp (pgs_cons (pg_name hN hi hx hf) hr hs) fun vs σ H Q ⟨hl, q⟩ => by
  cases vs with
  | nil => cases hl
  | cons v vs => exact ⟨v, vs, rfl, by simpa using hl, q⟩
end
end Dl
end
section
set_option linter.all false
set_option maxRecDepth 100000
set_option maxHeartbeats 4000000
/-! DlChk: a check that an expression of the data layer tells what a piece of syntax does; the check is right. -/
namespace Dl
open PySem PySem.Spec PyProof.Rows L2
structure Gm where
  N : List Str
  fn : Nat → Option (Str × Nat × Bool)
  con : Str → D → Bool
  blt : List Str
  exc : Nat → Option (Str × Nat)
  io : Bool
  kw : List (Nat × Str × List Str × List Nat)
  xv : List (Str × Str)
  x0 : List Str
  xis : List (Str × Str × Bool)
  xfld : Nat → Option Str
  xbase : Nat → List Str
/-- the names as they are seen; the block's own -/
structure Sc where
  vis : Scope
  own : Scope
def visB (s : Sc) (x : Str) : Bool := match s.vis.names.lookup x with
  | some .local => true
  | some .cell => true
  | some .free => true
  | _ => false
def glB (s : Sc) (x : Str) : Bool := decide (s.vis.names.lookup x = some .globalImplicit)
def plainB (x : Str) : Bool := (x == ("__debug__" : Str)) == false && (x == ("__classdict__" : Str)) == false
def nmB (Γ : Gm) (s : Sc) (i : Nat) (x : Str) : Bool := decide (Γ.N[i]? = some x) && visB s x && plainB x
def tgB (Γ : Gm) (s : Sc) (i : Nat) (x : Str) : Bool := decide (Γ.N[i]? = some x) && (decide (s.vis.names.lookup x = some .local) || (decide (s.vis.names.lookup x = some .cell) && decide (s.own.names.lookup x = some .cell))) && (!Γ.io || Nat.beq 0 i == false)
def bltB (Γ : Gm) (s : Sc) (x : Str) : Bool := glB s x && decide (x ∈ Γ.blt)
def nstar : Expr → Bool
  | .Starred _ _ => false
  | _ => true
def nset : Expr → Bool
  | .Set _ _ _ => false
  | _ => true
def nslice : Expr → Bool
  | .Slice _ _ _ _ => false
  | _ => true
def nstars (es : List Expr) : Bool := es.all nstar
def opC (Γ : Gm) (s : Sc) (e : E) (f : Expr → Bool) (x : Expr) : Bool := match e with
  | .pk i => (match x with
    | .Name y _ => nmB Γ s i y
    | _ => false)
  | _ => f x
def ptC (e : E) (f : Expr → Bool) (x : Option Expr) : Bool := match e, x with
  | .abs_, none => true
  | .abs_, some _ => false
  | _, some x => f x
  | _, none => false
def litB (d : D) (k : Const) : Bool := match d, k with
  | .none, .none => true
  | .bool b, .bool b' => b == b'
  | .int i, .int i' => decide (i = i')
  | .str z, .str z' => decide (z = z')
  | _, _ => false
def tailB (op : BoolOp) (y : Expr) (r : List Expr) (p : Pos) : Expr := match r with
  | [] => y
  | _ => .BoolOp op (y :: r) p
def biN : BI → Option Str
  | .len => some "len"
  | .tuple => some "tuple"
  | .list => some "list"
  | .all => some "all"
  | .any => some "any"
  | .sum => some "sum"
  | .abs => some "abs"
  | .int => some "int"
  | .min => some "min"
  | .max => some "max"
  | .sorted => some "sorted"
  | _ => none
mutual
def chkT (Γ : Gm) (s : Sc) : T → Expr → Bool
  | .nm i, .Name x _ => tgB Γ s i x
  | .tp ts, .Tuple es _ _ => chkTs Γ s ts es
  | _, _ => false
def chkTs (Γ : Gm) (s : Sc) : Ts → List Expr → Bool
  | .nil, [] => true
  | .cons t ts, e :: es => nstar e && chkT Γ s t e && chkTs Γ s ts es
  | _, _ => false
end
def ownL (Γ : Gm) (vs : List Nat) : List (Str × Nat) := vs.map fun i => ((Γ.N[i]?).getD ⟨#[]⟩, i)
def insideS (scope : Scope) (s : Sc) : Sc := ⟨relS scope s.vis, scope⟩
def tysB (Γ : Gm) (s : Sc) : List Ty → List Expr → Bool
  | [], [] => true
  | t :: ts, .Name x _ :: es => decide (x = tyX t) && bltB Γ s x && tysB Γ s ts es
  | _, _ => false
def lenEs : Es → Nat
  | .nil => 0
  | .cons _ _ es => lenEs es + 1
def plainEs : Es → Bool
  | .nil => true
  | .cons st _ es => !st && plainEs es
def fnsB (Γ : Gm) (s : Sc) (np : Nat) : List Nat → List Expr → Bool
  | [], [] => true
  | f :: fs, .Name g _ :: gs => glB s g && plainB g && decide (Γ.fn f = some (g, np, false)) && fnsB Γ s np fs gs
  | _, _ => false
def kwNs : List Keyword → Option (List Str)
  | [] => some []
  | k :: r => k.arg.bind fun n => (kwNs r).map (n :: ·)
/-- nothing that a field is asked of in another way -/
def nsup : Expr → Bool
  | .Call (.Name _ _) [] [] _ => false
  | _ => true
/-- names of classes, to which none of these belongs -/
def clssB (Γ : Gm) (s : Sc) (tab : List (Str × Bool)) : List Str → List Expr → Bool
  | [], [] => true
  | c :: cs, .Name y _ :: es => decide (y = c) && glB s y && tab.all (fun z => decide ((z.1, c, false) ∈ Γ.xis)) && clssB Γ s tab cs es
  | _, _ => false
mutual
def chkE (Γ : Gm) : E → Sc → Expr → Bool
  | .callk f perm es, s, w => (match w with
    | .Call (.Name g _) [] kws _ => (match kwNs kws with
      | some ns => glB s g && plainB g && decide ((f, g, ns, perm) ∈ Γ.kw) && plainEs es && nstars (kws.map (·.value)) && chkEs Γ es s (kws.map (·.value))
      | none => false)
    | _ => false)
  | .calls fs i es, s, w => (match w with
    | .Call (.Subscript (.List gs _) idx _) (x :: xs) [] _ => nslice idx && fnsB Γ s (lenEs es) fs gs && decide (fs.length ≤ 1000) && plainEs es && chkE Γ i s idx && chkEs Γ es s (x :: xs)
    | _ => false)
  | .lit d, s, w => (match w with
    | .Constant k _ _ => litB d k
    | _ => false)
  | .con n d, s, w => (match w with
    | .Name x _ => decide (x = n) && glB s x && plainB x && Γ.con n d
    | _ => false)
  | .var i, s, w => (match w with
    | .Name x _ => nmB Γ s i x
    | _ => false)
  | .neg a, s, w => (match w with
    | .UnaryOp .USub x _ => chkE Γ a s x
    | _ => false)
  | .notE a, s, w => (match w with
    | .UnaryOp .Not x _ => opC Γ s a (chkE Γ a s) x
    | _ => false)
  | .bin o a b, s, w => (match w with
    | .BinOp x op y _ => decide (op = opOfB o) && opC Γ s a (chkE Γ a s) x && opC Γ s b (chkE Γ b s) y
    | _ => false)
  | .rep a b, s, w => (match w with
    | .BinOp x .Mult y _ => chkE Γ a s x && chkE Γ b s y
    | _ => false)
  | .cmp o a b, s, w => (match w with
    | .Compare x [op] [y] _ => decide (op = opOfC o) && nset y && opC Γ s a (chkE Γ a s) x && opC Γ s b (chkE Γ b s) y
    | _ => false)
  | .chain o1 o2 a b d, s, w => (match w with
    | .Compare x [op1, op2] [y, z] _ => decide (op1 = opOfC o1) && decide (op2 = opOfC o2) && nset z && opC Γ s a (chkE Γ a s) x && opC Γ s b (chkE Γ b s) y && opC Γ s d (chkE Γ d s) z
    | _ => false)
  | .andE a b, s, w => (match w with
    | .BoolOp .And (x :: y :: r) p => chkE Γ a s x && chkE Γ b s (tailB .And y r p)
    | _ => false)
  | .orE a b, s, w => (match w with
    | .BoolOp .Or (x :: y :: r) p => chkE Γ a s x && chkE Γ b s (tailB .Or y r p)
    | _ => false)
  | .ite t a b, s, w => (match w with
    | .IfExp x y z _ => opC Γ s t (chkE Γ t s) x && chkE Γ a s y && chkE Γ b s z
    | _ => false)
  | .idx a b, s, w => (match w with
    | .Subscript x y _ => nslice y && opC Γ s a (chkE Γ a s) x && chkE Γ b s y
    | _ => false)
  | .slice a lo hi, s, w => (match w with
    | .Subscript x (.Slice l h none _) _ => opC Γ s a (chkE Γ a s) x && ptC lo (chkE Γ lo s) l && ptC hi (chkE Γ hi s) h
    | _ => false)
  | .rev a, s, w => (match w with
    | .Subscript x (.Slice none none (some (.UnaryOp .USub (.Constant (.int 1) _ _) _)) _) _ => opC Γ s a (chkE Γ a s) x
    | _ => false)
  | .lst es, s, w => (match w with
    | .List xs _ => chkEs Γ es s xs
    | _ => false)
  | .tup es, s, w => (match w with
    | .Tuple xs _ _ => chkEs Γ es s xs
    | _ => false)
  | .call f es, s, w => (match w with
    | .Call (.Name g _) (x :: xs) [] _ => glB s g && plainB g && decide (Γ.fn f = some (g, lenEs es, false)) && plainEs es && chkEs Γ es s (x :: xs)
    | _ => false)
  | .call0 f, s, w => (match w with
    | .Call (.Name g _) [] [] _ => glB s g && plainB g && decide (Γ.fn f = some (g, 0, false))
    | _ => false)
  | .callio f i es, s, w => (match w with
    | .Call (.Name g _) (.Name y _ :: xs) [] _ => glB s g && plainB g && decide (Γ.fn f = some (g, lenEs es + 1, true)) && nmB Γ s i y && plainEs es && chkEs Γ es s xs
    | _ => false)
  | .callt f a es, s, w => (match w with
    | .Call (.Name g _) (x :: xs) [] _ => glB s g && plainB g && decide (Γ.fn f = some (g, lenEs es + 1, true)) && nstar x && plainEs es && chkE Γ a s x && chkEs Γ es s xs
    | _ => false)
  | .bi b es, s, w => (match b, w with
    | .sset, .Call (.Name g _) [.Call (.Name g2 _) (x :: xs) [] _] [] _ => decide (g = ("sorted" : Str)) && bltB Γ s g && decide (g2 = ("set" : Str)) && bltB Γ s g2 && chkOs Γ es s (x :: xs)
    | b, .Call (.Name g _) (x :: xs) [] _ => decide (biN b = some g) && bltB Γ s g && chkOs Γ es s (x :: xs)
    | _, _ => false)
  | .comp (.cons t it ifs (.elt e)), s, w => (match w with
    | .ListComp elt [⟨tg, iter, ifs', 0⟩] scope _ => blkC Γ.N s.vis scope (ownL Γ (ownT t ++ [])) && nset iter && chkI Γ it s tg iter && chkT { Γ with io := false } (insideS scope s) t tg && chkCs Γ ifs (insideS scope s) ifs' && chkE Γ e (insideS scope s) elt
    | _ => false)
  | .comp (.cons t it ifs (.cons t1 it1 ifs1 (.elt e))), s, w => (match w with
    | .ListComp elt [⟨tg, iter, ifs', 0⟩, ⟨tg1, iter1, ifs1', 0⟩] scope _ => blkC Γ.N s.vis scope (ownL Γ (ownT t ++ (ownT t1 ++ []))) && nset iter && nset iter1 && chkI Γ it s tg iter && chkT { Γ with io := false } (insideS scope s) t tg && chkCs Γ ifs (insideS scope s) ifs' &&
      chkI Γ it1 (insideS scope s) tg1 iter1 && chkT { Γ with io := false } (insideS scope s) t1 tg1 && chkCs Γ ifs1 (insideS scope s) ifs1' && chkE Γ e (insideS scope s) elt
    | _ => false)
  | .app i a, s, w => (match w with
    | .Call (.Attribute (.Name y _) m apos) [x] [] cpos => decide (m = ("append" : Str)) && nmB Γ s i y && apos.endLine == cpos.line && nstar x && chkE Γ a s x
    | _ => false)
  | .ext i a, s, w => (match w with
    | .Call (.Attribute (.Name y _) m apos) [x] [] cpos => decide (m = ("extend" : Str)) && nmB Γ s i y && apos.endLine == cpos.line && nstar x && opC Γ s a (chkE Γ a s) x
    | _ => false)
  | .pop0 i, s, w => (match w with
    | .Call (.Attribute (.Name y _) m apos) [] [] cpos => decide (m = ("pop" : Str)) && nmB Γ s i y && apos.endLine == cpos.line
    | _ => false)
  | .pop1 i a, s, w => (match w with
    | .Call (.Attribute (.Name y _) m apos) [x] [] cpos => decide (m = ("pop" : Str)) && nmB Γ s i y && apos.endLine == cpos.line && nstar x && chkE Γ a s x
    | _ => false)
  | .isin a ts, s, w => (match ts, w with
    | [t], .Call (.Name g _) [x, .Name y _] [] _ => decide (g = ("isinstance" : Str)) && bltB Γ s g && nstar x && opC Γ s a (chkE Γ a s) x && decide (y = tyX t) && bltB Γ s y
    | ts, .Call (.Name g _) [x, .Tuple es _ _] [] _ => decide (g = ("isinstance" : Str)) && bltB Γ s g && nstar x && opC Γ s a (chkE Γ a s) x && tysB Γ s ts es && decide (ts.length ≤ 16777216)
    | _, _ => false)
  | .mkx x f true a, s, w => (match w with
    | .Call (.Name g _) [] [⟨some n, y, _⟩] _ => decide (g = x) && glB s g && plainB g && decide (n = f) && decide ((x, f) ∈ Γ.xv) && chkE Γ a s y
    | _ => false)
  | .mkx x f false a, s, w => (match w with
    | .Call (.Name g _) [y] [] _ => decide (g = x) && glB s g && plainB g && nstar y && decide ((x, f) ∈ Γ.xv) && chkE Γ a s y
    | _ => false)
  | .mk0 x, s, w => (match w with
    | .Call (.Name g _) [] [] _ => decide (g = x) && glB s g && plainB g && decide (x ∈ Γ.x0)
    | _ => false)
  | .attr a f tab, s, w => (match w with
    | .Attribute y n _ => decide (n = f) && nsup y && tab.all (fun z => decide ((z, f) ∈ Γ.xv)) && opC Γ s a (chkE Γ a s) y
    | _ => false)
  | .isx a cs tab, s, w => (match cs, w with
    | [c], .Call (.Name g _) [x, .Name y _] [] _ => decide (g = ("isinstance" : Str)) && bltB Γ s g && nstar x && decide (y = c) && glB s y && tab.all (fun z => decide ((z.1, c, z.2) ∈ Γ.xis)) && !tab.isEmpty && opC Γ s a (chkE Γ a s) x
    | cs, .Call (.Name g _) [x, .Tuple es _ _] [] _ => decide (g = ("isinstance" : Str)) && bltB Γ s g && nstar x && clssB Γ s tab cs es && tab.all (fun z => z.2 == false) && decide (cs.length ≤ 1000) && !cs.isEmpty && !tab.isEmpty && opC Γ s a (chkE Γ a s) x
    | _, _ => false)
  | .pk _, _, _ => false
  | .mv i, s, w => (match w with
    | .Name x _ => nmB Γ s i x
    | _ => false)
  | .abs_, _, _ => false
  | .comp (.elt _), _, _ => false
  | .comp (.cons _ _ _ (.cons _ _ _ (.cons _ _ _ _))), _, _ => false
def chkEs (Γ : Gm) : Es → Sc → List Expr → Bool
  | .nil, s, w => (match w with
    | [] => true
    | _ => false)
  | .cons st e es, s, w => (match w with
    | x :: xs => (if st then (match x with
      | .Starred y _ => chkE Γ e s y
      | _ => false) else nstar x && chkE Γ e s x) && chkEs Γ es s xs
    | _ => false)
def chkOs (Γ : Gm) : Es → Sc → List Expr → Bool
  | .nil, s, w => (match w with
    | [] => true
    | _ => false)
  | .cons st e es, s, w => (match w with
    | x :: xs => !st && nstar x && opC Γ s e (chkE Γ e s) x && chkOs Γ es s xs
    | _ => false)
def chkI (Γ : Gm) : It → Sc → Expr → Expr → Bool
  | .of a, s, _, x => opC Γ s a (chkE Γ a s) x
  | .zip a b, s, tg, w => (match tg, w with
    | .Tuple _ _ _, .Call (.Name g _) [x, y] [] _ => decide (g = ("zip" : Str)) && bltB Γ s g && nstar x && nstar y && opC Γ s a (chkE Γ a s) x && opC Γ s b (chkE Γ b s) y
    | _, _ => false)
  | .enum a, s, tg, w => (match tg, w with
    | .Tuple _ _ _, .Call (.Name g _) [x] [] _ => decide (g = ("enumerate" : Str)) && bltB Γ s g && nstar x && opC Γ s a (chkE Γ a s) x
    | _, _ => false)
  | .rng a, s, tg, w => (match tg, w with
    | _, .Call (.Name g _) [x] [] _ => decide (g = ("range" : Str)) && bltB Γ s g && nstar x && chkE Γ a s x
    | _, _ => false)
  | .rng2 a b, s, tg, w => (match tg, w with
    | _, .Call (.Name g _) [x, y] [] _ => decide (g = ("range" : Str)) && bltB Γ s g && nstar x && nstar y && chkE Γ a s x && chkE Γ b s y
    | _, _ => false)
def chkCs (Γ : Gm) : Es → Sc → List Expr → Bool
  | .nil, s, w => (match w with
    | [] => true
    | _ => false)
  | .cons _ e .nil, s, w => (match w with
    | [x] => opC Γ s e (chkE Γ e s) x
    | _ => false)
  | .cons _ _ (.cons _ _ _), _, _ => false
end
end Dl
end
section
set_option linter.all false
set_option maxRecDepth 100000
set_option maxHeartbeats 4000000
/-! DlCal2: calls by keywords alone; calls of an item of a list of defs. -/
namespace Dl
open PySem PySem.Spec PyProof.Rows L2
/-- a call with the keywords ks alone binds: parameter i gets the keyword at place perm[i] -/
def KwB (K : PySem.W.Frag) (fd : FuncData) (ps ks : List Str) (perm : List Nat) : Prop :=
  ∀ (s : Shared) (ws us : List Value), K.In s.heap → ws.length = ks.length → pickL perm ws = some us → BindsTo s fd ⟨[], ks.zip ws⟩ (ps.zip us)
theorem pick_vals : ∀ {perm : List Nat} {zs : List V} {ws : List Value} {vs : List V}, Vals zs ws → pickL perm zs = some vs → ∃ us, pickL perm ws = some us ∧ Vals vs us
  | [], _, _, _, _, e => by cases e; exact ⟨[], rfl, .nil⟩
  | i :: is, zs, ws, vs, r, e => by
    obtain ⟨x, e1, e2⟩ := Option.bind_eq_some_iff.mp e
    obtain ⟨ys, e3, e4⟩ := Option.map_eq_some_iff.mp e2
    subst e4
    obtain ⟨us, k1, k2⟩ := pick_vals r e3
    have key : ∀ {i : Nat} {zs : List V} {ws : List Value} {x : V}, Vals zs ws → zs[i]? = some x → ∃ u, ws[i]? = some u ∧ RelV x u := fun {i zs ws x} r => by
      induction r generalizing i with
      | nil => exact fun h => by simp at h
      | cons r1 r2 ih =>
        intro h
        cases i with
        | zero => simp at h; subst h; exact ⟨_, rfl, r1⟩
        | succ i => exact ih (by simpa using h)
    obtain ⟨u, k3, k4⟩ := key r e1
    refine ⟨u :: us, ?_, .cons k4 k2⟩
    show (ws[i]?).bind _ = _
    rw [k3, Option.bind_some, k1]
    rfl
theorem pick_dp {K : PySem.W.Frag} {F : Hp} : ∀ {perm : List Nat} {zs : List V} {ds es : List D}, DqAll K F zs ds → pickL perm ds = some es → ∃ vs, pickL perm zs = some vs ∧ DqAll K F vs es
  | [], _, _, _, _, e => by cases e; exact ⟨[], rfl, .nil⟩
  | i :: is, zs, ds, es, r, e => by
    obtain ⟨x, e1, e2⟩ := Option.bind_eq_some_iff.mp e
    obtain ⟨ys, e3, e4⟩ := Option.map_eq_some_iff.mp e2
    subst e4
    obtain ⟨us, k1, k2⟩ := pick_dp r e3
    obtain ⟨u, k3, k4⟩ := r.get e1
    refine ⟨u :: us, ?_, .cons k4 k2⟩
    show (zs[i]?).bind _ = _
    rw [k3, Option.bind_some, k1]
    rfl
theorem pick_len {α : Type} : ∀ {perm : List Nat} {xs ys : List α}, pickL perm xs = some ys → ys.length = perm.length
  | [], _, _, e => by cases e; rfl
  | i :: is, xs, ys, e => by
    obtain ⟨x, e1, e2⟩ := Option.bind_eq_some_iff.mp e
    obtain ⟨zs, e3, e4⟩ := Option.map_eq_some_iff.mp e2
    subst e4
    rw [List.length_cons, List.length_cons, pick_len e3]
abbrev PKd (X : Cx) (P : Option V) (XR : XRel) (W : WX) (kws : List Keyword) (f : Env → R (List D × Env)) : Prop := PK X kws (tVs X.K P XR W f)
theorem PK.imp {X : Cx} {e : List Keyword} {t t' : TA} (h : PK X e t) (i : ∀ σ H Q, t' σ H Q → t σ H Q) : PK X e t' := ⟨fun pos pins s σ H Q I q => h.run pos pins s σ H Q I (i σ H Q q)⟩
section
variable {X : Cx} {P : Option V} {XR : XRel} {W : WX} {k np : Nat} {f : Addr} {fd : FuncData} {ps ks : List Str} {x : Str} {p p2 pos kpos : Pos} {e a : Expr} {es gs : List Expr} {kws : List Keyword} {nm : Option Str} {g : List D → Option (List D) → RC} {h : Env → R (List D × Env)} {fe : Env → R (Vl × Env)} {perm : List Nat}
theorem pk_nild : PKd X P XR W [] (fun ρ => .ok ([], ρ)) := PK.imp pk_nil fun σ H Q ⟨F, ρ, ok, q⟩ => Fin.here q ok (show DqAll X.K F [] [] from .nil)
theorem pk_consd (he : PD X P XR W e fe) (hr : PKd X P XR W kws h) :
    PKd X P XR W (⟨nm, e, kpos⟩ :: kws) (fun ρ => (fe ρ).bind fun r => (h r.2).bind fun q => .ok (r.1.d :: q.1, q.2)) := PK.imp (pk_cons he hr) fun σ H Q ⟨F, ρ, ok, q⟩ => by
  refine ⟨F, ρ, ok, ?_⟩
  refine Fin.mono (Fin.bind0 q) fun x H1 z => ?_
  obtain ⟨F1, ρ1, a1, _, o1, s1, r1, q0⟩ := z
  obtain ⟨F1', o1', s1', d1, _⟩ := rv_known o1 r1 s1
  refine ⟨F1', ρ1, o1', ?_⟩
  refine Fin.mono (Fin.bind (RR := RVs X.K) back_RVs (fin_shiftVs s1' q0)) fun xs H2 z => ?_
  obtain ⟨F2, ρ2, a2, _, o2, s2, r2, q2⟩ := z
  exact Fin.here q2 o2 (show DqAll X.K F2 (x :: xs) (a1.d :: a2) from .cons (Dq.ext s2.ex d1) r2)
/-- f(k = v, ..) -/
theorem pd_callk (G : FnOk X.prog X.w X.K X.mg X.base (L2.CX X.prog X.w) k f fd ps (spF X.K XR perm.length g false)) (hr : Room k X.A) (hg : Gl X x) (hm : X.mg x = some (.ref f)) (hk : PySem.W.keepIn X.K (.ref f) = true) (hb : KwB X.K fd ps ks perm) (tk : Takes X W)
    (ha : PKd X P XR W kws h) (hdb : (x == ("__debug__" : Str)) = false) (hall : (backToKw pos (keywordEach kws X.env)).all (·.1.isSome) = true) (hks : (backToKw pos (keywordEach kws X.env)).filterMap (·.1) = ks)
    (hpl : ((backTo pos (starEach [] X.env)).any (·.1) || (backToKw pos (keywordEach kws X.env)).any (·.1.isNone)) = false) (hn : ∀ ρ ds ρ', h ρ = .ok (ds, ρ') → ds.length = ks.length) :
    PD X P XR W (.Call (.Name x p) [] kws pos) (fun ρ => (h ρ).bind fun r => R.opt (pickL perm r.1) fun ds => callR (g ds none) r.2) := by
  refine ⟨fun pins s σ H Q I ⟨F, ρ, ok, q⟩ => ?_⟩
  refine wpAny_Call_Name_kw (ld_glob I hg hm ?_ hdb)
  have start : tVs X.K P XR W h σ H fun zs H1 => zs.length = ks.length ∧ ∃ vs, pickL perm zs = some vs ∧ spF X.K XR perm.length g false vs H1 Q (WE W σ) := by
    refine ⟨F, ρ, ok, ?_⟩
    refine Fin.mono (Fin.bind (RR := RVs X.K) back_RV q) fun zs H1 z => ?_
    obtain ⟨F1, ρ1, a1, eq, o1, s1, r1, q1⟩ := z
    have r1 : DqAll X.K F1 zs a1 := r1
    obtain ⟨ds, e1, q1⟩ := Fin.opt q1
    have e1 : pickL perm a1 = some ds := e1
    obtain ⟨vs, e2, dv⟩ := pick_dp r1 e1
    refine ⟨by rw [r1.length]; exact hn _ _ _ eq, vs, e2, pick_len e2, F1, ds, o1.sub, dv, ?_⟩
    have q1 : Fin X.K P XR W F1 ρ1 H1 σ (RV X.K σ) (callR (g ds none) ρ1) Q := q1
    cases hg : g ds none with
    | ok v io =>
      rw [hg] at q1
      intro u F' H' af rf
      obtain ⟨o', s'⟩ := af.step o1
      exact q1 u F' H' o' s' (rf_rv rf o1 fun p n => n)
    | exc c xs =>
      rw [hg] at q1
      intro cls d F' H' af xr
      obtain ⟨o', s'⟩ := af.step o1
      exact q1 cls d F' H' o' s' xr
    | stuck => rw [hg] at q1; exact q1
  refine PySem.W.callWith_KW0 (h₀ := X.base) I.ok.mod.kin hk hall (thn (ha.run pos pins s σ H _ I start) fun ws s2 ⟨zs, H2, I2, rz, l2, vs, e2, q2⟩ => ⟨I2.kIn, ?_⟩) hpl
  rw [hks]
  obtain ⟨us, e3, rv⟩ := pick_vals rz e2
  refine wpAny_call (codeAny_mono (G.run X.A X.stack s2 H2 ⟨[], ks.zip ws⟩ us vs Q (WE W σ) hr I2.env0 (hb s2 ws us I2.kIn (by rw [← rz.length]; exact l2) e3) rv q2) fun r s' hq => ?_)
  cases r with
  | error e => exact passAt tk σ pins H2 s2 e s' I2 hq
  | ok fl =>
    cases fl with
    | ret u => exact I2.after hq
    | next => exact False.elim hq
    | brk => exact False.elim hq
    | cont => exact False.elim hq
/-! ### [f, g][i](..) -/
/-- the names of defs, the defs -/
inductive Fns (X : Cx) : List Expr → List Addr → Prop
  | nil : Fns X [] []
  | cons {x : Str} {p : Pos} {a : Addr} {gs : List Expr} {as : List Addr} : Gl X x → X.mg x = some (.ref a) → (x == ("__debug__" : Str)) = false → Fns X gs as → Fns X (.Name x p :: gs) (a :: as)
theorem pa_fns : ∀ {gs : List Expr} {as : List Addr}, Fns X gs as → PA X gs (fun _ H Q => Q (as.map V.ref) H)
  | _, _, .nil => PA.imp pa_nil fun σ H Q q => q
  | _, _, .cons hg hm hd r => PA.imp (pa_cons (pe_glob hg hm (v := .ref _) rfl hd) (pa_fns r) rfl) fun σ H Q q => q
theorem atI_map {α β : Type} (f : α → β) {xs : List α} {i : Int} {x : α} (h : atI xs i = some x) : atI (xs.map f) i = some (f x) := by
  unfold atI at h ⊢
  obtain ⟨j, h1, h2⟩ := Option.bind_eq_some_iff.mp h
  rw [List.length_map, h1, Option.bind_some, List.getElem?_map, h2]
  rfl
/-- how each of the defs keeps its promise -/
structure FnAt (X : Cx) (XR : XRel) (k np : Nat) (f : Addr) (g : List D → Option (List D) → RC) : Prop where
  ex : ∃ fd ps, FnOk X.prog X.w X.K X.mg X.base (L2.CX X.prog X.w) k f fd ps (spF X.K XR np g false) ∧ L2.Binds X.K fd ps []
  kp : PySem.W.keepIn X.K (.ref f) = true
theorem pd_calls {fs : List Nat} {as : List Addr} {c : Calls} {fi : Env → R (Vl × Env)} {spos lpos : Pos} (hf : Fns X gs as) (hfs : fs.length = as.length) (hlen : as.length ≤ 1000) (G : ∀ (j : Nat) (f : Nat) (b : Addr), fs[j]? = some f → as[j]? = some b → FnAt X XR k np b (c f)) (hr : Room k X.A) (tk : Takes X W) (hs : PlainIx a)
    (hi : PD X P XR W a fi) (ha : PAd X P XR W (e :: es) h) (he : starEach (e :: es) X.env = (false, eval e X.env) :: starEach es X.env) (hpl : (backTo pos (starEach es X.env)).any (·.1) = false) (hn : ∀ ρ ds ρ', h ρ = .ok (ds, ρ') → ds.length = np) :
    PD X P XR W (.Call (.Subscript (.List gs lpos) a spos) (e :: es) [] pos) (fun ρ => (fi ρ).bind fun r => R.opt (intOf r.1) fun k => R.opt (atI fs k) fun f => (h r.2).bind fun q => callR (c f q.1 none) q.2) := by
  refine ⟨fun pins s σ H Q I ⟨F, ρ, ok, q⟩ => ?_⟩
  show wpAny _ _ (eval (.Subscript (.List gs lpos) a spos) X.env >>= fun f => callWith pos f [] (backTo pos (starEach (e :: es) X.env)) (backToKw pos (keywordEach [] X.env))) _ _ s
  refine wpAny_bind (thn ((pe_ix ix_seq (pe_lst (pa_fns hf)) hi hs).run pins s σ H (fun v H1 => ∃ (i : Int) (f : Nat) (b : Addr) (F1 : Hp) (ρ1 : Env), v = .ref b ∧ FnAt X XR k np b (c f) ∧ Ok X.K P F1 ρ1 σ H1 ∧ Fin X.K P XR W F1 ρ1 H1 σ (RV X.K σ) ((h ρ1).bind fun q => callR (c f q.1 none) q.2) Q) I ?_) fun v s1 ⟨x, H1, I1, r1, i, f, b, F1, ρ1, ex, FA, o1, q1⟩ => ?_)
  · -- the list, the place
    refine ⟨by rw [List.length_map, sizeLine_eq]; omega, fun p hp => ?_⟩
    have e : Same H (upd H p (.lst (as.map V.ref))) := fun b o z => by rw [upd_ne (ne_of_none z hp)]; exact z
    refine ⟨F, ρ, ok.grow e, ?_⟩
    have nown : ¬ OwnAt ρ σ p := fun ⟨i, xs, h1, h2⟩ => by
      obtain ⟨b, vs, k1, _, k3, _⟩ := ok.ow i xs h1
      rw [k1] at h2
      cases h2
      rw [hp] at k3
      cases k3
    refine Fin.mono (Fin.bind (RR := RV X.K σ) back_RV (Fin.shift back_RV (Step.grow e) q)) fun y H1 z => ?_
    obtain ⟨F1, ρ1, a1, _, o1, s1, r1, q1⟩ := z
    obtain ⟨i, e1, q1⟩ := Fin.opt q1
    obtain ⟨f, e2, q1⟩ := Fin.opt q1
    have hy : y = .int i := by
      cases a1 with
      | ow _ => cases e1
      | fr d => cases d with
        | int j => cases e1; cases r1; rfl
        | _ => cases e1
    subst hy
    have hq : H1 p = some (.lst (as.map V.ref)) := s1.keep p _ upd_same nown
    obtain ⟨j, h1, h2⟩ := Option.bind_eq_some_iff.mp (show (ixN fs.length i).bind (fun j => fs[j]?) = some f from e2)
    rw [hfs] at h1
    have hj : j < as.length := by rw [← hfs]; exact (List.getElem?_eq_some_iff.mp h2).1
    have h3 : as[j]? = some as[j] := List.getElem?_eq_getElem hj
    have h4 : atI (as.map V.ref) i = some (.ref as[j]) := atI_map V.ref (show (ixN as.length i).bind (fun j => as[j]?) = _ by rw [h1, Option.bind_some]; exact h3)
    exact .inl ⟨p, _, i, .ref as[j], rfl, rfl, .inl (.inl hq), h4, i, f, as[j], F1, ρ1, rfl, G j f _ h2 h3, o1, q1⟩
  · subst ex
    obtain rfl : v = Value.ref b := r1
    obtain ⟨fd, ps, FO, hb⟩ := FA.ex
    have start : tVs X.K P XR W h σ H1 fun vs H2 => spF X.K XR np (c f) false vs H2 Q (WE W σ) := by
      refine ⟨F1, ρ1, o1, ?_⟩
      refine Fin.mono (Fin.bind (RR := RVs X.K) back_RV q1) fun vs H2 z => ?_
      obtain ⟨F2, ρ2, a2, eq, o2, s2, r2, q2⟩ := z
      have r2 : DqAll X.K F2 vs a2 := r2
      refine ⟨by rw [r2.length]; exact hn _ _ _ eq, F2, a2, o2.sub, r2, ?_⟩
      have q2 : Fin X.K P XR W F2 ρ2 H2 σ (RV X.K σ) (callR (c f a2 none) ρ2) Q := q2
      cases hg : c f a2 none with
      | ok v io =>
        rw [hg] at q2
        intro u F' H' af rf
        obtain ⟨o', s'⟩ := af.step o2
        exact q2 u F' H' o' s' (rf_rv rf o2 fun p n => n)
      | exc c xs =>
        rw [hg] at q2
        intro cls d F' H' af xr
        obtain ⟨o', s'⟩ := af.step o2
        exact q2 cls d F' H' o' s' xr
      | stuck => rw [hg] at q2; exact q2
    refine PySem.W.callWith_K (h₀ := X.base) I1.ok.mod.kin FA.kp (thn (ha.run pos pins s1 σ H1 _ I1 start) fun us s2 ⟨vs, H2, I2, r2, q2⟩ => ⟨I2.kIn, ?_⟩) he hpl
    exact run_fnS FO hr hb (passAt tk σ) I2 r2 q2
end
end Dl
end
section
set_option linter.all false
set_option maxRecDepth 100000
set_option maxHeartbeats 4000000
/-! DlExc1: the walk of `def __init__(self, x): super().__init__(x); self.x = x` of an own class over a built-in one. -/
namespace Dl
open PySem PySem.Spec PyProof.Rows L2
/-- what the built-in class above must say -/
structure ExB (B newId initId : String) (tl : List Value) : Prop where
  fb : ExcBaseFacts B newId initId tl
  kf : PySem.W.KxsFacts B initId
  pass : ∀ self : Value, refuseLoop self "__setattr__" tl = pure ()
  al : ∀ K : PySem.W.Frag, PySem.W.alongIn K "__init__" tl = some (some (.builtin initId))
  obj : tl.contains (.type "object") = true
  ne : tl.contains (.type B) = true
theorem exb_Value : ExB "ValueError" "ValueError.__new__" "ValueError.__init__" [.type "ValueError", .type "Exception", .type "BaseException", .type "object"] where
  fb := F.excBase_ValueError
  kf := PySem.W.kxs_ValueError
  pass := F.store_ValueError.passes
  al := fun K => by kernel_rfl
  obj := by decide +kernel
  ne := by decide +kernel
theorem exb_Lookup : ExB "LookupError" "LookupError.__new__" "LookupError.__init__" [.type "LookupError", .type "Exception", .type "BaseException", .type "object"] where
  fb := F.excBase_LookupError
  kf := PySem.W.kxs_LookupError
  pass := F.store_LookupError.passes
  al := fun K => by kernel_rfl
  obj := by decide +kernel
  ne := by decide +kernel
section
open PySem.W Builtin Builtin.ObjectAttr
variable {prog : Program} {w : World} {A : Around} {E : Value → Shared → Prop} {R : Result → Shared → Prop} {hp : Heap} {g : Array GenState} {d : Drawn} {t : Nat} {os : OsState} {B newId initId : String} {tl : List Value}
/-- the first field of an exception that has no dict as yet -/
theorem field_new {K : W.Frag} {name : Str} {tk : Tok} {v : Value} {x C : Addr} {fv : Array Value} {cd : ClassData} (T : ExB B newId initId tl)
    (X : K.In hp) (hx : hp.get? x = some { cls := .ref C, data := .fields fv }) (hcd : W.clsIn K C = some cd) (hm : cd.mro = .ref C :: tl) (hh : cd.hasDict = true) (ha : W.findIn K (.ref C) name = some none)
    (q : ∀ h' tk' dx, (∀ b o, b ≠ x → hp.get? b = some o → h'.get? b = some o) → hp.objs.size ≤ dx → dx ≠ x → h'.get? x = some { cls := .ref C, dict := some dx, data := .fields fv } →
      h'.Ns1 dx (fun y => if y = name then some v else none) → R (.ok (.ret .none)) ⟨h', g, d, tk', os⟩) :
    codeAny (model prog w) A (.call (.builtin "object.__setattr__") ⟨[.ref x, .str name tk, v], []⟩) R ⟨hp, g, d, t, os⟩ := by
  have I : W.InstAt hp x { cls := .ref C, data := .fields fv } C none := ⟨hx, rfl, rfl, trivial⟩
  have nx : x ≠ hp.objs.size := Nat.ne_of_lt (Heap.lt_size hx)
  have SF := F.store_object
  have hob : (Value.ref C :: tl).contains (.type "object") = true := by rw [List.contains_cons, T.obj, Bool.or_true]
  have sub : W.Looks (model prog w) hp (isInstance (.ref x) (.type "object")) true := I.type.andThen (W.looks_mroIn X (by
    unfold W.mroIn
    rw [hcd, Option.bind_some, hm, if_neg (show ¬ (List.isEmpty (Value.ref C :: tl) = true) from Bool.false_ne_true), hob]))
  refine codeAny_call_builtin SF.slot.plain SF.entry (@W.check_slot (model prog w) _ _ ⟨hp, g, d, t, os⟩ "object.__setattr__" "object" "__setattr__" (.ref x) [.str name tk, v] [] _ SF.kind SF.split sub (SF.args (.ref x) (.str name tk) v) ?_)
  have hmr : W.Looks (model prog w) hp (mroOf (.ref C)) cd.mro := (W.looks_clsIn X hcd).andThen .now
  have L3 : W.Looks (model prog w) hp (storeTaker? none) none := .now
  have pass : refuseLoop (.ref x) "__setattr__" cd.mro = pure () := by
    rw [hm, refuseLoop_ref]
    exact T.pass _
  have hcls : W.Looks (model prog w) hp (classData C) cd := W.looks_clsIn X hcd
  rw [W.osa_eq, refuse_eq]
  refine wpAny_bind (wpAny_bind (I.type.at (wpAny_bind (hmr.at ?_))))
  rw [pass]
  refine wpAny_pure (wpAny_bind (I.type.at (wpAny_bind ((W.looks_findIn X ha).at (wpAny_bind (L3.at ?_))))))
  show wpAny _ _ (storeInOwnDict (.ref x) (.ref C) (.str name tk) name v false) _ _ _
  obtain ⟨nm, bs, mro, ns, qn, hd, sn, sb, ab, col, del⟩ := cd
  dsimp only at hh
  subst hh
  unfold storeInOwnDict ownDictForStores
  repeat (first | with_reducible refine HandSPX.store_in_new ?_ ?_ | with_reducible refine wpAny_loadPart_at hx ?_ | with_reducible refine hcls.at ?_ | wp_step)
  · exact ⟨_, #[], _, (Heap.get?_update_ne _ _ _ _ nx.symm).trans (Heap.get?_push_at rfl rfl), rfl, fun e he => absurd he (by simp), fun _ => rfl⟩
  · intro h' tk' hn' hs
    have hx1 : (hp.push { cls := .type "dict", data := .dict #[] }).get? x = some { cls := .ref C, data := .fields fv } := Heap.get?_push_of_some _ hx
    refine q h' tk' hp.objs.size (fun b o hb ho => ?_) (Nat.le_refl _) nx.symm ?_ hn'
    · exact (hs.2 b (Nat.ne_of_lt (Heap.lt_size ho))).trans ((Heap.get?_update_ne _ _ _ _ hb).trans (Heap.get?_push_of_some _ ho))
    · exact (hs.2 x nx).trans (Heap.get?_update_self _ hx1 rfl)
/-- super().__init__ bound, called: the args are laid anew -/
theorem call_mw {u e t0 C : Addr} {nm q : Str} {N : Addr} {bs bm : List Value} {hdct : Bool} {sn : List Str} {sub : List Value} {ab : Bool} {col : Option Bool} {dd : Option Addr} {k0 k1 k2 k3 k5 : Option Value} {rest : List Value} {Q : Value → Shared → Prop} (T : ExB B newId initId tl)
    (hC : hp.get? C = some (excClassObj nm q C N bs bm hdct sn sub ab col dd k0 k1 k2 k3 k5 newId)) (he : hp.get? e = some (HandSPX.excO C t0)) (hu : hp.get? u = some (kxs_mw initId e)) (hrest : rest.length ≤ sizeLine)
    (hq : ∀ h' t1, (∀ b o, b ≠ e → hp.get? b = some o → h'.get? b = some o) → h'.get? e = some (HandSPX.excO C t1) → Q .none ⟨h', g, d, t, os⟩) :
    wpAny (model prog w) A (call (.ref u) rest) Q E ⟨hp, g, d, t, os⟩ := by
  refine wpAny_call (codeAny_of_tree ?_)
  show wpAny _ A.in1 (callAny (.ref u) ⟨rest, []⟩) _ _ _
  simp only [callAny]
  refine wpAny_bind (wpAny_load hu ?_)
  simp only [kxs_mw, show (Value.type "method-wrapper" == Value.type "method" || Value.type "method-wrapper" == Value.type "builtin_function_or_method" || Value.type "method-wrapper" == Value.type "method-wrapper") = true by decide, if_true]
  refine KFB.if_so (by decide) ?_
  refine wpAny_bind (check_bound_init T.fb.toExcCallFacts hC he rfl ?_)
  refine wpAny_bind (wpAny_pure (wpAny_pure ?_))
  refine ⟨plainId_quiet T.fb.init.plain _, codeAny_builtin T.fb.initEntry ?_⟩
  rw [Around.under_plainId T.fb.init.plain _]
  exact exc_init_tree (cls := .ref C) (t0 := t0) (dv := none) (c2 := .none) (c3 := .none) (b4 := .bool false) he hrest fun h' k he' _ => hq h' _ k he'
end
end Dl
end
section
set_option linter.all false
set_option maxRecDepth 100000
set_option maxHeartbeats 4000000
/-! DlExc2: that __init__, called. -/
namespace Dl
open PySem PySem.Spec PyProof.Rows L2
/-- that __init__'s body -/
def initBody (me x : Str) (p0 p1 p2 p3 p4 p5 p6 p7 p8 p9 : Pos) : List Stmt :=
  [.Expr (.Call (.Attribute (.Call (.Name "super" p0) [] [] p1) "__init__" p2) [.Name x p3] [] p4) p5, .Assign [.Attribute (.Name me p9) x p6] (.Name x p7) p8]
theorem eval_meth {env : PySem.Env} {o e : Expr} {name : Str} {apos pos : Pos} (hs : starEach [e] env = (false, eval e env) :: starEach [] env) (hl : (apos.endLine == pos.line) = true) :
    eval (.Call (.Attribute o name apos) [e] [] pos) env = (do
      let ov ← attributeBase o name env (eval o env)
      standAt apos.atName
      let (f, first) ← holding [ov] (getMethod ov name (do return (← importBound o env).getD true))
      callWith pos f first (backTo pos (starEach [e] env)) []) := by
  have hform : methodCallForm ([e].length + ([] : List Keyword).length) (backTo pos (starEach [e] env)) (backToKw pos (keywordEach [] env)) = true := by
    rw [hs]
    rfl
  have hpos : methodCallPos true o env apos pos = pure pos := by unfold methodCallPos; simp [hl]
  rw [arm_eval_Call]
  unfold methodCall
  rw [hform, hpos]
  rfl
/-- what the written part says of an own class C with that __init__ (at fI) over a built-in one -/
structure ExI (P : Program) (K : PySem.W.Frag) (mg : Str → Option Value) (newId : String) (tl : List Value) (C fI : Addr) (me x qual : Str) (fd : FuncData) : Prop where
  cls : ∃ nm q N bs sn sub ab col dd k0 k1 k2 k3 k5, K.lookup C = some (excClassObj nm q C N bs tl true sn sub ab col dd k0 k1 k2 k3 k5 newId)
  fn : ∃ name params scope dV kV doc pm an cda ct cc oc od osl p0 p1 p2 p3 p4 p5 p6 p7 p8 p9 ar, fd = PySem.W.ksFn name qual params (initBody me x p0 p1 p2 p3 p4 p5 p6 p7 p8 p9) scope dV kV doc pm an (.ref cda) ct cc ∧
    K.lookup fI = some ⟨oc, od, .func fd, osl⟩ ∧ PySem.W.codeIn K (.ref cda) qual = true ∧ (∃ ccl cdd vs ccs file tf, K.lookup cda = some ⟨ccl, cdd, .fields vs, ccs⟩ ∧ vs[2]? = some (.str file tf) ∧ ((P.main.file : Str) == file) = true) ∧
    (∃ cl cld csl, K.lookup cc = some ⟨cl, cld, .cell (some (.ref C)), csl⟩) ∧ (params.posonlyargs ++ params.args).head? = some ar ∧ ar.arg = me ∧ (p2.endLine == p4.line) = true ∧
    scope.names.lookup ("super" : Str) = some .globalImplicit ∧ scope.names.lookup ("__class__" : Str) = some .free ∧ scope.names.lookup me = some .local ∧ scope.names.lookup x = some .local ∧
    (∀ y ∈ scope.names, y.2 ≠ .cell) ∧ scope.isCoroutine = false ∧ scope.isGenerator = false ∧ scope.kind = .function
  ne : me ≠ x
  dx : (x == ("__debug__" : Str)) = false
  ds : (me == ("__debug__" : Str)) = false
  no : PySem.W.findIn K (.ref C) x = some none
  sa : PySem.W.findIn K (.ref C) "__setattr__" = some (some (.builtin "object.__setattr__"))
  th : PySem.W.nsIn K cStatics "thirdparty.any" = some none
  top : (P.main.scope.names.lookup ("super" : Str)).isSome = false
  mgs : mg "super" = none
  binds : L2.Binds K fd [me, x] []
  bindk : ∀ (s : Shared) (self u : Value), BindsTo s fd ⟨[self], [(x, u)]⟩ [(me, self), (x, u)]
  tyI : PySem.W.typeIn K (.ref fI) = some (.type "function")
  iC : PySem.W.findIn K (.ref C) "__init__" = some (some (.ref fI))
  exC : PySem.W.subIn K (.ref C) (.type "BaseException") = some true
  tyC : PySem.W.typeIn K (.ref C) = some (.type "type")
  kC : PySem.W.keepIn K (.ref C) = true
section
variable {P : Program} {w : World} {K : PySem.W.Frag} {mg : Str → Option Value} {base : Heap} {newId initId B : String} {tl : List Value} {C fI : Addr} {me x qual : Str} {fd : FuncData} {A : Around} {R : Result → Shared → Prop} {s : Shared}
theorem init_codeA {args : Args} (T : ExB B newId initId tl) (X : ExI P K mg newId tl C fI me x qual fd) (hroom : A.depth < recursionLimit) (M0 : Mod K mg base) (kb : ∀ b o, base.get? b = some o → s.heap.get? b = some o) {e t0 : Addr} {v : Value} (hbind : BindsTo s fd args [(me, .ref e), (x, v)]) (hbe : base.get? e = none) (he : s.heap.get? e = some (HandSPX.excO C t0))
    (hq : ∀ h' tk dx t1, (∀ b o, b ≠ e → s.heap.get? b = some o → h'.get? b = some o) → s.heap.objs.size ≤ dx → dx ≠ e → h'.get? e = some ({ cls := .ref C, dict := some dx, data := .fields #[.ref t1, .none, .none, .none, .bool false, .none] } : Obj) →
      h'.Ns1 dx (fun y => if y = x then some v else none) → R (.ok (.ret .none)) { s with heap := h', toks := tk }) :
    codeAny (model P w) A (.call (.ref fI) args) R s := by
  obtain ⟨nm, q, N, bs, sn, sub, ab, col, dd, k0, k1, k2, k3, k5, hC⟩ := X.cls
  obtain ⟨name, params, scope, dV, kV, doc, pm, an, cda, ct, cc, oc, od, osl, p0, p1, p2, p3, p4, p5, p6, p7, p8, p9, ar, efd, lf, hcode, ⟨ccl, cdd, vs, ccs, file, tf, lcda, hvs, hfile⟩, ⟨cl, cld, csl, lcc⟩, har, earg, hline, hks, hkc, hkself, hkx, hncell, hco, hgen, hkind⟩ := X.fn
  have KX : K.In s.heap := M0.kin.keeps kb
  have lim : s.heap.NoLimit := M0.nolimit.keeps kb
  have hcl : PySem.W.clsIn K C = some { name := nm, bases := bs, mro := .ref C :: tl, ns := N, qualname := q, hasDict := true, slotNames := sn, subclasses := sub, abstract := ab, collection := col, hasDel := false } := by
    unfold PySem.W.clsIn
    rw [hC]
  subst efd
  refine PySem.ks_codeAny_call_defAt (fd := PySem.W.ksFn name qual params (initBody me x p0 p1 p2 p3 p4 p5 p6 p7 p8 p9) scope dV kV doc pm an (.ref cda) ct cc) hroom (KX _ _ lf) rfl lim (PySem.W.codeRec_of KX hcode) rfl hbind hncell (fun y hy => ?_) (fun h1 ns1 kp1 => ?_) hco hgen hkind
  · rcases List.mem_cons.mp hy with z | z
    · rw [z]; exact hkself
    · rw [List.mem_singleton.mp z]; exact hkx
  have K1 : K.In h1 := KX.keeps kp1
  have ms : ([(me, Value.ref e), (x, v)] : List (Str × Value)).reverse.lookup me = some (.ref e) := by
    have n1 : (me == x) = false := by simpa using X.ne
    show List.lookup me [(x, v), (me, .ref e)] = _
    simp [List.lookup, n1]
  have mx : ([(me, Value.ref e), (x, v)] : List (Str × Value)).reverse.lookup x = some v := by
    show List.lookup x [(x, v), (me, .ref e)] = _
    simp [List.lookup]
  obtain ⟨mb, hb1, hb2⟩ := M0.blt
  have kb1 : ∀ b o, base.get? b = some o → h1.get? b = some o := fun b o z => kp1 b o (kb b o z)
  have lte : e < s.heap.objs.size := Heap.lt_size he
  have he1 := kp1 _ _ he
  have neL : ∀ {b : Addr} {o : Obj}, s.heap.get? b = some o → b ≠ s.heap.objs.size := fun {b o} z => Nat.ne_of_lt (Heap.lt_size z)
  have inst : ∀ {h : Heap} {t : Addr}, h.get? e = some (HandSPX.excO C t) → PySem.W.InstAt h e (HandSPX.excO C t) C none := fun {h t} z => ⟨z, rfl, rfl, trivial⟩
  have hsub : PySem.W.mroIn K C (.ref C) = some true := by
    unfold PySem.W.mroIn
    rw [hcl, Option.bind_some]
    show (if List.isEmpty (Value.ref C :: tl) = true then none else some ((Value.ref C :: tl).contains (.ref C))) = some true
    rw [if_neg (by simp [List.isEmpty]), List.contains_cons, beq_self_eq_true, Bool.true_or]
  have hsubB : PySem.W.subIn K (.ref C) (.type B) = some true := by
    show PySem.W.mroIn K C (.type B) = some true
    unfold PySem.W.mroIn
    rw [hcl, Option.bind_some]
    show (if List.isEmpty (Value.ref C :: tl) = true then none else some ((Value.ref C :: tl).contains (.type B))) = some true
    rw [if_neg (by simp [List.isEmpty]), List.contains_cons, T.ne, Bool.or_true]
  have hint : ∀ L, interactive (PySem.W.ksEnv qual scope L fI (.ref cda) cc) = false := fun L => by
    show (scope.kind == .module && _) = false
    rw [hkind]
    rfl
  unfold initBody
  refine PySem.ks_wpAt_execs_cons (PySem.ks_wpAt_Expr_any (PySem.ks_wpAt_MethodCall (PySem.ks_wpAt_super_base (env := PySem.W.ksEnv qual scope s.heap.objs.size fI (.ref cda) cc) hks hkc rfl rfl (K1 _ _ lf) rfl har rfl (K1 _ _ lcda) rfl hvs hfile X.top ?_) (eval_meth rfl hline)) (hint _))
  refine PySem.W.ks_loadName_global hkind hks (Calls.loadGlobal_builtin (env := PySem.W.ksEnv qual scope s.heap.objs.size fI (.ref cda) cc) (M0.glob.keeps kb1) X.mgs (hb1.keeps kb1) ((hb2 _ (by decide)).trans PyProof.Rows.Boot.«super») ⟨rfl, ?_⟩)
  refine wpAny_loadName_free hkind hkc rfl ⟨_, K1 _ _ lcc, rfl⟩ ?_
  rw [earg]
  refine wpAny_loadName_local hkind hkself ns1 ms ?_
  refine PySem.ks_wpAny_isType_cls (K1 _ _ hC) rfl ⟨rfl, ?_⟩
  refine PySem.ks_wpAny_call_super (K1 _ _ hC) rfl he1 rfl (fun c z => nomatch z) (PySem.W.looks_mroIn K1 hsub) (fun h2 e2 kp2 => ?_)
  have K2 : K.In h2 := K1.keeps kp2
  have he2 := kp2 _ _ he1
  refine PySem.W.kxs_getMethod T.kf e2 (PySem.W.looks_opaque K2 X.th) (l₀ := .ref C :: tl) ?_ rfl K2 (by
    have z : ((Value.ref C :: tl).dropWhile (· != .ref C)).drop 1 = tl := by simp [List.dropWhile_cons]
    rw [z]
    exact T.al K) ((inst he2).type.andThen (PySem.W.looks_subIn K2 hsubB)) (PySem.W.ks_ne K2 (inst he2) hcl) rfl ?_
  · exact fun A Q E s k q => wpAny_bind ((PySem.W.looks_clsIn K2 hcl) A _ E s k (wpAny_pure q))
  have hu3 : (h2.push (PySem.W.kxs_mw initId e)).get? h2.objs.size = some (PySem.W.kxs_mw initId e) := Heap.get?_push_at rfl rfl
  have kp3 : ∀ b o, h2.get? b = some o → (h2.push (PySem.W.kxs_mw initId e)).get? b = some o := fun b o z => Heap.get?_push_of_some _ z
  have up3 : ∀ b o, h1.get? b = some o → (h2.push (PySem.W.kxs_mw initId e)).get? b = some o := fun b o z => kp3 b o (kp2 b o z)
  have K3 : K.In (h2.push (PySem.W.kxs_mw initId e)) := K1.keeps up3
  have ns3 : (h2.push (PySem.W.kxs_mw initId e)).Ns s.heap.objs.size (fun y => ([(me, Value.ref e), (x, v)] : List (Str × Value)).reverse.lookup y) := ns1.at fun o z => up3 _ o z
  refine PySem.W.kxs_callWith (i := initId) (x := e) rfl (Calls.evalArgs_plain (args_cons (wpAny_Name (wpAny_loadName_local (env := PySem.W.ksEnv qual scope s.heap.objs.size fI (.ref cda) cc) hkind hkx ns3 mx (args_nil ⟨hu3, ?_⟩)) X.dx) rfl))
  refine call_mw T (K3 _ _ hC) (up3 _ _ he1) hu3 (by show 1 ≤ sizeLine; rw [sizeLine_eq]; decide) fun h4 t4 k4 he4 => ?_
  have nL : s.heap.objs.size ≠ e := Nat.ne_of_gt lte
  have ns4 : h4.Ns s.heap.objs.size (fun y => ([(me, Value.ref e), (x, v)] : List (Str × Value)).reverse.lookup y) := ns3.at fun o z => k4 _ o nL z
  have up4 : ∀ b o, b ≠ e → s.heap.get? b = some o → h4.get? b = some o := fun b o n z => k4 b o n (up3 b o (kp1 b o z))
  have K4 : K.In h4 := fun b o z => k4 b o (fun y => by
    have z1 := M0.kin b o z
    rw [y, hbe] at z1
    cases z1) (K3 b o z)
  refine PySem.ks_wpAt_execs_cons (PySem.ks_wpAt_Assign_Attr (wpAt_of_wpAny (wpAny_Name (wpAny_loadName_local (env := PySem.W.ksEnv qual scope s.heap.objs.size fI (.ref cda) cc) hkind hkx ns4 mx (wpAny_Name (wpAny_loadName_local (env := PySem.W.ksEnv qual scope s.heap.objs.size fI (.ref cda) cc) hkind hkself ns4 ms ?_) X.ds)) X.dx)) rfl)
  refine PySem.W.set_plain K4 (inst he4) X.sa (field_new T K4 he4 hcl rfl rfl X.no fun h5 tk dx k5 ge ne e5 n5 => ?_)
  refine wpAt_of_wpAny (wpAny_execs_nil ?_)
  refine hq h5 tk dx t4 (fun b o nb z => k5 b o nb (up4 b o nb z)) ?_ ne e5 n5
  obtain ⟨oL, _, _, hoL, _⟩ := ns4
  exact Nat.le_trans (Nat.le_of_lt (Heap.lt_size hoL)) ge
theorem init_code (T : ExB B newId initId tl) (X : ExI P K mg newId tl C fI me x qual fd) (hroom : A.depth < recursionLimit) (M0 : Mod K mg base) (kb : ∀ b o, base.get? b = some o → s.heap.get? b = some o) {e t0 : Addr} {v : Value} (hbe : base.get? e = none) (he : s.heap.get? e = some (HandSPX.excO C t0))
    (hq : ∀ h' tk dx t1, (∀ b o, b ≠ e → s.heap.get? b = some o → h'.get? b = some o) → s.heap.objs.size ≤ dx → dx ≠ e → h'.get? e = some ({ cls := .ref C, dict := some dx, data := .fields #[.ref t1, .none, .none, .none, .bool false, .none] } : Obj) →
      h'.Ns1 dx (fun y => if y = x then some v else none) → R (.ok (.ret .none)) { s with heap := h', toks := tk }) :
    codeAny (model P w) A (.call (.ref fI) ⟨[.ref e, v], []⟩) R s :=
  init_codeA T X hroom M0 kb (by
    have z := X.binds s [.ref e, v] (M0.kin.keeps kb) rfl
    simpa using z) hbe he hq
end
end Dl
end
section
set_option linter.all false
set_option maxRecDepth 100000
set_option maxHeartbeats 4000000
/-! DlExc3: an own exception, made. -/
namespace Dl
open PySem PySem.Spec PyProof.Rows L2
section
variable {X : Cx} {B newId initId : String} {tl : List Value} {C fI : Addr} {me x qual g : Str} {fd : FuncData} {e : Expr} {es : List Expr} {ta : TA} {p pos : Pos}
/-- C(v) with that __init__ -/
def tMkI (C : Addr) (x : Str) (ta : TA) : L2.St → Hp → XK → Prop := fun σ H Q => ta σ H fun vs H1 => ∃ v, vs = [v] ∧ ∀ d, H1 d = none → Q (.ref C) (some d) (upd H1 d (.xd [(x, v)]))
theorem pmk_i (hr : Room 1 X.A) (T : ExB B newId initId tl) (G : ExI X.prog X.K X.mg newId tl C fI me x qual fd) (hg : Gl X g) (hm : X.mg g = some (.ref C)) (ha : PA X (e :: es) ta) (hdb : (g == ("__debug__" : Str)) = false)
    (he : starEach (e :: es) X.env = (false, eval e X.env) :: starEach es X.env) (hpl : (backTo pos (starEach es X.env)).any (·.1) = false) : PMk X (.Call (.Name g p) (e :: es) [] pos) (tMkI C x ta) := by
  intro pins s σ H Q I h
  obtain ⟨nm, q, N, bs, sn, sub, ab, col, dd, k0, k1, k2, k3, k5, hC⟩ := G.cls
  refine wpAny_Call_Name_kw (ld_glob I hg hm ?_ hdb)
  refine PySem.W.callWith_K (h₀ := X.base) I.ok.mod.kin G.kC (thn (ha.run pos pins s σ H _ I h) fun us s1 ⟨vs, H1, I1, r1, q1⟩ => ⟨I1.kIn, ?_⟩) he hpl
  show wpAny _ _ (call (.ref C) us) _ _ _
  obtain ⟨v, rfl, q1⟩ := q1
  obtain ⟨u, rfl, ru⟩ := vals1 r1
  obtain ⟨hp, gn, dr, tk, os⟩ := s1
  have kk : ∀ b o, hp.get? b = some o → ((hp.push (PySem.W.kdv_tup [u])).push (PySem.HandSPX.excO C hp.objs.size)).get? b = some o := fun b o e => Heap.get?_push_of_some _ (Heap.get?_push_of_some _ e)
  have hget : ((hp.push (PySem.W.kdv_tup [u])).push (PySem.HandSPX.excO C hp.objs.size)).get? (hp.objs.size + 1) = some (PySem.HandSPX.excO C hp.objs.size) := by heap_get
  have sz2 : ((hp.push (PySem.W.kdv_tup [u])).push (PySem.HandSPX.excO C hp.objs.size)).objs.size = hp.objs.size + 2 := by rw [Heap.size_push, Heap.size_push]
  have hbase : X.base.get? (hp.objs.size + 1) = none := by
    cases z : X.base.get? (hp.objs.size + 1) with
    | none => rfl
    | some o => exact absurd (Heap.lt_size (I1.bk _ _ z)) (by show ¬ hp.objs.size + 1 < hp.objs.size; omega)
  refine wpAny_call (PySem.HandSPX.call_own T.fb (fun _ => rfl) (I1.kIn _ _ hC) (PySem.W.looks_findIn I1.kIn G.iC) (fun me => PySem.W.bind_fn I1.kIn me G.tyI) (by show 1 ≤ sizeLine; rw [sizeLine_eq]; decide)
    (init_code T G ?_ I1.ok.mod (fun b o z => kk b o (I1.bk b o z)) hbase hget fun h' tk' dx t1 k' hdx ne hx hn => ?_))
  · have z := (hr.make C [u] []).dp; omega
  · have hdp : hp.objs.size ≤ dx := by rw [sz2] at hdx; omega
    have kh : ∀ b o, hp.get? b = some o → h'.get? b = some o := fun b o z => k' b o (Nat.ne_of_lt (Nat.lt_succ_of_lt (Heap.lt_size z))) (kk b o z)
    have hna : H1 (hp.objs.size + 1) = none := I1.hok.fresh (Nat.le_succ _)
    have hnd : H1 dx = none := I1.hok.fresh hdp
    obtain ⟨G1, gk1, gk2⟩ := restrict h' fun b => decide (b ≠ hp.objs.size + 1)
    have gk : ∀ b, b ≠ hp.objs.size + 1 → G1.get? b = h'.get? b := fun b hb => gk1 b (decide_eq_true hb)
    have ge : G1.get? (hp.objs.size + 1) = none := gk2 _ (by simp)
    have kG : ∀ b o, hp.get? b = some o → G1.get? b = some o := fun b o z => (gk b (Nat.ne_of_lt (Nat.lt_succ_of_lt (Heap.lt_size z)))).trans (kh b o z)
    have hnG : G1.Ns1 dx (fun y => if y = x then some u else none) := hn.at fun o z => (gk dx ne).trans z
    have rel : ∀ f, RelO (([(x, v)] : List (Str × V)).lookup f) ((fun y => if y = x then some u else none) f) := relO_put (fs := []) ru fun _ => True.intro
    have J := I1.laid (t' := tk') (a := dx) (o := .xd [(x, v)]) (h' := G1) kG hdp ⟨_, hnG, rel⟩
    have up : ∀ b o, G1.get? b = some o → h'.get? b = some o := fun b o z => by
      by_cases hb : b = hp.objs.size + 1
      · rw [hb, ge] at z; cases z
      · exact (gk b hb).symm.trans z
    have hna' : upd H1 dx (.xd [(x, v)]) (hp.objs.size + 1) = none := by rw [upd_ne (Ne.symm ne)]; exact hna
    exact ⟨rfl, hp.objs.size + 1, _, _, _, _, .ref C, some dx, rfl, J, up, ge, hx, ⟨rfl, rfl⟩, rfl, rfl, hna', rfl, I1.bare, raises_own G.exC G.tyC, q1 dx hnd⟩
end
end Dl
end
section
set_option linter.all false
set_option maxRecDepth 100000
set_option maxHeartbeats 4000000
/-! DlTry: try, several clauses, with names or without. -/
namespace Dl
open PySem PySem.Spec PyProof.Rows L2
abbrev Clause := Value × Option Nat × (Addr → Value → Option Addr → TS)
/-- behind the suite the name is gone -/
def gone (i : Nat) (D : Ends) : Ends := { nx := fun σ' H' => D.nx (σ'.set i none) H', rt := D.rt, bk := fun σ' H' => D.bk (σ'.set i none) H', ct := fun σ' H' => D.ct (σ'.set i none) H' }
/-- behind the suite the error may be looked at as a value -/
def held (i : Nat) (a : Addr) (cls : Value) (d : Option Addr) (D : Ends) : Ends := { nx := fun σ' H' => D.nx (σ'.set i none) H' ∨ D.nx (σ'.set i none) (upd H' a (ExX cls d a)), rt := D.rt, bk := fun σ' H' => D.bk (σ'.set i none) H', ct := fun σ' H' => D.ct (σ'.set i none) H' }
def endOf (sl : Option Nat) (a : Addr) (cls : Value) (d : Option Addr) (D : Ends) : Ends := match sl with
  | none => D
  | some i => held i a cls d D
def slOf (sl : Option Nat) (a : Addr) (σ : L2.St) : L2.St := match sl with
  | none => σ
  | some i => σ.set i (some (.ref a))
def wCl (K : PySem.W.Frag) (Wout : WX) (D : Ends) : List Clause → WX
  | [] => Wout
  | q :: r => fun cls d σ H => ∃ b, PySem.W.exmOne K cls q.1 = some b ∧ (b = true → ∀ a, H a = none → q.2.2 a cls d (endOf q.2.1 a cls d D) (slOf q.2.1 a σ) H) ∧ (b = false → wCl K Wout D r cls d σ H)
def NameOk (X : Cx) (nm : Option Str) (sl : Option Nat) : Prop := match nm, sl with
  | none, none => True
  | some n, some i => X.N[i]? = some n ∧ X.env.kindOf n = some .local
  | _, _ => False
inductive ClsOk (X : Cx) : List ExceptHandler → List Clause → Prop
  | nil : ClsOk X [] []
  | cons {x : Str} {c : Value} {nm : Option Str} {sl : Option Nat} {ts : Addr → Value → Option Addr → TS} {b₀ : Stmt} {suite : List Stmt} {np pos' : Pos} {hds : List ExceptHandler} {l : List Clause} (hc : Names X x c) (hn : NameOk X nm sl)
      (hsu : ∀ (a : Addr) (oe : Obj) (cls : Value) (d : Option Addr) (pn : List (Addr × Obj)), Zc cls d oe → (∃ vs, oe.data = .fields vs) → PSs (X.suite a ((a, oe) :: pn)) (b₀ :: suite) (ts a cls d)) (r : ClsOk X hds l) :
      ClsOk X (.ExceptHandler (some (.Name x np)) nm (b₀ :: suite) pos' :: hds) ((c, sl, ts) :: l)
section
variable {X : Cx} {pins : List (Addr × Obj)} {σ : L2.St} {H : Hp} {s : Shared}
/-- an error that is new here is tracked from now on -/
theorem held_ok {a : Addr} {oe : Obj} {vs : Array Value} {cls : Value} {d : Option Addr} (I : Inv X pins σ H s) (ha : s.heap.get? a = some oe) (hz : Zc cls d oe) (hd : oe.data = .fields vs) (na : H a = none) (n0 : X.s_0.heap.get? a = none) (nL : a ≠ X.env.locals)
    (nC : ∀ x c, X.env.cells.lookup x = some c → c ≠ a) (nP : ∀ p ∈ X.pn ++ pins, p.1 ≠ a) : Inv X pins σ (upd H a (ExX cls d a)) s := by
  have ne0 : ∀ b o, X.s_0.heap.get? b = some o → b ≠ a := fun b o e z => by rw [z, n0] at e; cases e
  refine ⟨I.ok, I.os, I.bare, ⟨I.base.keep, I.base.slot, fun b o e n hx => ?_, I.base.there, fun b xs e => ?_, fun b o u e => ?_, fun b ps e => ?_⟩, I.loc, I.cell, ?_, fun x c e => ?_, fun p hp => ?_, fun b u e => ?_, I.len⟩
  · rw [upd_ne (ne0 b o e)]; exact I.base.free b o e n hx
  · have q := I.base.tups b xs e
    rw [upd_ne (ne_of_none q na)]; exact q
  · have q := I.base.frzs b o u e
    rw [upd_ne (ne_of_none q na)]; exact q
  · obtain ⟨m, q⟩ := I.base.tbls b ps e
    exact ⟨m, by rw [upd_ne (ne_of_none q na)]; exact q⟩
  · rw [upd_ne (Ne.symm nL)]; exact I.free
  · rw [upd_ne (nC x c e)]; exact I.freeC x c e
  · obtain ⟨p1, p2, p3⟩ := I.pin p hp
    exact ⟨p1, by rw [upd_ne (nP p hp)]; exact p2, p3⟩
  · by_cases hb : b = a
    · subst hb
      rw [upd_same] at e
      cases e
      exact ⟨⟨oe, vs, ha, hz, hd⟩, ⟨oe, ha⟩, fun _ _ ⟨o, v, q, r⟩ k => ⟨o, v, k o q, r⟩⟩
    · rw [upd_ne hb] at e
      exact (I.hok b u e).stay (fun c v _ q => q) (fun c q => by rw [upd_ne (ne_of_none q na)]; exact q) fun c xs q => by rw [upd_ne (ne_of_none q na)]; exact q
end
section
variable {X : Cx} {body : List Stmt} {h₀ : ExceptHandler} {hds : List ExceptHandler} {l : List Clause} {pos : Pos} {tb : WX → TS} {Wout : WX}
theorem ps_try_cl (hex : X.ex = []) (hs : X.stack = X.env :: X.outer) (hf : X.env.frame = some X.env.locals) (hN : X.N.Nodup) (tk : Takes X Wout)
    (hb : ∀ (W : WX) (pn : List (Addr × Obj)) (xe : Value → Shared → Prop), Takes (X.tr pn xe) W → PassesOwn (model X.prog X.w) X.A X.env xe → PSs (X.tr pn xe) body (tb W))
    (hh : ClsOk X (h₀ :: hds) l) : PS X (.Try body (h₀ :: hds) [] [] pos) (fun D σ H => tb (wCl X.K Wout D l) D σ H) := by
  refine ⟨fun pins s σ H D I h => ?_⟩
  have ok := I.ok
  have hfr : X.A.frames = some (X.env :: X.outer) := by rw [ok.frames, hs]
  refine wpAny_Try_except ?_
  refine wpAny_mono ((hb (wCl X.K Wout D l) (X.pn ++ pins) (fun e s₁ => wpAny (model X.prog X.w) X.A (noteFrame e X.env) (fun _ s₂ => wpAny (model X.prog X.w) X.A (setFlight e none) (fun _ s₃ =>
    wpAny (model X.prog X.w) X.A (handleBy e X.env (h₀ :: hds)) (SP X pins D) X.xe s₃) X.xe s₂) X.xe s₁) (fun u s' xx => ?_) PassesOwn.looking).run [] s σ H D (I.toTry _) h) (fun f s1 hsp => ?_) (fun e s1 he => he)
  · obtain ⟨a, B, sI, pins', σ', H', cls, d, rfl, J', nb, up, sky, na, os, ag, w⟩ := xx
    have J : Inv X pins σ' H' sI := J'.ofTry ok
    have sky' : Sky B (X.env :: X.outer) a (Zc cls d) X.env.locals s'.heap := by rw [← hs]; exact sky
    show wpAny (model X.prog X.w) X.A (noteFrame (.ref a) X.env) _ _ _
    refine Sky.land Zc.steady hfr hf sky' fun h3 fl3 up3 => ?_
    have J3 : Inv X pins σ' H' { s' with heap := h3 } := J.landed nb fl3.1 (up.trans up3) os ag
    obtain ⟨oe3, vs3, he3, hz3, hd3⟩ := fl3.there
    have out : ∀ {h : Heap} {o : Obj} {vs : Array Value}, h.FunFrames B (X.env :: X.outer) → h.get? a = some o → o.data = .fields vs → a ∉ frs (X.env :: X.outer) := fun {h o vs} ff e dd hm => by
      obtain ⟨_, o', e', hnf⟩ := ff.mem hm
      rw [e] at e'; cases e'
      exact hnf _ dd
    have nfr := out fl3.2.2.1 he3 hd3
    have nL : a ≠ X.env.locals := fun z => nfr (List.mem_filterMap.mpr ⟨X.env, List.mem_cons_self, by rw [hf, z]⟩)
    have nF : a ∉ X.fs := fun hm => by
      obtain ⟨e, he, q⟩ := List.mem_filterMap.mp hm
      exact nfr (List.mem_filterMap.mpr ⟨e, List.mem_cons_of_mem _ he, q⟩)
    have S3 := J3.suite he3 hd3 na nL nF
    have sIn : sI.heap.get? a = none := by
      cases e : sI.heap.get? a with
      | none => rfl
      | some o =>
        have z := nb a o e (by rw [hs]; exact nfr)
        rw [fl3.2.1] at z
        cases z
    have n0 : X.s_0.heap.get? a = none := by
      cases e : X.s_0.heap.get? a with
      | none => rfl
      | some o =>
        obtain ⟨o', z⟩ := J.base.there a o e (by rw [hex]; exact fun z => nomatch z)
        rw [sIn] at z
        cases z
    have nC : ∀ x c, X.env.cells.lookup x = some c → c ≠ a := fun x c e z => by
      obtain ⟨v, o, ho, _⟩ := J.cell x c e
      rw [z, sIn] at ho
      cases ho
    have nP : ∀ p ∈ X.pn ++ pins, p.1 ≠ a := fun p hp z => by
      have q := (J.pin p hp).1
      rw [z, sIn] at q
      cases q
    have go : ∀ {hds' : List ExceptHandler} {l' : List Clause}, ClsOk X hds' l' → wCl X.K Wout D l' cls d σ' H' →
        wpAny (model X.prog X.w) X.A (handleBy (.ref a) X.env hds') (SP X pins D) X.xe { s' with heap := h3 } := by
      intro hds' l' hk
      induction hk with
      | nil =>
        intro w
        refine wpAny_handleBy_nil ?_
        obtain ⟨k1, k2, k3, oe, vs, T, oT, ts', he, hz, hd, h1, hr⟩ := id fl3
        unfold PySem.passOn
        refine wpAny_bind (wpAny_field he hd h1 ?_)
        rw [if_neg (show ¬ ((Value.ref T == Value.none) = true) from by simp)]
        have fin : wpAny (model X.prog X.w) X.A (setFlight (.ref a) X.env.frame) (fun _ s4 => wpAny (model X.prog X.w) X.A (throw (.ref a) : Sem Flow) (SP X pins D) X.xe s4) X.xe { s' with heap := h3 } := by
          rw [hf]
          refine HandSPX.setFlight_upZ fl3 fun h4 hh4 up4 => wpAny_throw (tk _ _ ?_)
          exact ⟨a, B, sI, pins, σ', H', cls, d, rfl, J, nb, (up.trans up3).trans up4, .inr (.inr (by rw [hs]; exact hh4)), na, os, ag, w⟩
        first
          | exact wpAny_bind (wpAny_pure (wpAny_bind fin))
          | exact wpAny_bind fin
      | @cons x c nm sl ts b₀ suite np pos' hds2 l2 hc hn hsu r ih =>
        intro w
        obtain ⟨b, hb1, hyes, hno⟩ := w
        refine wpAny_handleBy_cons (codeAny_handlers_test ?_) (by intro q; cases q)
        have LT : PySem.W.Looks (model X.prog X.w) h3 (typeOf (.ref a)) cls := fun A Q E s k q => wpAny_typeOf_ref (k _ _ he3) (by rw [hz3.1]; exact q)
        have LM := PySem.W.exm_one (M := model X.prog X.w) (J3.kIn) LT hb1
        have test : ∀ {Q : Value → Shared → Prop} {E : Value → Shared → Prop}, Q c { s' with heap := h3 } → wpAny (model X.prog X.w) (X.A.mark (some (.ref a))) (eval (.Name x np) X.env) Q E { s' with heap := h3 } := fun {Q E} q => by
          obtain ⟨hg, hdbg, hm | ⟨hm, hv, hnn⟩⟩ := hc
          · exact ld_glob (X := X.suite a ((a, oe3) :: (X.pn ++ pins))) S3 hg hm q hdbg
          · exact ld_blt (X := X.suite a ((a, oe3) :: (X.pn ++ pins))) S3 hg hm hv q hnn hdbg
        refine test (LM.here ?_)
        cases b with
        | true =>
          have hyes := hyes rfl a na
          cases nm with
          | none =>
            cases sl with
            | some i => exact hn.elim
            | none =>
              refine codeAny_handlers_suite ?_
              refine HandSPX.lands_againZ fl3 fun h4 fl4 up4 => ?_
              have J4 : Inv X pins σ' H' { s' with heap := h4 } := J.landed nb fl4.1 ((up.trans up3).trans up4) os ag
              obtain ⟨oe4, vs4, he4, hz4, hd4⟩ := fl4.there
              have S4 := J4.suite he4 hd4 na nL nF
              refine wpAny_mono ((hsu a oe4 cls d (X.pn ++ pins) hz4 ⟨_, hd4⟩).run [] _ _ H' D S4 hyes) (fun f s6 hsp => ?_) (fun _ _ z => False.elim z)
              cases f with
              | next =>
                obtain ⟨σ6, H6, S6, q6⟩ := hsp
                exact ⟨_, _, S6.unsuite ok, q6⟩
              | brk =>
                obtain ⟨σ6, H6, S6, q6⟩ := hsp
                exact ⟨_, _, S6.unsuite ok, q6⟩
              | cont =>
                obtain ⟨σ6, H6, S6, q6⟩ := hsp
                exact ⟨_, _, S6.unsuite ok, q6⟩
              | ret u =>
                obtain ⟨v6, σ6, H6, S6, r6, q6⟩ := hsp
                exact ⟨_, _, _, S6.unsuite ok, r6, q6⟩
          | some n =>
            cases sl with
            | none => exact hn.elim
            | some i =>
              obtain ⟨hi, hln⟩ := hn
              refine codeAny_handlers_suite_as ?_
              refine HandSPX.lands_againZ fl3 fun h4 fl4 up4 => ?_
              have J4 : Inv X pins σ' H' { s' with heap := h4 } := J.landed nb fl4.1 ((up.trans up3).trans up4) os ag
              obtain ⟨oe4, vs4, he4, hz4, hd4⟩ := fl4.there
              have S4 := J4.suite he4 hd4 na nL nF
              refine store_ok (X := X.suite a ((a, oe4) :: (X.pn ++ pins))) (v := .ref a) S4 hN hi (.inl hln) rfl (fun s5 S5 => ?_) (.inr hln)
              refine wpAny_mono ((hsu a oe4 cls d (X.pn ++ pins) hz4 ⟨_, hd4⟩).run [] s5 _ H' (held i a cls d D) S5 hyes) (fun f s6 hsp => ?_) (fun _ _ z => False.elim z)
              have end_ : ∀ {σ6 : L2.St} {H6 : Hp} {Q : Shared → Prop}, Inv (X.suite a ((a, oe4) :: (X.pn ++ pins))) [] σ6 H6 s6 → (∀ s7, Inv X pins (σ6.set i none) H6 s7 → Q s7) →
                  wpAny (model X.prog X.w) X.A (do bindName X.env n .none; unbindBehindTheSuite X.env n pos') (fun _ s7 => Q s7) X.xe s6 := fun {σ6 H6 Q} S6 hq => gone_ok (S6.unsuite ok) hN hi hln hq
              cases f with
              | next =>
                obtain ⟨σ6, H6, S6, q6⟩ := hsp
                rcases q6 with q6 | q6
                · exact end_ S6 fun s7 J7 => ⟨_, _, J7, q6⟩
                · obtain ⟨ha6, na6, _⟩ := S6.pin (a, oe4) (List.mem_append_left _ List.mem_cons_self)
                  have J6 := held_ok (S6.unsuite ok) ha6 hz4 hd4 na6 n0 nL nC nP
                  exact gone_ok J6 hN hi hln fun s7 J7 => ⟨_, _, J7, q6⟩
              | brk =>
                obtain ⟨σ6, H6, S6, q6⟩ := hsp
                exact end_ S6 fun s7 J7 => ⟨_, _, J7, q6⟩
              | cont =>
                obtain ⟨σ6, H6, S6, q6⟩ := hsp
                exact end_ S6 fun s7 J7 => ⟨_, _, J7, q6⟩
              | ret u =>
                obtain ⟨v6, σ6, H6, S6, r6, q6⟩ := hsp
                exact end_ S6 fun s7 J7 => ⟨_, _, _, J7, r6, q6⟩
        | false =>
          show wpAny _ X.A (handleBy (.ref a) X.env hds2) _ _ _
          exact ih (hno rfl)
    exact go hh w
  · cases f with
    | next =>
      obtain ⟨σ', H', J', q⟩ := hsp
      exact wpAny_execs_nil ⟨σ', H', J'.ofTry ok, q⟩
    | brk =>
      obtain ⟨σ', H', J', q⟩ := hsp
      exact ⟨σ', H', J'.ofTry ok, q⟩
    | cont =>
      obtain ⟨σ', H', J', q⟩ := hsp
      exact ⟨σ', H', J'.ofTry ok, q⟩
    | ret u =>
      obtain ⟨v, σ', H', J', r, q⟩ := hsp
      exact ⟨v, σ', H', J'.ofTry ok, r, q⟩
end
end Dl
end
section
set_option linter.all false
set_option maxRecDepth 100000
set_option maxHeartbeats 4000000
/-! DlTry2: isinstance of a caught error that has fields. -/
namespace Dl
open PySem PySem.Spec PyProof.Rows L2
section
open PySem.W
variable {prog : Program} {w : World} {A : Around} {E : Value → Shared → Prop} {s : Shared} {K : PySem.W.Frag} {x D : Addr} {ox : Obj} {od : Option Obj}
theorem find_cls {C : Addr} {name : Str} {a g : Value} (hc : (clsIn K C).isSome = true) (ha : findIn K (.ref C) name = some (some a)) (hg : specialIn K a "__get__" = some (some g)) (ht : takesIn K a = some true) : findObj K C od name = some (.bind g a) := by
  obtain ⟨cd, hc⟩ := Option.isSome_iff_exists.mp hc
  unfold findObj
  rw [hc, Option.bind_some, ha, Option.bind_some]
  simp [hg, ht]
theorem its_class {Q : Option Value → Shared → Prop} (T : ExcC K D) (X : K.In s.heap) (I : InstAt s.heap x ox D od) (h : Q (some (.ref D)) { s with toks := s.toks + 1 }) : wpAny (model prog w) A (getAttr? (.ref x) "__class__") Q E s := by
  have hf : findObj K D od "__class__" = some (.bind (.builtin "getset_descriptor.__get__") (.builtin "object.__class__")) := find_cls (by obtain ⟨cd, hc, _⟩ := any_some T.hd; rw [hc]; rfl) T.ha T.hn T.ht
  obtain ⟨hp, g, d, t, os⟩ := s
  have M0 := I.type (M := model prog w)
  have M1 := looks_findIn (M := model prog w) X T.hg
  have M2 := looks_findIn (M := model prog w) X T.hk
  have M3 := looks_find (M := model prog w) X I hf
  have sub : Looks (model prog w) hp (isInstance (.ref x) (.type "BaseException")) true := M0.andThen (looks_subIn X T.hs)
  have z0 : (false && onTheHeap (Value.builtin "BaseException.__getattribute__")) = false := rfl
  have z2 : (Value.builtin "BaseException.__getattribute__" == Value.builtin "object.__getattribute__") = false := by decide +kernel
  have z1 : (onTheHeap (Value.ref D) && Value.builtin "BaseException.__getattribute__" == Value.builtin "object.__getattribute__") = false := by rw [z2]; rfl
  unfold getAttr? getAttrBy? getAttrBy
  refine wpAny_bind (wpAny_mkText (wpAny_bind (wpAny_attempt (wpAny_holding (wpAny_bind (M0.at (wpAny_bind (M1.at ?_))))))))
  show wpAny _ _ (if (onTheHeap (Value.ref D) && Value.builtin "BaseException.__getattribute__" == Value.builtin "object.__getattribute__") = true then _ else _) _ _ _
  rw [z1, if_neg Bool.false_ne_true]
  unfold getAttrByItsOwn hookBefore
  refine wpAny_bind ?_
  rw [if_pos (show onTheHeap (Value.ref D) = true from rfl)]
  refine M2.at ?_
  refine wpAny_bind (wpAny_attempt (wpAny_holding ?_))
  unfold callGetattribute
  rw [z0, if_neg Bool.false_ne_true]
  unfold boundAndCalled
  rw [PySem.F.excAttr_ValueError.ga.bind (.ref x)]
  refine wpAny_bind (wpAny_pure ?_)
  show wpAny _ _ (call (.builtin "BaseException.__getattribute__") [.ref x, .str "__class__" t]) _ _ _
  refine wpAny_call (codeAny_call_builtin PySem.F.excAttr_ValueError.ga.plain PySem.F.entry_bexc_ga ?_)
  refine @check_slot (model prog w) _ _ ⟨hp, g, d, t + 1, os⟩ "BaseException.__getattribute__" "BaseException" "__getattribute__" (.ref x) [.str "__class__" t] [] _ (by decide +kernel) (by decide +kernel) sub (PySem.F.args_bexc_ga (.ref x) (.str "__class__" t)) ?_
  unfold Builtin.«object.__getattribute__»
  refine wpAny_bind (wpAny_of_eq (a := ((Value.ref x : Value), [Value.str "__class__" t])) (by first | rfl | (simp only [slotArgs]; rfl)) ?_)
  refine wpAny_bind (wpAny_pure (wpAny_bind (M0.at (wpAny_bind (M3.at ?_)))))
  show wpAny _ _ (holding [Value.builtin "object.__class__"] (call (.builtin "getset_descriptor.__get__") [.builtin "object.__class__", .ref x, .ref D]) >>= ret) _ _ _
  refine wpAny_bind (wpAny_holding (wpAny_call (class_get (s := ⟨hp, g, d, t + 1, os⟩) (ox := ox) (od := od) X I T.hm ?_)))
  refine wpAny_pure ?_
  show wpAny _ _ (handedOut (.ref D)) _ _ _
  rw [handedOut_of (v := .ref D) rfl]
  first
    | exact wpAny_pure (wpAny_pure h)
    | exact wpAny_pure h
    | exact wpAny_pure (wpAny_bind (wpAny_pure (wpAny_pure h)))
theorem kit_exc (T : ExcC K D) : KitX K (.ref x) (.ref D) (fun h => InstAt h x ox D od) := by
  obtain ⟨cdD, hcD, hdD⟩ := any_some T.hd
  refine ⟨fun _ _ _ I => I.type, fun _ _ X _ => ?_, fun h tp dd its n sl X htp => ?_, fun X I k => its_class T X I k⟩
  · unfold clsIn at hcD
    split at hcD
    · rename_i c' d' cd' sl' ho
      intro A' Q' E' s' k q
      unfold isType loadHead
      exact wpAny_bind (wpAny_loadPart (k _ _ (X _ _ ho)) (wpAny_pure q))
    · cases hcD
  · refine Bool.eq_false_iff.mpr fun q => ?_
    have e : D = tp := Value.ref.inj (beq_iff_eq.mp q)
    subst e
    unfold clsIn at hcD
    split at hcD
    · rename_i c' d' cd' sl' ho
      have z := (X _ _ ho).symm.trans htp
      cases z
    · cases hcD
end
/-- isinstance(e, b), e the error that the suite holds; d: its own dict, if it has one -/
def rIsD (K : PySem.W.Frag) (D a : Addr) (d : Option Addr) : List V → Hp → VK → Prop := fun xs H Q => ∃ (c : V) (cv : Value) (b : Bool), xs = [.ref a, c] ∧ (∀ u, RelV c u → u = cv) ∧ PySem.W.kitOne K (.ref D) cv = some b ∧ (∀ dd, d = some dd → ∃ fs, H dd = some (.xd fs)) ∧ Q (.bl b) H
theorem call_isD {X : Cx} {a D : Addr} {d : Option Addr} {oe : Obj} {pn : List (Addr × Obj)} (C : ExcC X.K D) (hz : Zc (.ref D) d oe) (hf : ∃ vs, oe.data = .fields vs) : CallR (X.suite a ((a, oe) :: pn)) (.builtin "isinstance") (rIsD X.K D a d) := by
  intro pins s σ H xs us Q I r h
  obtain ⟨c, cv, b, rfl, hcv, e, hd, q⟩ := h
  cases r with
  | cons rx rr =>
    cases rr with
    | cons rt rr =>
      cases rr
      cases rx
      have ec := hcv _ rt
      subst ec
      obtain ⟨hget, _⟩ := I.pin (a, oe) (List.mem_append.mpr (.inl List.mem_cons_self))
      obtain ⟨vs, hv⟩ := hf
      have J : ∃ od, PySem.W.InstAt s.heap a oe D od := by
        obtain ⟨oc, odd, oda, osl⟩ := oe
        obtain ⟨h1, h2⟩ := hz
        dsimp only at h1 h2 hv
        subst h1 h2 hv
        cases odd with
        | none => exact ⟨none, hget, rfl, rfl, trivial⟩
        | some dd =>
          obtain ⟨fs, hx⟩ := hd dd rfl
          have ho : ObjOk X.prog X.w H s.heap dd (.xd fs) := I.hok dd _ hx
          obtain ⟨mA, ⟨o, _, _, ho, _⟩, _⟩ := ho
          exact ⟨some o, hget, rfl, rfl, ho⟩
      obtain ⟨od, J⟩ := J
      exact PySem.W.kia_one (kit_exc C) I.kIn J e (fun z => nomatch z) fun tk => ⟨.bl b, H, I.kept (t' := tk) fun _ _ z => z, rfl, q⟩
end Dl
end
section
set_option linter.all false
set_option maxRecDepth 100000
set_option maxHeartbeats 4000000
/-! DlXv: exceptions as values: made, asked for their class, for a field. -/
namespace Dl
open PySem PySem.Spec PyProof.Rows L2
section
variable {X : Cx} {pins : List (Addr × Obj)} {σ : L2.St} {H : Hp} {s : Shared}
theorem exX_at {C a : Addr} {d : Option Addr} (I : Inv X pins σ H s) (h : H a = some (ExX (.ref C) d a)) : ∃ oe vs, s.heap.get? a = some oe ∧ Zc (.ref C) d oe ∧ oe.data = .fields vs := by
  obtain ⟨⟨oe, vs, e, z, hd⟩, _⟩ := I.hok a _ h
  exact ⟨oe, vs, e, z, hd⟩
theorem exX_inst {C a : Addr} {d : Option Addr} (I : Inv X pins σ H s) (h : H a = some (ExX (.ref C) d a)) (hd : ∀ dd, d = some dd → ∃ fs, H dd = some (.xd fs)) : ∃ oe od, PySem.W.InstAt s.heap a oe C od := by
  obtain ⟨oe, vs, hget, hz, hv⟩ := exX_at I h
  refine ⟨oe, ?_⟩
  obtain ⟨oc, odd, oda, osl⟩ := oe
  obtain ⟨h1, h2⟩ := hz
  dsimp only at h1 h2 hv
  subst h1 h2 hv
  cases odd with
  | none => exact ⟨none, hget, rfl, rfl, trivial⟩
  | some dd =>
    obtain ⟨fs, hx⟩ := hd dd rfl
    have ho : ObjOk X.prog X.w H s.heap dd (.xd fs) := I.hok dd _ hx
    obtain ⟨mA, ⟨o, _, _, ho, _⟩, _⟩ := ho
    exact ⟨some o, hget, rfl, rfl, ho⟩
end
section
variable {X : Cx}
/-- isinstance(e, c) -/
def rIsX (K : PySem.W.Frag) : List V → Hp → VK → Prop := fun xs H Q => ∃ (a D : Addr) (d : Option Addr) (c : V) (cv : Value) (b : Bool), xs = [.ref a, c] ∧ H a = some (ExX (.ref D) d a) ∧ (∀ dd, d = some dd → ∃ fs, H dd = some (.xd fs)) ∧ ExcC K D ∧ (∀ u, RelV c u → u = cv) ∧ PySem.W.kitOne K (.ref D) cv = some b ∧ Q (.bl b) H
theorem call_isX : CallR X (.builtin "isinstance") (rIsX X.K) := by
  intro pins s σ H xs us Q I r h
  obtain ⟨a, D, d, c, cv, b, rfl, hx, hd, C, hcv, e, q⟩ := h
  obtain ⟨u1, u2, rfl, r1, r2⟩ := vals2 r
  cases (show u1 = Value.ref a from r1)
  have ec := hcv _ r2
  subst ec
  obtain ⟨oe, od, J⟩ := exX_inst I hx hd
  exact PySem.W.kia_one (kit_exc C) I.kIn J e (fun z => nomatch z) fun tk => ⟨.bl b, H, I.kept (t' := tk) fun _ _ z => z, rfl, q⟩
/-- isinstance(e, (c, ..)) -/
def rIsXT (K : PySem.W.Frag) : List V → Hp → VK → Prop := fun xs H Q => ∃ (a D tp : Addr) (d : Option Addr) (cs : List V) (ws : List Value) (b : Bool), xs = [.ref a, .ref tp] ∧ H tp = some (.tup cs) ∧ Paired ClsV cs ws ∧ H a = some (ExX (.ref D) d a) ∧ (∀ dd, d = some dd → ∃ fs, H dd = some (.xd fs)) ∧ ExcC K D ∧ PySem.W.kitAny K (.ref D) ws = some b ∧ Q (.bl b) H
theorem call_isXT : CallR X (.builtin "isinstance") (rIsXT X.K) := by
  intro pins s σ H xs us Q I r h
  obtain ⟨a, D, tp, d, cs, ws, b, rfl, hT, k, hx, hd, C, e, q⟩ := h
  obtain ⟨u1, u2, rfl, r1, r2⟩ := vals2 r
  cases (show u1 = Value.ref a from r1)
  cases (show u2 = Value.ref tp from r2)
  obtain ⟨oe, od, J⟩ := exX_inst I hx hd
  obtain ⟨_, its, rv, o, h1, h2, n, h3⟩ := (show ObjOk X.prog X.w H s.heap tp (.tup cs) from I.hok tp _ hT)
  have e3 := ClsV.all k rv
  subst e3
  obtain ⟨oc, od, dt, sl⟩ := o
  simp only at h2 h3
  subst h2 h3
  exact PySem.W.kia_tup (kit_exc C) I.kIn J h1 e (fun z => nomatch z) fun tk => ⟨.bl b, H, I.tok tk, rfl, q⟩
/-- e.f -/
def tXv (K : PySem.W.Frag) (f : Str) (te : TE) : TE := fun σ H Q => te σ H fun x H1 => ∃ (a C dd : Addr) (fs : List (Str × V)) (v : V), x = .ref a ∧ H1 a = some (ExX (.ref C) (some dd) a) ∧ H1 dd = some (.xd fs) ∧ fs.lookup f = some v ∧ XfC K C ∧ PySem.W.findIn K (.ref C) f = some none ∧ Q v H1
theorem pe_xv {e : Expr} {te : TE} {pos : Pos} {n : Str} (he : PE X e te) (hb : attributeBase e n X.env (eval e X.env) = eval e X.env) : PE X (.Attribute e n pos) (tXv X.K n te) := by
  refine ⟨fun pins s σ H Q I h => ?_⟩
  refine attr_of hb (thn (he.run pins s σ H _ I h) fun u s1 hh => ?_)
  obtain ⟨x, H1, I1, rx, a, C, dd, fs, v, ex, hx, ea, l, T, hno, q⟩ := hh
  subst ex
  obtain rfl : u = Value.ref a := rx
  obtain ⟨oe, vs, ha, hz, hd⟩ := exX_at I1 hx
  have hX : ObjOk X.prog X.w H1 s1.heap dd (.xd fs) := I1.hok dd _ ea
  obtain ⟨mA, hns, hr⟩ := hX
  obtain ⟨od, ho, hl⟩ := lookIn_ns hns
  obtain ⟨u, hu, ru⟩ := RelO.some_of (v := v) (o := mA n) (by rw [← l]; exact hr n)
  have J : PySem.W.InstAt s1.heap a oe C (some od) := ⟨ha, hz.1, by unfold PySem.W.notCls; rw [hd] <;> rfl, by rw [hz.2]; exact ho⟩
  exact HandSPX.exc_get I1.kIn J T.ga T.gg T.exC (PySem.W.findObj_own T.hdC hno rfl (by rw [hl, hu])) (handed_of ru) ⟨v, H1, I1.tok _, ru, q⟩
end
section
variable {X : Cx} {B newId initId : String} {tl : List Value} {C fI : Addr} {me x qual g : Str} {fd : FuncData} {e : Expr} {es : List Expr} {ta : TA} {p pos : Pos}
/-- C(v) with that __init__, as a value -/
def tMkV (C : Addr) (x : Str) (ta : TA) : TE := fun σ H Q => ta σ H fun vs H1 => ∃ v, vs = [v] ∧ ∀ d a, H1 d = none → H1 a = none → a ≠ d → Q (.ref a) (upd (upd H1 d (.xd [(x, v)])) a (ExX (.ref C) (some d) a))
theorem pe_mkv (hr : Room 1 X.A) (T : ExB B newId initId tl) (G : ExI X.prog X.K X.mg newId tl C fI me x qual fd) (hg : Gl X g) (hm : X.mg g = some (.ref C)) (ha : PA X (e :: es) ta) (hdb : (g == ("__debug__" : Str)) = false)
    (he : starEach (e :: es) X.env = (false, eval e X.env) :: starEach es X.env) (hpl : (backTo pos (starEach es X.env)).any (·.1) = false) : PE X (.Call (.Name g p) (e :: es) [] pos) (tMkV C x ta) := by
  refine ⟨fun pins s σ H Q I h => ?_⟩
  obtain ⟨nm, q, N, bs, sn, sub, ab, col, dd, k0, k1, k2, k3, k5, hC⟩ := G.cls
  refine wpAny_Call_Name_kw (ld_glob I hg hm ?_ hdb)
  refine PySem.W.callWith_K (h₀ := X.base) I.ok.mod.kin G.kC (thn (ha.run pos pins s σ H _ I h) fun us s1 ⟨vs, H1, I1, r1, q1⟩ => ⟨I1.kIn, ?_⟩) he hpl
  show wpAny _ _ (call (.ref C) us) _ _ _
  obtain ⟨v, rfl, q1⟩ := q1
  obtain ⟨u, rfl, ru⟩ := vals1 r1
  obtain ⟨hp, gn, dr, tk, os⟩ := s1
  have kk : ∀ b o, hp.get? b = some o → ((hp.push (PySem.W.kdv_tup [u])).push (PySem.HandSPX.excO C hp.objs.size)).get? b = some o := fun b o e => Heap.get?_push_of_some _ (Heap.get?_push_of_some _ e)
  have hget : ((hp.push (PySem.W.kdv_tup [u])).push (PySem.HandSPX.excO C hp.objs.size)).get? (hp.objs.size + 1) = some (PySem.HandSPX.excO C hp.objs.size) := by heap_get
  have sz2 : ((hp.push (PySem.W.kdv_tup [u])).push (PySem.HandSPX.excO C hp.objs.size)).objs.size = hp.objs.size + 2 := by rw [Heap.size_push, Heap.size_push]
  have hbase : X.base.get? (hp.objs.size + 1) = none := by
    cases z : X.base.get? (hp.objs.size + 1) with
    | none => rfl
    | some o => exact absurd (Heap.lt_size (I1.bk _ _ z)) (by show ¬ hp.objs.size + 1 < hp.objs.size; omega)
  refine wpAny_call (PySem.HandSPX.call_own T.fb (fun _ => rfl) (I1.kIn _ _ hC) (PySem.W.looks_findIn I1.kIn G.iC) (fun me => PySem.W.bind_fn I1.kIn me G.tyI) (by show 1 ≤ sizeLine; rw [sizeLine_eq]; decide)
    (init_code T G ?_ I1.ok.mod (fun b o z => kk b o (I1.bk b o z)) hbase hget fun h' tk' dx t1 k' hdx ne hx hn => ?_))
  · have z := (hr.make C [u] []).dp; omega
  · have hdp : hp.objs.size ≤ dx := by rw [sz2] at hdx; omega
    have kh : ∀ b o, hp.get? b = some o → h'.get? b = some o := fun b o z => k' b o (Nat.ne_of_lt (Nat.lt_succ_of_lt (Heap.lt_size z))) (kk b o z)
    have hna : H1 (hp.objs.size + 1) = none := I1.hok.fresh (Nat.le_succ _)
    have hnd : H1 dx = none := I1.hok.fresh hdp
    obtain ⟨G1, gk1, gk2⟩ := restrict h' fun b => decide (b ≠ hp.objs.size + 1)
    have gk : ∀ b, b ≠ hp.objs.size + 1 → G1.get? b = h'.get? b := fun b hb => gk1 b (decide_eq_true hb)
    have ge : G1.get? (hp.objs.size + 1) = none := gk2 _ (by simp)
    have kG : ∀ b o, hp.get? b = some o → G1.get? b = some o := fun b o z => (gk b (Nat.ne_of_lt (Nat.lt_succ_of_lt (Heap.lt_size z)))).trans (kh b o z)
    have hnG : G1.Ns1 dx (fun y => if y = x then some u else none) := hn.at fun o z => (gk dx ne).trans z
    have rel : ∀ f, RelO (([(x, v)] : List (Str × V)).lookup f) ((fun y => if y = x then some u else none) f) := relO_put (fs := []) ru fun _ => True.intro
    have J := I1.laid (t' := tk') (a := dx) (o := .xd [(x, v)]) (h' := G1) kG hdp ⟨_, hnG, rel⟩
    have up : ∀ b o, G1.get? b = some o → h'.get? b = some o := fun b o z => by
      by_cases hb : b = hp.objs.size + 1
      · rw [hb, ge] at z; cases z
      · exact (gk b hb).symm.trans z
    have hna' : upd H1 dx (.xd [(x, v)]) (hp.objs.size + 1) = none := by rw [upd_ne (Ne.symm ne)]; exact hna
    have J2 := J.laidN (t' := tk') (h' := h') (a := hp.objs.size + 1) (o := ExX (.ref C) (some dx) (hp.objs.size + 1)) up ge hna' ⟨⟨_, _, hx, ⟨rfl, rfl⟩, rfl⟩, ⟨_, hx⟩, fun _ _ ⟨o, v, q, r⟩ k => ⟨o, v, k o q, r⟩⟩
    exact ⟨rfl, .ref (hp.objs.size + 1), _, J2, rfl, q1 dx _ hnd hna (Ne.symm ne)⟩
end
end Dl
end
section
set_option linter.all false
set_option maxRecDepth 100000
set_option maxHeartbeats 4000000
/-! DlXk: exceptions made by a field's name, and those without a field. -/
namespace Dl
open PySem PySem.Spec PyProof.Rows L2
section
open HandSPX
variable {prog : Program} {w : World} {A : Around} {E : Value → Shared → Prop} {R : Result → Shared → Prop} {h : Heap} {g : Array GenState} {d : Drawn} {t : Nat} {os : OsState}
variable {nm q : Str} {C N : Addr} {bs bm tl : List Value} {hdct : Bool} {sn : List Str} {sub : List Value} {ab : Bool} {col : Option Bool} {dd : Option Addr} {k0 k1 k2 k3 k5 : Option Value} {B newId initId : String} {ks : List (Str × Value)}
/-- the look at the call of the class's own maker, names among the arguments -/
theorem look_newK {M : Model} {Q : Unit → Shared → Prop} (F : ExcBaseFacts B newId initId tl) (hT : ∀ X : String, bm.contains (.type X) = tl.contains (.type X))
    (hC : h.get? C = some (excClassObj nm q C N bs bm hdct sn sub ab col dd k0 k1 k2 k3 k5 newId)) (hq : Q () ⟨h, g, d, t, os⟩) :
    wpAny M A (checkBuiltinCall newId ⟨[.ref C], ks⟩) Q E ⟨h, g, d, t, os⟩ := by
  have above : (Value.ref C :: bm).contains (.type B) = true := by rw [List.contains_cons, hT, F.hasB, Bool.or_true]
  have star := F.noStar
  simp only [checkBuiltinCall, F.newKind, F.newSplit, F.newRow]
  repeat (first
    | refine wpAny_loadPart_at hC ?_
    | (refine wpAny_isSubtype_exc hC ?_; rw [above])
    | refine wpAny_staticBase_exc hC ?_
    | refine wpAny_madeBy_exc hC ?_
    | simp only [bne_self_eq_false, Bool.false_eq_true, if_false]
    | wp_step)
  exact hq
/-- what the maker lays: no arguments are kept, for all came by names -/
theorem newK (F : ExcBaseFacts B newId initId tl) (hT : ∀ X : String, bm.contains (.type X) = tl.contains (.type X))
    (hC : h.get? C = some (excClassObj nm q C N bs bm hdct sn sub ab col dd k0 k1 k2 k3 k5 newId))
    (hq : R (.ok (.ret (.ref (h.objs.size + 1)))) ⟨(h.push (W.kdv_tup [])).push (excO C h.objs.size), g, d, t, os⟩) :
    codeAny (model prog w) A (.builtin newId ⟨[.ref C], ks⟩) R ⟨h, g, d, t, os⟩ := by
  have ends := F.ends
  have inB : (Value.ref C :: bm).contains (.type B) = true := by rw [List.contains_cons, hT, F.hasB, Bool.or_true]
  have inA : (Value.ref C :: bm).contains (.type "AttributeError") = false := by rw [List.contains_cons, hT, F.noAttr]; rfl
  have inN : (Value.ref C :: bm).contains (.type "NameError") = false := by rw [List.contains_cons, hT, F.noName]; rfl
  refine codeAny_builtinAt F.entry ?_
  unfold Builtin.«BaseException.__new__»
  refine PySem.wpAt_bind ?_
  show PySem.wpAt _ _ _ (stack >>= _) _ _ _
  refine PySem.wpAt_bind (PySem.wpAt_stack fun p below => PySem.wpAt_of_wpAny ?_)
  wp_walk
  refine PySem.wpAt_of_wpAny ?_
  rw [F.owner]
  repeat (first
    | with_reducible refine wpAny_madeHere_exc F.canon hC ?_
    | with_reducible refine wpAny_loadPart_at hC ?_
    | (with_reducible refine wpAny_isSubtype_exc hC ?_; first | rw [inB] | rw [inA] | rw [inN])
    | wp_step)
  show R _ _
  rw [Heap.size_push]
  exact hq
theorem typeCallK (F : ExcBaseFacts B newId initId tl) (hT : ∀ X : String, bm.contains (.type X) = tl.contains (.type X)) {fI : Addr} {Q : PySem.Fin → Shared → Prop}
    (hC : h.get? C = some (excClassObj nm q C N bs bm hdct sn sub ab col dd k0 k1 k2 k3 k5 newId))
    (hi : W.Looks (model prog w) h (typeLookup (.ref C) "__init__") (some (.ref fI))) (hb : ∀ self, W.Looks (model prog w) h (bindSpecial (.ref fI) self) (.ref fI, [self]))
    (hq : codeAny (model prog w) A (.call (.ref fI) ⟨[.ref (h.objs.size + 1)], ks⟩)
      (fun r s' => match r with | .ok (.ret v) => v = .none ∧ Q (.done (.ret (.ref (h.objs.size + 1)))) s' | .ok _ => False | .error e => E e s')
      ⟨(h.push (W.kdv_tup [])).push (excO C h.objs.size), g, d, t, os⟩) :
    wpAny (model prog w) A (Builtin.«type.__call__» ⟨[.ref C], ks⟩) Q E ⟨h, g, d, t, os⟩ := by
  repeat (first
    | with_reducible refine wpAny_loadPart_at hC ?_
    | with_reducible refine wpAny_madeBy_exc hC ?_
    | wp_step)
  refine codeAny_call_builtin_code (Code.quiet_builtin _ F.quiet) (look_newK F hT hC (newK F hT hC ?_))
  show wpAny _ _ _ _ _ _
  have kp : ∀ b o, h.get? b = some o → ((h.push (W.kdv_tup [])).push (excO C h.objs.size)).get? b = some o := fun b o e => Heap.get?_push_of_some _ (Heap.get?_push_of_some _ e)
  have hC1 := kp _ _ hC
  have here : ((h.push (W.kdv_tup [])).push (excO C h.objs.size)).get? (h.objs.size + 1) = some (excO C h.objs.size) := by heap_get
  have inC : (Value.ref C :: bm).contains (.ref C) = true := by simp
  have look := hi.keeps kp
  have bound := (hb (.ref (h.objs.size + 1))).keeps kp
  unfold isInstance
  repeat (first
    | with_reducible refine wpAny_loadPart_at here ?_
    | (with_reducible refine wpAny_isSubtype_exc hC1 ?_; rw [inC])
    | wp_step)
  show wpAny _ _ (typeLookup (.ref C) _) _ _ _
  refine look.at (wpAny_holding (wpAny_bind (bound.at (wpAny_bind (wpAny_call (codeAny_mono hq fun r s' z => ?_))))))
  rcases r with e | (v | _ | _ | _) <;> first | exact z | exact z.elim | skip
  obtain ⟨rfl, z⟩ := z
  first
    | exact wpAny_pure (wpAny_pure z)
    | (wp_walk; exact z)
theorem callK (F : ExcBaseFacts B newId initId tl) (hT : ∀ X : String, bm.contains (.type X) = tl.contains (.type X)) {fI : Addr}
    (hC : h.get? C = some (excClassObj nm q C N bs bm hdct sn sub ab col dd k0 k1 k2 k3 k5 newId))
    (hi : W.Looks (model prog w) h (typeLookup (.ref C) "__init__") (some (.ref fI))) (hb : ∀ self, W.Looks (model prog w) h (bindSpecial (.ref fI) self) (.ref fI, [self]))
    (hq : codeAny (model prog w) (A.under (.builtin "type.__call__" ⟨[.ref C], ks⟩)) (.call (.ref fI) ⟨[.ref (h.objs.size + 1)], ks⟩) (W.InitBack (h.objs.size + 1) R)
      ⟨(h.push (W.kdv_tup [])).push (excO C h.objs.size), g, d, t, os⟩) :
    codeAny (model prog w) A (.call (.ref C) ⟨[], ks⟩) R ⟨h, g, d, t, os⟩ := by
  have f1 := tc_lookup
  have f2 := tc_bind (.ref C)
  have isTy : (⟨h, g, d, t, os⟩ : Shared).TypeIs (.ref C) "type" := ⟨_, hC, rfl⟩
  refine codeAny_of_tree ?_
  show wpAny _ _ (callAny (.ref C) _) _ _ _
  repeat (any_goals (first
    | assumption
    | with_reducible refine wpAny_loadPart_at hC ?_
    | wp_step))
  refine ⟨rfl, codeAny_call_builtin_at (Code.quiet_builtin _ (by decide +kernel)) entry_typeCall (wpAny_check_type_call_sub hC (typeCallK F hT hC hi hb (codeAny_mono hq fun r s' z => ?_)))⟩
  rcases r with e | (v | _ | _ | _) <;> exact z
end
end Dl
end
section
set_option linter.all false
set_option maxRecDepth 100000
set_option maxHeartbeats 4000000
/-! DlXm: C(f = v), C() as values. -/
namespace Dl
open PySem PySem.Spec PyProof.Rows L2
section
variable {X : Cx} {B newId initId : String} {tl : List Value} {C fI : Addr} {me x qual g : Str} {fd : FuncData} {e : Expr} {es : List Expr} {ta : TA} {p pos : Pos}
theorem pe_mkvk {kpos : Pos} (hr : Room 1 X.A) (T : ExB B newId initId tl) (G : ExI X.prog X.K X.mg newId tl C fI me x qual fd) (hg : Gl X g) (hm : X.mg g = some (.ref C)) (ha : PK X [⟨some x, e, kpos⟩] ta) (hdb : (g == ("__debug__" : Str)) = false) : PE X (.Call (.Name g p) [] [⟨some x, e, kpos⟩] pos) (tMkV C x ta) := by
  refine ⟨fun pins s σ H Q I h => ?_⟩
  obtain ⟨nm, q, N, bs, sn, sub, ab, col, dd, k0, k1, k2, k3, k5, hC⟩ := G.cls
  refine wpAny_Call_Name_kw (ld_glob I hg hm ?_ hdb)
  refine PySem.W.callWith_KW0 (h₀ := X.base) I.ok.mod.kin G.kC (by rfl) (thn (ha.run pos pins s σ H _ I h) fun us s1 ⟨vs, H1, I1, r1, q1⟩ => ⟨I1.kIn, ?_⟩) (by rfl)
  obtain ⟨v, rfl, q1⟩ := q1
  obtain ⟨u, rfl, ru⟩ := vals1 r1
  show wpAny _ _ (call (.ref C) [] [(x, u)]) _ _ _
  obtain ⟨hp, gn, dr, tk, os⟩ := s1
  have kk : ∀ b o, hp.get? b = some o → ((hp.push (PySem.W.kdv_tup [])).push (PySem.HandSPX.excO C hp.objs.size)).get? b = some o := fun b o e => Heap.get?_push_of_some _ (Heap.get?_push_of_some _ e)
  have hget : ((hp.push (PySem.W.kdv_tup [])).push (PySem.HandSPX.excO C hp.objs.size)).get? (hp.objs.size + 1) = some (PySem.HandSPX.excO C hp.objs.size) := by heap_get
  have sz2 : ((hp.push (PySem.W.kdv_tup [])).push (PySem.HandSPX.excO C hp.objs.size)).objs.size = hp.objs.size + 2 := by rw [Heap.size_push, Heap.size_push]
  have hbase : X.base.get? (hp.objs.size + 1) = none := by
    cases z : X.base.get? (hp.objs.size + 1) with
    | none => rfl
    | some o => exact absurd (Heap.lt_size (I1.bk _ _ z)) (by show ¬ hp.objs.size + 1 < hp.objs.size; omega)
  refine wpAny_call (callK T.fb (fun _ => rfl) (I1.kIn _ _ hC) (PySem.W.looks_findIn I1.kIn G.iC) (fun me => PySem.W.bind_fn I1.kIn me G.tyI)
    (init_codeA T G ?_ I1.ok.mod (fun b o z => kk b o (I1.bk b o z)) (G.bindk _ _ _) hbase hget fun h' tk' dx t1 k' hdx ne hx hn => ?_))
  · have z := (hr.make C [] [(x, u)]).dp; omega
  · have hdp : hp.objs.size ≤ dx := by rw [sz2] at hdx; omega
    have kh : ∀ b o, hp.get? b = some o → h'.get? b = some o := fun b o z => k' b o (Nat.ne_of_lt (Nat.lt_succ_of_lt (Heap.lt_size z))) (kk b o z)
    have hna : H1 (hp.objs.size + 1) = none := I1.hok.fresh (Nat.le_succ _)
    have hnd : H1 dx = none := I1.hok.fresh hdp
    obtain ⟨G1, gk1, gk2⟩ := restrict h' fun b => decide (b ≠ hp.objs.size + 1)
    have gk : ∀ b, b ≠ hp.objs.size + 1 → G1.get? b = h'.get? b := fun b hb => gk1 b (decide_eq_true hb)
    have ge : G1.get? (hp.objs.size + 1) = none := gk2 _ (by simp)
    have kG : ∀ b o, hp.get? b = some o → G1.get? b = some o := fun b o z => (gk b (Nat.ne_of_lt (Nat.lt_succ_of_lt (Heap.lt_size z)))).trans (kh b o z)
    have hnG : G1.Ns1 dx (fun y => if y = x then some u else none) := hn.at fun o z => (gk dx ne).trans z
    have rel : ∀ f, RelO (([(x, v)] : List (Str × V)).lookup f) ((fun y => if y = x then some u else none) f) := relO_put (fs := []) ru fun _ => True.intro
    have J := I1.laid (t' := tk') (a := dx) (o := .xd [(x, v)]) (h' := G1) kG hdp ⟨_, hnG, rel⟩
    have up : ∀ b o, G1.get? b = some o → h'.get? b = some o := fun b o z => by
      by_cases hb : b = hp.objs.size + 1
      · rw [hb, ge] at z; cases z
      · exact (gk b hb).symm.trans z
    have hna' : upd H1 dx (.xd [(x, v)]) (hp.objs.size + 1) = none := by rw [upd_ne (Ne.symm ne)]; exact hna
    have J2 := J.laidN (t' := tk') (h' := h') (a := hp.objs.size + 1) (o := ExX (.ref C) (some dx) (hp.objs.size + 1)) up ge hna' ⟨⟨_, _, hx, ⟨rfl, rfl⟩, rfl⟩, ⟨_, hx⟩, fun _ _ ⟨o, v, q, r⟩ k => ⟨o, v, k o q, r⟩⟩
    exact ⟨rfl, .ref (hp.objs.size + 1), _, J2, rfl, q1 dx _ hnd hna (Ne.symm ne)⟩
/-- C(), a class without an __init__ of its own -/
theorem pe_mk0 (T : ExB B newId initId tl) (q : PySem.W.excIn X.K C tl newId = true) (hm : X.mg g = some (.ref C)) (kC : PySem.W.keepIn X.K (.ref C) = true) (hg : Gl X g) (hdb : (g == ("__debug__" : Str)) = false) :
    PE X (.Call (.Name g p) [] [] pos) (fun _ H Q => ∀ a, H a = none → Q (.ref a) (upd H a (ExX (.ref C) none a))) := by
  refine ⟨fun pins s σ H Q I h => ?_⟩
  refine wpAny_Call_Name_kw (ld_glob I hg hm ?_ hdb)
  refine PySem.W.callWith_K0 I.kIn kC ?_
  show wpAny _ _ (call (.ref C) []) _ _ _
  obtain ⟨bm, N, nm, qn, bs, hdct, sn, sub, ab, col, dd, k0, k1, k2, k3, k5, mN, hC, hN, hni, own⟩ := exc_obj I.kIn q
  refine wpAny_call_exc_subT T.fb own hC hN hni (fun h' a made => ?_) (Nat.zero_le _)
  have hn : H a = none := I.hok.gone made.new
  obtain ⟨t, ht, _, _⟩ := made.there
  exact ⟨.ref a, _, I.laidN (o := ExX (.ref C) none a) made.keeps made.new hn ⟨⟨_, _, ht, ⟨rfl, rfl⟩, rfl⟩, ⟨_, ht⟩, fun _ _ ⟨o, v, q, r⟩ k => ⟨o, v, k o q, r⟩⟩, rfl, h a hn⟩
end
end Dl
end
section
set_option linter.all false
set_option maxRecDepth 100000
set_option maxHeartbeats 4000000
/-! DlXd: the rules of exceptions as values, over data. -/
namespace Dl
open PySem PySem.Spec PyProof.Rows L2
/-- a class of errors that is made with a field -/
structure Xv1 (X : Cx) (x f : Str) : Prop where
  mg : X.mg x = some (.ref (He.ga X.K x))
  ex : ∃ B newId initId tl fI me qual fd, ExB B newId initId tl ∧ ExI X.prog X.K X.mg newId tl (He.ga X.K x) fI me f qual fd
/-- one that is made with nothing -/
structure Xv0 (X : Cx) (x : Str) : Prop where
  mg : X.mg x = some (.ref (He.ga X.K x))
  ex : ∃ B newId initId tl, ExB B newId initId tl ∧ PySem.W.excIn X.K (He.ga X.K x) tl newId = true
  kp : PySem.W.keepIn X.K (.ref (He.ga X.K x)) = true
/-- whose field can be asked for -/
structure XfOk (K : PySem.W.Frag) (x f : Str) : Prop where
  xf : XfC K (He.ga K x)
  no : PySem.W.findIn K (.ref (He.ga K x)) f = some none
/-- the class c as it is seen -/
structure ClsAt (X : Cx) (c : Str) (v : V) (cv : Value) : Prop where
  cl : ClsV v cv
  rel : RelV v cv
  at_ : X.mg c = some cv ∨ X.mg c = none ∧ bootBuiltins c = some cv
  dn : c ≠ "__name__"
  db : (c == ("__debug__" : Str)) = false
section
variable {X : Cx} {P : Option V} {XR : XRel} {W : WX} {x f g c : Str} {p pos p2 kpos : Pos} {e : Expr} {es : List Expr} {fe : Env → R (Vl × Env)} {o : Env → R (Op × Env)}
theorem mk_core {σ : L2.St} {H : Hp} {Q : VK} {F : Hp} {ρ : Env} {C : Addr} (hC : C = He.ga X.K x) (ok : Ok X.K P F ρ σ H) (q : Fin X.K P XR W F ρ H σ (RV X.K σ) ((fe ρ).bind fun r => .ok (.fr (excD x f r.1.d), r.2)) Q) :
    tMkV C f (tVs X.K P XR W fun ρ => (fe ρ).bind fun r => (R.ok (([] : List D), r.2)).bind fun q => .ok (r.1.d :: q.1, q.2)) σ H Q := by
  subst hC
  refine ⟨F, ρ, ok, ?_⟩
  show Fin X.K P XR W F ρ H σ (RVs X.K) ((fe ρ).bind fun r => (R.ok (([] : List D), r.2)).bind fun q => .ok (r.1.d :: q.1, q.2)) _
  cases hf : fe ρ with
  | stuck => rw [hf] at q; exact q.elim
  | exc c xs ρ' => rw [hf] at q; exact q
  | ok a =>
    rw [hf] at q
    intro vs F' H' o s r
    have r : DqAll X.K F' vs [a.1.d] := r
    cases r with
    | cons h t =>
      cases t
      refine ⟨_, rfl, fun d b nd nb ne => ?_⟩
      rename_i v
      obtain ⟨o1, s1, e1, _⟩ := o.laid (u := .xd [(f, v)]) nd
      have nb' : upd H' d (.xd [(f, v)]) b = none := by rw [upd_ne ne]; exact nb
      obtain ⟨o2, s2, e2, _⟩ := o1.laid (u := ExX (.ref (He.ga X.K x)) (some d) b) nb'
      exact q (.ref b) _ _ o2 (s.trans (s1.trans s2)) (Dq.ex1 upd_same (by rw [upd_ne (Ne.symm ne)]; exact upd_same) (Dq.ext (e1.trans e2) h))
theorem pd_mkx (hr : Room 1 X.A) (T : Xv1 X x f) (hg : Gl X x) (hdb : (x == ("__debug__" : Str)) = false) (he : PD X P XR W e fe) (hs : starEach [e] X.env = (false, eval e X.env) :: starEach [] X.env) :
    PD X P XR W (.Call (.Name x p) [e] [] pos) (fun ρ => (fe ρ).bind fun r => .ok (.fr (excD x f r.1.d), r.2)) := by
  obtain ⟨B, newId, initId, tl, fI, me, qual, fd, TB, G⟩ := T.ex
  exact PE.imp (pe_mkv hr TB G hg T.mg (pa_consd hs he pa_nild) hdb hs (by rfl)) fun σ H Q ⟨F, ρ, ok, q⟩ => mk_core rfl ok q
theorem pd_mkxk (hr : Room 1 X.A) (T : Xv1 X x f) (hg : Gl X x) (hdb : (x == ("__debug__" : Str)) = false) (he : PD X P XR W e fe) :
    PD X P XR W (.Call (.Name x p) [] [⟨some f, e, kpos⟩] pos) (fun ρ => (fe ρ).bind fun r => .ok (.fr (excD x f r.1.d), r.2)) := by
  obtain ⟨B, newId, initId, tl, fI, me, qual, fd, TB, G⟩ := T.ex
  exact PE.imp (pe_mkvk hr TB G hg T.mg (pk_consd he pk_nild) hdb) fun σ H Q ⟨F, ρ, ok, q⟩ => mk_core rfl ok q
theorem pd_mk0 (T : Xv0 X x) (hg : Gl X x) (hdb : (x == ("__debug__" : Str)) = false) : PD X P XR W (.Call (.Name x p) [] [] pos) (fun ρ => .ok (.fr (excD0 x), ρ)) := by
  obtain ⟨B, newId, initId, tl, TB, hx⟩ := T.ex
  refine PE.imp (pe_mk0 TB hx T.mg T.kp hg hdb) fun σ H Q ⟨F, ρ, ok, q⟩ a na => ?_
  obtain ⟨o1, s1, e1, _⟩ := ok.laid (u := ExX (.ref (He.ga X.K x)) none a) na
  exact q (.ref a) _ _ o1 s1 (Dq.ex0 upd_same)
/-- an exception at hand -/
theorem exc_at {F H : Hp} {v : V} {d : D} (s : Same F H) (h : DpT X.K F H v d) (hc : (clsD d).isSome = true) : ∃ y a, clsD d = some y ∧ v = .ref a ∧ ((d = excD0 y ∧ H a = some (ExX (.ref (He.ga X.K y)) none a)) ∨ ∃ g w dw dd, d = excD y g dw ∧ H a = some (ExX (.ref (He.ga X.K y)) (some dd) a) ∧ H dd = some (.xd [(g, w)]) ∧ Dq X.K F w dw) := by
  cases h with
  | dic h =>
    cases h with
    | ex0 h => exact ⟨_, _, rfl, rfl, .inl ⟨rfl, s _ _ h⟩⟩
    | ex1 h h2 t => exact ⟨_, _, rfl, rfl, .inr ⟨_, _, _, _, rfl, s _ _ h, s _ _ h2, t⟩⟩
  | _ => cases hc
theorem attrD_some {tab : List Str} {d v : D} (h : attrD f tab d = some v) : ∃ y, y ∈ tab ∧ d = excD y f v := by
  unfold attrD at h
  split at h
  · rename_i y g v'
    split at h
    · rename_i hc
      cases h
      obtain ⟨h1, h2⟩ := Bool.and_eq_true_iff.mp hc
      obtain ⟨z, hz, e⟩ := List.any_eq_true.mp h2
      have e1 := of_decide_eq_true h1
      have e2 := of_decide_eq_true e
      subst e1 e2
      exact ⟨_, hz, rfl⟩
    · cases h
  · cases h
theorem pd_attr {tab : List Str} (T : ∀ y ∈ tab, XfOk X.K y f) (he : PO' X P XR W e o) (hb : attributeBase e f X.env (eval e X.env) = eval e X.env) :
    PD X P XR W (.Attribute e f pos) (fun ρ => (o ρ).bind fun r => R.opt (deref r.2 r.1) fun d => R.opt (attrD f tab d) fun v => .ok (.fr v, r.2)) :=
  PE.imp (pe_xv he hb) fun σ H Q ⟨F, ρ, ok, q⟩ => by
    refine ⟨F, ρ, ok, ?_⟩
    refine Fin.mono (Fin.bind (RR := RO X.K σ) back_RV q) fun z H1 hz => ?_
    obtain ⟨F1, ρ1, a1, _, o1, s1, r1, q1⟩ := hz
    obtain ⟨d, e1, q1⟩ := Fin.opt q1
    obtain ⟨v, e2, q2⟩ := Fin.opt q1
    clear q1
    obtain ⟨y, hy, ed⟩ := attrD_some e2
    subst ed
    obtain ⟨y', a, hc, ev, k⟩ := exc_at o1.sub (ro_here o1 r1 e1) rfl
    cases hc
    rcases k with ⟨k, _⟩ | ⟨g, w, dw, dd, k, k1, k2, k3⟩
    · cases k
    · cases k
      have T := T _ hy
      exact ⟨a, _, dd, _, w, ev, k1, k2, by simp [List.lookup], T.xf, T.no, fin_fr q2 o1 k3⟩
/-- the name of a class -/
theorem pe_cls {v : V} {cv : Value} (T : ClsAt X c v cv) (hg : Gl X c) : PE X (.Name c p) (tC v) := by
  rcases T.at_ with h | ⟨h, hb⟩
  · exact pe_glob hg h T.rel T.db
  · exact pe_bltn hg h hb T.rel T.dn T.db
theorem isxD_some {tab : List (Str × Bool)} {d : D} {b : Bool} (h : isxD tab d = some b) : ∃ y, clsD d = some y ∧ (y, b) ∈ tab := by
  obtain ⟨y, h1, h2⟩ := Option.bind_eq_some_iff.mp h
  obtain ⟨pr, h3, h4⟩ := Option.map_eq_some_iff.mp h2
  have h5 := List.find?_some h3
  have e := of_decide_eq_true h5
  subst e h4
  exact ⟨pr.1, h1, List.mem_of_find?_eq_some h3⟩
abbrev isxF (tab : List (Str × Bool)) (o : Env → R (Op × Env)) : Env → R (Vl × Env) := fun ρ => (o ρ).bind fun r => R.opt (deref r.2 r.1) fun d => R.opt (isxD tab d) fun b => .ok (.fr (.bool b), r.2)
theorem pd_isx {tab : List (Str × Bool)} {v : V} {cv : Value} (T : ClsAt X c v cv) (hT : ∀ z ∈ tab, ExcC X.K (He.ga X.K z.1) ∧ PySem.W.kitOne X.K (.ref (He.ga X.K z.1)) cv = some z.2) (hg : Gl X "isinstance") (hm : X.mg "isinstance" = none) (hgc : Gl X c) (he : PO' X P XR W e o)
    (hs1 : starEach [e, .Name c p2] X.env = (false, eval e X.env) :: starEach [.Name c p2] X.env) (hs2 : starEach [.Name c p2] X.env = (false, eval (.Name c p2) X.env) :: starEach [] X.env)
    (hpl : (backTo pos (starEach [.Name c p2] X.env)).any (·.1) = false) : PD X P XR W (.Call (.Name "isinstance" p) [e, .Name c p2] [] pos) (isxF tab o) :=
  PE.imp (pe_callB call_isX hg hm PyProof.Rows.boot_isinstance (pa_cons he (pa_cons (pe_cls T hgc) pa_nil hs2) hs1) (by decide) (by decide) hs1 hpl) fun σ H Q ⟨F, ρ, ok, q⟩ => by
    refine ⟨F, ρ, ok, ?_⟩
    refine Fin.mono (Fin.bind (RR := RO X.K σ) back_RV q) fun z H1 hz => ?_
    obtain ⟨F1, ρ1, a1, _, o1, s1, r1, q1⟩ := hz
    obtain ⟨d, e1, q1⟩ := Fin.opt q1
    obtain ⟨b, e2, q1⟩ := Fin.opt q1
    obtain ⟨y, hy, hm⟩ := isxD_some e2
    obtain ⟨ec, kit⟩ := hT _ hm
    obtain ⟨y', a, hc, ev, k⟩ := exc_at o1.sub (ro_here o1 r1 e1) (by rw [hy]; rfl)
    rw [hy] at hc
    cases hc
    have hcv : ∀ u, RelV v u → u = cv := fun u r => T.cl.eq r
    rcases k with ⟨_, k⟩ | ⟨g, w, dw, dd, _, k1, k2, k3⟩
    · exact ⟨a, _, none, v, cv, b, by rw [ev], k, fun _ z => (nomatch z), ec, hcv, kit, fin_fr q1 o1 (.bl _)⟩
    · exact ⟨a, _, some dd, v, cv, b, by rw [ev], k1, fun _ z => (by cases z; exact ⟨_, k2⟩), ec, hcv, kit, fin_fr q1 o1 (.bl _)⟩
def tClss (vs : List V) : TA := fun _ H Q => Q vs H
theorem pa_cls0 : PA X [] (tClss []) := PA.imp pa_nil fun σ H Q q => q
theorem pa_clss {vs : List V} {v : V} {cv : Value} (T : ClsAt X c v cv) (hgc : Gl X c) (hs : starEach (.Name c p2 :: es) X.env = (false, eval (.Name c p2) X.env) :: starEach es X.env) (h : PA X es (tClss vs)) : PA X (.Name c p2 :: es) (tClss (v :: vs)) :=
  PA.imp (pa_cons (pe_cls T hgc) h hs) fun σ H Q q => q
theorem pd_isxT {k : Nat} {tab : List (Str × Bool)} {vs : List V} {ws : List Value} (hl : vs.length ≤ 1000) (hv : Paired ClsV vs ws) (ht : PA X es (tClss vs)) (hT : ∀ z ∈ tab, ExcC X.K (He.ga X.K z.1) ∧ PySem.W.kitAny X.K (.ref (He.ga X.K z.1)) ws = some z.2) (hg : Gl X "isinstance") (hm : X.mg "isinstance" = none) (he : PO' X P XR W e o)
    (hs1 : starEach [e, .Tuple es k p2] X.env = (false, eval e X.env) :: starEach [.Tuple es k p2] X.env) (hs2 : starEach [.Tuple es k p2] X.env = (false, eval (.Tuple es k p2) X.env) :: starEach [] X.env)
    (hpl : (backTo pos (starEach [.Tuple es k p2] X.env)).any (·.1) = false) : PD X P XR W (.Call (.Name "isinstance" p) [e, .Tuple es k p2] [] pos) (isxF tab o) :=
  PE.imp (pe_callB call_isXT hg hm PyProof.Rows.boot_isinstance (pa_cons he (pa_cons (pe_tup ht) pa_nil hs2) hs1) (by decide) (by decide) hs1 hpl) fun σ H Q ⟨F, ρ, ok, q⟩ => by
    refine ⟨F, ρ, ok, ?_⟩
    refine Fin.mono (Fin.bind (RR := RO X.K σ) back_RV q) fun z H1 hz => ?_
    obtain ⟨F1, ρ1, a1, _, o1, s1, r1, q1⟩ := hz
    obtain ⟨d, e1, q1⟩ := Fin.opt q1
    obtain ⟨b, e2, q1⟩ := Fin.opt q1
    obtain ⟨y, hy, hm⟩ := isxD_some e2
    obtain ⟨ec, kit⟩ := hT _ hm
    refine ⟨by rw [sizeLine_eq]; omega, fun tp hp => ?_⟩
    have eH : Same H1 (upd H1 tp (.tup vs)) := fun b u q => by rw [upd_ne (ne_of_none q hp)]; exact q
    have o2 := o1.grow eH
    obtain ⟨y', a, hc, ev, kk⟩ := exc_at o2.sub (ro_here o2 (ro_later (Step.grow eH) r1) e1) (by rw [hy]; rfl)
    rw [hy] at hc
    cases hc
    have fin := fin_fr (Fin.shift back_RV (Step.grow eH) q1) o2 (.bl b)
    rcases kk with ⟨_, k⟩ | ⟨g, w, dw, dd, _, k1, k2, k3⟩
    · exact ⟨a, _, tp, none, vs, ws, b, by rw [ev], upd_same, hv, k, fun _ z => (nomatch z), ec, kit, fin⟩
    · exact ⟨a, _, tp, some dd, vs, ws, b, by rw [ev], upd_same, hv, k1, fun _ z => (by cases z; exact ⟨_, k2⟩), ec, kit, fin⟩
end
end Dl
end
section
set_option linter.all false
set_option maxRecDepth 100000
set_option maxHeartbeats 8000000
/-! DlSnd: the check is right. -/
namespace Dl
open PySem PySem.Spec PyProof.Rows L2
/-- a class, by the globals or by the built-in names -/
def cvO (X : Cx) (c : Str) : Value := match X.mg c with
  | some v => v
  | none => (bootBuiltins c).getD .none
def vOf : Value → V
  | .ref a => .ref a
  | .type n => .ty n
  | _ => .non
/-- what is asked of exceptions as values -/
structure XisOk (X : Cx) (x c : Str) (b : Bool) : Prop where
  ec : ExcC X.K (He.ga X.K x)
  cl : ClsAt X c (vOf (cvO X c)) (cvO X c)
  kit : PySem.W.kitOne X.K (.ref (He.ga X.K x)) (cvO X c) = some b
structure Good (Γ : Gm) (c : Calls) (XR : XRel) (n : Nat) (s : Sc) (X : Cx) : Prop where
  sc : X.env.scope = s.vis
  N : X.N = Γ.N
  nd : X.N.Nodup
  calm : X.calm = true
  room : Room n X.A
  cell : ∀ x, s.own.names.lookup x = some .cell → X.fn x = true
  blt : ∀ x ∈ Γ.blt, X.mg x = none
  con : ∀ x d, Γ.con x d = true → ∃ u v, X.mg x = some u ∧ RelV v u ∧ ∀ F, Dq X.K F v d
  fn : ∀ f g np io, Γ.fn f = some (g, np, io) → ∃ a fd ps, FnOk X.prog X.w X.K X.mg X.base (L2.CX X.prog X.w) n a fd ps (spF X.K XR np (c f) io) ∧ X.mg g = some (.ref a) ∧ PySem.W.keepIn X.K (.ref a) = true ∧ L2.Binds X.K fd ps []
  kw : ∀ f g ks perm, (f, g, ks, perm) ∈ Γ.kw → ∃ a fd ps, FnOk X.prog X.w X.K X.mg X.base (L2.CX X.prog X.w) n a fd ps (spF X.K XR perm.length (c f) false) ∧ X.mg g = some (.ref a) ∧ PySem.W.keepIn X.K (.ref a) = true ∧ KwB X.K fd ps ks perm
  room1 : Room 1 X.A
  xv : ∀ x f, (x, f) ∈ Γ.xv → Xv1 X x f ∧ XfOk X.K x f
  x0 : ∀ x ∈ Γ.x0, Xv0 X x
  xis : ∀ x c b, (x, c, b) ∈ Γ.xis → XisOk X x c b
section
variable {Γ : Gm} {c : Calls} {XR : XRel} {n : Nat} {s : Sc} {X : Cx}
theorem Good.units (g : Good Γ c XR n s X) : X.A.units + 66 < cLine := by have := g.room.un; omega
theorem Good.blk (g : Good Γ c XR n s X) (s1 : Shared) (H : Hp) (scope : Scope) (C : Addr) (cl : List (Str × Addr)) (fp : List Addr) : Good Γ c XR n (insideS scope s) (X.blk s1 H scope (compEnvC scope cl C X.env) fp) where
  sc := by
    show relabel scope X.env = relS scope s.vis
    rw [← g.sc]
    rfl
  N := g.N
  nd := g.nd
  calm := g.calm
  room := g.room
  cell := fun x h => by
    show (scope.names.lookup x == some .cell) = true
    rw [show scope.names.lookup x = some .cell from h]
    rfl
  blt := g.blt
  con := g.con
  fn := g.fn
  kw := g.kw
  room1 := g.room1
  xv := fun x f h => ⟨⟨(g.xv x f h).1.mg, (g.xv x f h).1.ex⟩, (g.xv x f h).2⟩
  x0 := fun x h => ⟨(g.x0 x h).mg, (g.x0 x h).ex, (g.x0 x h).kp⟩
  xis := fun x c b h => ⟨(g.xis x c b h).ec, ⟨(g.xis x c b h).cl.cl, (g.xis x c b h).cl.rel, (g.xis x c b h).cl.at_, (g.xis x c b h).cl.dn, (g.xis x c b h).cl.db⟩, (g.xis x c b h).kit⟩
theorem Good.io (g : Good Γ c XR n s X) (b : Bool) : Good { Γ with io := b } c XR n s X := ⟨g.sc, g.N, g.nd, g.calm, g.room, g.cell, g.blt, g.con, g.fn, g.kw, g.room1, g.xv, g.x0, g.xis⟩
theorem vis_of (g : Good Γ c XR n s X) {x : Str} (h : visB s x = true) : Vis X.env.scope x := by
  unfold Vis
  rw [g.sc]
  unfold visB at h
  split at h
  · exact .inl ‹_›
  · exact .inr (.inl ‹_›)
  · exact .inr (.inr ‹_›)
  · cases h
theorem gl_of (g : Good Γ c XR n s X) {x : Str} (h : glB s x = true) : Gl X x := by
  unfold Gl Env.kindOf
  rw [g.sc]
  exact of_decide_eq_true h
theorem plain_of {x : Str} (h : plainB x = true) : (x == ("__debug__" : Str)) = false ∧ (x == ("__classdict__" : Str)) = false := by
  obtain ⟨h1, h2⟩ := and2 h
  exact ⟨by simpa using h1, by simpa using h2⟩
theorem nm_of (g : Good Γ c XR n s X) {i : Nat} {x : Str} (h : nmB Γ s i x = true) : X.N[i]? = some x ∧ Vis X.env.scope x ∧ (x == ("__debug__" : Str)) = false ∧ (x == ("__classdict__" : Str)) = false := by
  obtain ⟨h1, h2⟩ := and2 h
  obtain ⟨h3, h4⟩ := and2 h1
  exact ⟨by rw [g.N]; exact of_decide_eq_true h3, vis_of g h4, (plain_of h2).1, (plain_of h2).2⟩
theorem blt_of (g : Good Γ c XR n s X) {x : Str} (h : bltB Γ s x = true) : Gl X x ∧ X.mg x = none := by
  obtain ⟨h1, h2⟩ := and2 h
  exact ⟨gl_of g h1, g.blt x (of_decide_eq_true h2)⟩
theorem star_of {x : Expr} {xs : List Expr} {env : PySem.Env} (h : nstar x = true) : starEach (x :: xs) env = (false, eval x env) :: starEach xs env := by
  cases x <;> first | rfl | cases h
theorem plain_args {pos : Pos} {env : PySem.Env} : ∀ {xs : List Expr}, nstars xs = true → (backTo pos (starEach xs env)).any (·.1) = false
  | [], _ => rfl
  | x :: xs, h => by
    obtain ⟨h1, h2⟩ := and2 (show (nstar x && nstars xs) = true from h)
    rw [star_of h1]
    show (false || (backTo pos (starEach xs env)).any (·.1)) = false
    rw [plain_args h2]
    rfl
theorem ix_of {y : Expr} (h : nslice y = true) : PlainIx y := fun o i => by
  cases y <;> first | rfl | cases h
theorem mark_of {y : Expr} {op : CmpOp} (h : nset y = true) : behindInMarks op y = false := by
  cases y <;> first | rfl | cases h
theorem fold_of {y : Expr} {env : PySem.Env} (h : nset y = true) : ∀ x, foldedSetIterable y env x = pure x := fun x => by
  cases y <;> first | rfl | cases h
theorem nstar_tail {op : BoolOp} {y : Expr} {r : List Expr} {p : Pos} : True := trivial
variable {P : Option V} {W : WX}
theorem op_ok {e : E} {f : Env → R (Vl × Env)} {ch : Expr → Bool} {x : Expr} (g : Good Γ c XR n s X) (h : opC Γ s e ch x = true) (ih : ch x = true → PD X P XR W x f) : PO' X P XR W x (opOf e f) := by
  have key : (∀ i, e ≠ .pk i) → PO' X P XR W x (opOf e f) := fun ne => by
    have e1 : opC Γ s e ch x = ch x := by cases e <;> first | rfl | exact absurd rfl (ne _)
    rw [e1] at h
    have e2 : opOf e f = fun ρ => (f ρ).bind fun r => .ok (.vl r.1, r.2) := by funext ρ; cases e <;> first | rfl | exact absurd rfl (ne _)
    rw [e2]
    exact po_of (ih h)
  cases e with
  | pk i =>
    cases x with
    | Name y p =>
      obtain ⟨h1, h2, h3, h4⟩ := nm_of g h
      exact po_pk h1 h2 h3 h4
    | _ => cases h
  | _ => exact key fun i z => nomatch z
theorem pt_ok {e : E} {f : Env → R (Vl × Env)} {ch : Expr → Bool} {x : Option Expr} (h : ptC e ch x = true) (ih : ∀ y, ch y = true → PD X P XR W y f) : POd X P XR W x (ptOf e f) := by
  have key : (e ≠ .abs_) → POd X P XR W x (ptOf e f) := fun ne => by
    cases x with
    | none => cases e <;> first | exact absurd rfl ne | cases h
    | some y =>
      have e1 : ptC e ch (some y) = ch y := by cases e <;> first | rfl | exact absurd rfl ne
      rw [e1] at h
      have e2 : ptOf e f = fun ρ => (f ρ).bind fun r => (match r.1 with
        | .fr (.int i) => .ok (some i, r.2)
        | _ => .stuck) := by funext ρ; cases e <;> first | rfl | exact absurd rfl ne
      rw [e2]
      exact po_somed (ih y h)
  cases e with
  | abs_ =>
    cases x with
    | none => exact po_absd
    | some y => cases h
  | _ => exact key fun z => nomatch z
/-- the operand's slots -/
theorem ops_in {e : E} {f : Env → R (Vl × Env)} {ops : List Nat} (h : ∀ i, e = .pk i → i ∈ ops) : OpsIn ops (opOf e f) := fun ρ x ρ' eq i hx => by
  cases e with
  | pk j =>
    obtain ⟨_, _, eq⟩ := R.opt_ok (show (R.opt ((ρ[j]?).bind slD) fun _ => R.ok (Op.sl j, ρ)) = .ok (x, ρ') from eq)
    cases eq
    cases hx
    exact h _ rfl
  | _ =>
    obtain ⟨r, _, eq⟩ := R.bind_ok (show (f ρ).bind (fun r => R.ok (Op.vl r.1, r.2)) = .ok (x, ρ') from eq)
    cases eq
    cases hx
/-! ### targets -/
theorem assignEach_len {env : PySem.Env} : ∀ es : List Expr, (assignEach es env).length = es.length
  | [] => rfl
  | e :: es => by cases e <;> (show (assignEach es env).length + 1 = _; rw [assignEach_len es]; rfl)
theorem assignEach_cons {e : Expr} {es : List Expr} {env : PySem.Env} (h : nstar e = true) : assignEach (e :: es) env = (false, assign e env) :: assignEach es env := by
  cases e <;> first | rfl | cases h
mutual
theorem tgt_ok (g : Good Γ c XR n s X) (hP : P = none ∨ Γ.io = true) : ∀ (t : T) (x : Expr), chkT Γ s t x = true → PG X x (gT X.K P (storeD t) (ownT t))
  | .nm i, .Name x p, h => by
    obtain ⟨h1, h2⟩ := and2 h
    obtain ⟨h3, h4⟩ := and2 h1
    have hi : X.N[i]? = some x := by rw [g.N]; exact of_decide_eq_true h3
    have hp : P = none ∨ 0 ≠ i := by
      rcases hP with z | z
      · exact .inl z
      · rw [z] at h2
        exact .inr (beq_no (by simpa using h2))
    rcases Bool.or_eq_true_iff.mp h4 with z | z
    · have z := of_decide_eq_true z
      exact pgd_name g.nd hi (.inl (by rw [g.sc]; exact z)) (.inr (by rw [g.sc]; exact z)) hp
    · obtain ⟨z1, z2⟩ := and2 z
      exact pgd_name g.nd hi (.inr (by rw [g.sc]; exact of_decide_eq_true z1)) (.inl (g.cell x (of_decide_eq_true z2))) hp
  | .tp ts, .Tuple es k p, h => by
    obtain ⟨h1, h2, h3⟩ := tgts_ok g hP ts es h
    exact pgd_tup (n := es.length) g.calm h1 h2 (assignEach_len es) h3
  | .nm _, .BoolOp .., h | .nm _, .NamedExpr .., h | .nm _, .BinOp .., h | .nm _, .UnaryOp .., h | .nm _, .Lambda .., h | .nm _, .IfExp .., h | .nm _, .Dict .., h | .nm _, .Set .., h | .nm _, .ListComp .., h | .nm _, .SetComp .., h | .nm _, .DictComp .., h | .nm _, .GeneratorExp .., h | .nm _, .Await .., h | .nm _, .Yield .., h | .nm _, .YieldFrom .., h | .nm _, .Compare .., h | .nm _, .Call .., h | .nm _, .FormattedValue .., h | .nm _, .JoinedStr .., h | .nm _, .Constant .., h | .nm _, .Attribute .., h | .nm _, .Subscript .., h | .nm _, .Starred .., h | .nm _, .List .., h | .nm _, .Tuple .., h | .nm _, .Slice .., h => by cases h
  | .tp _, .BoolOp .., h | .tp _, .NamedExpr .., h | .tp _, .BinOp .., h | .tp _, .UnaryOp .., h | .tp _, .Lambda .., h | .tp _, .IfExp .., h | .tp _, .Dict .., h | .tp _, .Set .., h | .tp _, .ListComp .., h | .tp _, .SetComp .., h | .tp _, .DictComp .., h | .tp _, .GeneratorExp .., h | .tp _, .Await .., h | .tp _, .Yield .., h | .tp _, .YieldFrom .., h | .tp _, .Compare .., h | .tp _, .Call .., h | .tp _, .FormattedValue .., h | .tp _, .JoinedStr .., h | .tp _, .Constant .., h | .tp _, .Attribute .., h | .tp _, .Subscript .., h | .tp _, .Starred .., h | .tp _, .List .., h | .tp _, .Name .., h | .tp _, .Slice .., h => by cases h
theorem tgts_ok (g : Good Γ c XR n s X) (hP : P = none ∨ Γ.io = true) : ∀ (ts : Ts) (xs : List Expr), chkTs Γ s ts xs = true → PGs X xs (gTs X.K P (storeDs ts) (ownTs ts)) ∧ (∀ ds ρ ρ', storeDs ts ds ρ = some ρ' → ds.length = xs.length) ∧ (assignEach xs X.env).findIdx? (·.1) = none
  | .nil, [], h => ⟨pgsd_nil, fun (ds : List D) (ρ ρ' : Env) e => by
    cases ds with
    | nil => rfl
    | cons _ _ => exact (nomatch e), rfl⟩
  | .nil, _ :: _, h => by cases h
  | .cons t ts, [], h => by cases h
  | .cons t ts, x :: xs, h => by
    obtain ⟨h1, h2⟩ := and2 h
    obtain ⟨h3, h4⟩ := and2 h1
    obtain ⟨r1, r2, r3⟩ := tgts_ok g hP ts xs h2
    refine ⟨pgsd_cons (tgt_ok g hP t x h4) r1 (by rw [assignEach_cons h3]; rfl), fun ds ρ ρ' e => ?_, ?_⟩
    · cases ds with
      | nil => cases e
      | cons d ds =>
        obtain ⟨ρ1, e1, e2⟩ := Option.bind_eq_some_iff.mp e
        rw [List.length_cons, List.length_cons, r2 ds ρ1 ρ' e2]
    · rw [assignEach_cons h3, List.findIdx?_cons, r3]
      rfl
end
/-- the own names of a block -/
theorem own_snd (vs : List Nat) : (ownL Γ vs).map (·.2) = vs := by
  unfold ownL
  rw [List.map_map]
  exact List.map_id vs
theorem blk_of (g : Good Γ c XR n s X) {scope : Scope} {vs : List Nat} (h : blkC Γ.N s.vis scope (ownL Γ vs) = true) : BlkOk X.N X.env.scope scope (ownL Γ vs) := by
  rw [g.N, g.sc]
  exact blkOk_by h
theorem good_P {Γ : Gm} : (none : Option V) = none ∨ Γ.io = true := .inl rfl
end
end Dl
end
section
set_option linter.all false
set_option maxRecDepth 100000
set_option maxHeartbeats 8000000
/-! DlTst: tests. -/
namespace Dl
open PySem PySem.Spec PyProof.Rows L2
abbrev ttE (f : Env → R (Vl × Env)) : Env → R (Bool × Env) := fun ρ => (f ρ).bind fun r => R.opt (truD r.1.d) fun b => .ok (b, r.2)
theorem tsOf_eq {e : E} {f : Env → R (Vl × Env)} (h : ∀ i, e ≠ .pk i) : tsOf e f = ttE f := by
  funext ρ
  have e2 : opOf e f ρ = (f ρ).bind fun r => .ok (.vl r.1, r.2) := by cases e <;> first | rfl | exact absurd rfl (h _)
  unfold tsOf
  rw [e2, R.bind_assoc]
  rfl
section
variable {X : Cx} {P : Option V} {XR : XRel} {W : WX} {x y z : Expr} {r : List Expr} {f g h : Env → R (Vl × Env)} {t u v : Env → R (Bool × Env)} {pos p : Pos}
def dfltB : Expr → Bool
  | .UnaryOp .Not _ _ => false
  | .BoolOp _ _ _ => false
  | .IfExp _ _ _ _ => false
  | .Compare _ _ _ _ => false
  | _ => true
theorem dflt_of {e : Expr} {env : PySem.Env} (h : dfltB e = true) : ∀ whole, isTrue e env whole = (do let v ← whole; standAt e.pos; holding [v] (PySem.truthy v)) := fun whole => by
  cases e with
  | UnaryOp op a p => cases op <;> first | rfl | cases h
  | _ => first | rfl | cases h
theorem ptd_dflt (hx : dfltB x = true) (h : PD X P XR W x f) : PTd X P XR W x (ttE f) := by
  have z := pt_default (po_of h) (dflt_of hx)
  have e : (fun ρ => ((f ρ).bind fun r => R.ok (Op.vl r.1, r.2)).bind fun r => R.opt (deref r.2 r.1) fun d => R.opt (truD d) fun b => R.ok (b, r.2)) = ttE f := by
    funext ρ
    rw [R.bind_assoc]
    rfl
  rw [e] at z
  exact z
/-- a comparison as a test -/
theorem ptd_bool {te : TE} (hf : ∀ ρ v ρ', f ρ = .ok (v, ρ') → ∃ b, v = .fr (.bool b)) (hT : ∀ σ H Q, tE X.K P XR W f σ H Q → te σ H Q) (h : PT X x (tTest te)) : PTd X P XR W x (ttE f) := PT.imp h fun σ H Q ⟨F, ρ, ok, q⟩ => by
  refine hT σ H _ ⟨F, ρ, ok, ?_⟩
  have q : Fin X.K P XR W F ρ H σ RB ((f ρ).bind fun r => R.opt (truD r.1.d) fun b => .ok (b, r.2)) Q := q
  cases e : f ρ with
  | ok a =>
    obtain ⟨v, ρ'⟩ := a
    obtain ⟨b, rfl⟩ := hf ρ v ρ' e
    rw [e] at q
    intro w F' H' o' s' r'
    cases r'
    exact ⟨b, rfl, q b F' H' o' s' rfl⟩
  | exc c xs ρ' => rw [e] at q; exact q
  | stuck => rw [e] at q; exact q
theorem cmpF_bool {k : COp} {oa ob : Env → R (Op × Env)} : ∀ ρ v ρ', cmpF k oa ob ρ = .ok (v, ρ') → ∃ b, v = .fr (.bool b) := fun ρ v ρ' h => by
  obtain ⟨_, _, h⟩ := R.bind_ok h
  obtain ⟨_, _, h⟩ := R.bind_ok h
  obtain ⟨_, _, h⟩ := R.opt_ok h
  obtain ⟨_, _, h⟩ := R.opt_ok h
  obtain ⟨b, _, h⟩ := R.opt_ok h
  cases h
  exact ⟨b, rfl⟩
theorem chainF_bool {k j : COp} {oa ob od : Env → R (Op × Env)} : ∀ ρ v ρ', chainF k j oa ob od ρ = .ok (v, ρ') → ∃ b, v = .fr (.bool b) := fun ρ v ρ' h => by
  obtain ⟨_, _, h⟩ := R.bind_ok h
  obtain ⟨_, _, h⟩ := R.bind_ok h
  obtain ⟨_, _, h⟩ := R.opt_ok h
  obtain ⟨_, _, h⟩ := R.opt_ok h
  obtain ⟨b, _, h⟩ := R.opt_ok h
  split at h
  · obtain ⟨_, _, h⟩ := R.bind_ok h
    obtain ⟨_, _, h⟩ := R.opt_ok h
    obtain ⟨_, _, h⟩ := R.opt_ok h
    obtain ⟨b, _, h⟩ := R.opt_ok h
    cases h
    exact ⟨b, rfl⟩
  · cases h; exact ⟨_, rfl⟩
theorem ptd_not (h : PTd X P XR W x t) : PTd X P XR W (.UnaryOp .Not x pos) (ttE fun ρ => (t ρ).bind fun r => .ok (.fr (.bool (!r.1)), r.2)) := by
  have e : (ttE fun ρ => (t ρ).bind fun r => R.ok (.fr (.bool (!r.1)), r.2)) = fun ρ => (t ρ).bind fun r => R.ok (!r.1, r.2) := by
    funext ρ
    show ((t ρ).bind _).bind _ = _
    rw [R.bind_assoc]
    rfl
  rw [e]
  exact pt_notd h
theorem pw_pt {op : BoolOp} {vs : List Expr} (h : PTd X P XR W (.BoolOp op vs pos) t) : PWd X P XR W (.BoolOp op vs pos) t := ⟨fun whole pins s σ H Q I q => h.run pins s σ H Q I q⟩
theorem pw_tail {op : BoolOp} (h : PTd X P XR W (tailB op y r p) t) : PWd X P XR W (.BoolOp op (y :: r) p) t := by
  cases r with
  | nil => cases op with
    | And => exact pw_and1d h
    | Or => exact pw_or1d h
  | cons _ _ => exact pw_pt h
theorem pd_tail {op : BoolOp} (h : PD X P XR W (tailB op y r p) f) : PD X P XR W (.BoolOp op (y :: r) p) f := by
  cases r with
  | nil => exact pd_oneb h
  | cons _ _ => exact h
theorem ptd_and (ha : PTd X P XR W x (ttE f)) (hb : PTd X P XR W (tailB .And y r p) (ttE g)) : PTd X P XR W (.BoolOp .And (x :: y :: r) p) (ttE fun ρ => (f ρ).bind fun r => R.opt (truD r.1.d) fun k => if k then g r.2 else .ok (.fr r.1.d, r.2)) := by
  have z := (pw_andd ha (pw_tail hb)).pt
  have e : (ttE fun ρ => (f ρ).bind fun r => R.opt (truD r.1.d) fun k => if k then g r.2 else .ok (.fr r.1.d, r.2)) = fun ρ => (ttE f ρ).bind fun r => if r.1 then ttE g r.2 else .ok (false, r.2) := by
    funext ρ
    show ((f ρ).bind _).bind _ = ((f ρ).bind _).bind _
    rw [R.bind_assoc, R.bind_assoc]
    congr 1
    funext q
    rw [R.opt_bind, R.opt_bind]
    cases hk : truD q.1.d with
    | none => rfl
    | some k => cases k with
      | true => rfl
      | false =>
        show R.opt (truD q.1.d) _ = _
        rw [hk]
        rfl
  rw [e]
  exact z
theorem ptd_or (ha : PTd X P XR W x (ttE f)) (hb : PTd X P XR W (tailB .Or y r p) (ttE g)) : PTd X P XR W (.BoolOp .Or (x :: y :: r) p) (ttE fun ρ => (f ρ).bind fun r => R.opt (truD r.1.d) fun k => if k then .ok (r.1, r.2) else g r.2) := by
  have z := (pw_ord ha (pw_tail hb)).pt
  have e : (ttE fun ρ => (f ρ).bind fun r => R.opt (truD r.1.d) fun k => if k then .ok (r.1, r.2) else g r.2) = fun ρ => (ttE f ρ).bind fun r => if r.1 then .ok (true, r.2) else ttE g r.2 := by
    funext ρ
    show ((f ρ).bind _).bind _ = ((f ρ).bind _).bind _
    rw [R.bind_assoc, R.bind_assoc]
    congr 1
    funext q
    rw [R.opt_bind, R.opt_bind]
    cases hk : truD q.1.d with
    | none => rfl
    | some k => cases k with
      | false => rfl
      | true =>
        show R.opt (truD q.1.d) _ = _
        rw [hk]
        rfl
  rw [e]
  exact z
/-- if as a test -/
theorem pt_iteT {tc ta tb : TT} (hc : PT X x tc) (ha : PT X y ta) (hb : PT X z tb) : PT X (.IfExp x y z pos) (fun σ H Q => tc σ H fun b H1 => if b = true then ta σ H1 Q else tb σ H1 Q) := by
  refine ⟨fun pins s σ H Q I q => ?_⟩
  show wpAny _ _ (do if ← isTrue x X.env (eval x X.env) then isTrue y X.env (eval y X.env) else isTrue z X.env (eval z X.env)) _ _ s
  refine wpAny_bind (thn (hc.run pins s σ H _ I q) fun b s1 ⟨H1, I1, q1⟩ => ?_)
  cases b with
  | true => exact ha.run pins s1 σ H1 Q I1 q1
  | false => exact hb.run pins s1 σ H1 Q I1 q1
theorem ptd_ite (hc : PTd X P XR W x t) (ha : PTd X P XR W y (ttE f)) (hb : PTd X P XR W z (ttE g)) : PTd X P XR W (.IfExp x y z pos) (ttE fun ρ => (t ρ).bind fun r => if r.1 then f r.2 else g r.2) := PT.imp (pt_iteT hc ha hb) fun σ H Q ⟨F, ρ, ok, q⟩ => by
  refine ⟨F, ρ, ok, ?_⟩
  have q : Fin X.K P XR W F ρ H σ RB (((t ρ).bind fun r => if r.1 then f r.2 else g r.2).bind fun r => R.opt (truD r.1.d) fun b => .ok (b, r.2)) Q := q
  rw [R.bind_assoc] at q
  refine Fin.mono (Fin.bind (RR := RB) back_RB q) fun b H1 z => ?_
  obtain ⟨F1, ρ1, a1, _, o1, s1, r1, q1⟩ := z
  have e : b = a1 := r1
  subst e
  cases b with
  | true => exact ⟨F1, ρ1, o1, q1⟩
  | false => exact ⟨F1, ρ1, o1, q1⟩
end
section
variable {Γ : Gm} {c : Calls} {XR : XRel} {n : Nat} {s : Sc} {X : Cx} {P : Option V} {W : WX}
theorem ts_ok {e : E} {f : Env → R (Vl × Env)} {ch : Expr → Bool} {x : Expr} (g : Good Γ c XR n s X) (h : opC Γ s e ch x = true) (ih : ch x = true → PTd X P XR W x (ttE f)) : PTd X P XR W x (tsOf e f) := by
  have key : (∀ i, e ≠ .pk i) → PTd X P XR W x (tsOf e f) := fun ne => by
    have e1 : opC Γ s e ch x = ch x := by cases e <;> first | rfl | exact absurd rfl (ne _)
    rw [e1] at h
    rw [tsOf_eq ne]
    exact ih h
  cases e with
  | pk i =>
    cases x with
    | Name y p =>
      obtain ⟨h1, h2, h3, h4⟩ := nm_of g h
      exact pt_default (po_pk h1 h2 h3 h4) (dflt_of rfl)
    | _ => cases h
  | _ => exact key fun i z => nomatch z
theorem cs_ok {e : E} {es : Es} : True := trivial
end
end Dl
end
section
set_option linter.all false
set_option maxRecDepth 100000
set_option maxHeartbeats 2000000
/-! DlOrd: the order of data by rows of ints. -/
namespace Dl
open PySem L2
def lexI : List Int → List Int → Bool
  | [], [] => false
  | [], _ :: _ => true
  | _ :: _, [] => false
  | x :: xs, y :: ys => if x = y then lexI xs ys else decide (x < y)
theorem lexI_irr : ∀ xs, lexI xs xs = false
  | [] => rfl
  | x :: xs => by unfold lexI; rw [if_pos rfl]; exact lexI_irr xs
theorem lexI_asym : ∀ xs ys, lexI xs ys = true → lexI ys xs = false
  | [], [], h => by cases h
  | [], _ :: _, _ => rfl
  | _ :: _, [], h => by cases h
  | x :: xs, y :: ys, h => by
    unfold lexI at h ⊢
    by_cases e : x = y
    · rw [if_pos e] at h
      rw [if_pos e.symm]
      exact lexI_asym xs ys h
    · rw [if_neg e] at h
      rw [if_neg (Ne.symm e)]
      have := of_decide_eq_true h
      exact decide_eq_false (by omega)
theorem lexI_tr : ∀ xs ys zs, lexI ys xs = false → lexI zs ys = false → lexI zs xs = false
  | [], _, [], _, _ => rfl
  | _ :: _, [], _, h, _ => by cases h
  | _, _ :: _, [], _, h => by cases h
  | [], [], _ :: _, _, _ => rfl
  | [], _ :: _, _ :: _, _, _ => rfl
  | x :: xs, y :: ys, z :: zs, h1, h2 => by
    unfold lexI at h1 h2 ⊢
    by_cases e1 : y = x
    · subst e1
      rw [if_pos rfl] at h1
      by_cases e2 : z = y
      · subst e2
        rw [if_pos rfl] at h2 ⊢
        exact lexI_tr xs ys zs h1 h2
      · rw [if_neg e2] at h2 ⊢
        exact h2
    · rw [if_neg e1] at h1
      have g1 := of_decide_eq_false h1
      by_cases e2 : z = y
      · subst e2
        rw [if_neg e1]
        exact h1
      · rw [if_neg e2] at h2
        have g2 := of_decide_eq_false h2
        rw [if_neg (by omega)]
        exact decide_eq_false (by omega)
/-- two rows of which none is below the other are one -/
theorem lexI_eq : ∀ xs ys, lexI xs ys = false → lexI ys xs = false → xs = ys
  | [], [], _, _ => rfl
  | [], _ :: _, h, _ => by cases h
  | _ :: _, [], _, h => by cases h
  | x :: xs, y :: ys, h1, h2 => by
    unfold lexI at h1 h2
    by_cases e : x = y
    · subst e
      rw [if_pos rfl] at h1 h2
      rw [lexI_eq xs ys h1 h2]
    · rw [if_neg e] at h1
      rw [if_neg (Ne.symm e)] at h2
      have g1 := of_decide_eq_false h1
      have g2 := of_decide_eq_false h2
      omega
theorem lexI_app : ∀ (p s t : List Int), lexI (p ++ s) (p ++ t) = lexI s t
  | [], _, _ => rfl
  | x :: p, s, t => by
    show (if x = x then lexI (p ++ s) (p ++ t) else decide (x < x)) = lexI s t
    rw [if_pos rfl]
    exact lexI_app p s t
mutual
/-- data as a row of ints -/
def encD : D → List Int
  | .none => []
  | .bool b => [if b then 1 else 0]
  | .int i => [i]
  | .str x => ((codes x).map fun c : Nat => (c : Int) + 2) ++ [1]
  | .tuple xs => encL xs
  | .list _ => []
  | .dict _ => []
def encL : List D → List Int
  | [] => [0]
  | x :: r => 1 :: (encD x ++ encL r)
end
theorem enc_str : ∀ (a b : List Nat) (s t : List Int), a ≠ b → lexI (((a.map fun c : Nat => (c : Int) + 2) ++ [1]) ++ s) (((b.map fun c : Nat => (c : Int) + 2) ++ [1]) ++ t) = ltN a b
  | [], [], _, _, h => absurd rfl h
  | [], y :: b, s, t, _ => by
    show lexI (1 :: s) (((y : Int) + 2) :: _) = true
    unfold lexI
    rw [if_neg (by omega)]
    exact decide_eq_true (by omega)
  | x :: a, [], s, t, _ => by
    show lexI (((x : Int) + 2) :: _) (1 :: t) = false
    unfold lexI
    rw [if_neg (by omega)]
    exact decide_eq_false (by omega)
  | x :: a, y :: b, s, t, h => by
    show lexI (((x : Int) + 2) :: (((a.map fun c : Nat => (c : Int) + 2) ++ [1]) ++ s)) (((y : Int) + 2) :: (((b.map fun c : Nat => (c : Int) + 2) ++ [1]) ++ t)) = _
    unfold lexI ltN
    by_cases e : x = y
    · subst e
      rw [if_pos rfl, if_pos rfl]
      exact enc_str a b s t fun z => h (by rw [z])
    · rw [if_neg (by omega), if_neg e]
      by_cases g : x < y
      · rw [decide_eq_true g]; exact decide_eq_true (by omega)
      · rw [decide_eq_false g]; exact decide_eq_false (by omega)

mutual
/-- equal data have one row -/
theorem enc_eqv : ∀ d e : D, PyData.eqv d e = true → encD d = encD e
  | .none, .none, _ => rfl
  | .bool a, .bool b, h => by
    have e : a = b := by simpa [PyData.eqv] using h
    rw [e]
  | .bool a, .int j, h => by
    have e : (if a = true then (1 : Int) else 0) = j := by simpa [PyData.eqv] using h
    show [if a = true then (1 : Int) else 0] = [j]
    rw [e]
  | .int i, .bool b, h => by
    have e : i = (if b = true then (1 : Int) else 0) := by simpa [PyData.eqv] using h
    show [i] = [if b = true then (1 : Int) else 0]
    rw [e]
  | .int i, .int j, h => by
    have e : i = j := by simpa [PyData.eqv] using h
    rw [e]
  | .str x, .str y, h => by
    have e : x = y := by simpa [PyData.eqv] using h
    rw [e]
  | .list _, .list _, _ => rfl
  | .tuple xs, .tuple ys, h => enc_eqvL xs ys h
  | .dict _, .dict _, h => by cases h
  | .none, .bool _, h | .none, .int _, h | .none, .str _, h | .none, .list _, h | .none, .tuple _, h | .none, .dict _, h => by cases h
  | .bool _, .none, h | .bool _, .str _, h | .bool _, .list _, h | .bool _, .tuple _, h | .bool _, .dict _, h => by cases h
  | .int _, .none, h | .int _, .str _, h | .int _, .list _, h | .int _, .tuple _, h | .int _, .dict _, h => by cases h
  | .str _, .none, h | .str _, .bool _, h | .str _, .int _, h | .str _, .list _, h | .str _, .tuple _, h | .str _, .dict _, h => by cases h
  | .list _, .none, h | .list _, .bool _, h | .list _, .int _, h | .list _, .str _, h | .list _, .tuple _, h | .list _, .dict _, h => by cases h
  | .tuple _, .none, h | .tuple _, .bool _, h | .tuple _, .int _, h | .tuple _, .str _, h | .tuple _, .list _, h | .tuple _, .dict _, h => by cases h
  | .dict _, .none, h | .dict _, .bool _, h | .dict _, .int _, h | .dict _, .str _, h | .dict _, .list _, h | .dict _, .tuple _, h => by cases h
theorem enc_eqvL : ∀ xs ys : List D, PyData.eqvAll xs ys = true → encL xs = encL ys
  | [], [], _ => rfl
  | [], _ :: _, h => by cases h
  | _ :: _, [], h => by cases h
  | x :: xs, y :: ys, h => by
    obtain ⟨h1, h2⟩ := Bool.and_eq_true_iff.mp (show (PyData.eqv x y && PyData.eqvAll xs ys) = true from h)
    unfold encL
    rw [enc_eqv x y h1, enc_eqvL xs ys h2]
end
theorem codes_inj {x y : Str} (h : codes x = codes y) : x = y := by
  cases x with
  | mk a => cases y with
    | mk b =>
      have e : a.toList = b.toList := h
      rw [Array.toList_inj.mp e]
mutual
/-- where < has an answer and the two are not equal, the rows tell it, whatever comes behind -/
theorem enc_lt : ∀ (d e : D) (b : Bool) (s t : List Int), ltD d e = some b → PyData.eqv d e = false → lexI (encD d ++ s) (encD e ++ t) = b
  | .int i, .int j, b, s, t, h, n => by
    have e : decide (i < j) = b := by simpa [ltD] using h
    have ne : ¬ i = j := by simpa [PyData.eqv] using n
    show (if i = j then lexI s t else decide (i < j)) = b
    rw [if_neg ne, e]
  | .str x, .str y, b, s, t, h, n => by
    have e : ltN (codes x) (codes y) = b := by simpa [ltD] using h
    have ne : ¬ x = y := by simpa [PyData.eqv] using n
    rw [← e]
    exact enc_str (codes x) (codes y) s t fun z => ne (codes_inj z)
  | .tuple xs, .tuple ys, b, s, t, h, n => by
    have h : (if cmpL xs ys = true then some (lexL xs ys) else none) = some b := by simpa [ltD] using h
    split at h
    · rename_i hc
      cases h
      exact enc_ltL xs ys s t hc n
    · cases h
  | .none, e, b, s, t, h, n => by simp [ltD] at h
  | .bool _, e, b, s, t, h, n => by simp [ltD] at h
  | .list _, e, b, s, t, h, n => by simp [ltD] at h
  | .dict _, e, b, s, t, h, n => by simp [ltD] at h
  | .int _, .none, b, s, t, h, n | .int _, .bool _, b, s, t, h, n | .int _, .str _, b, s, t, h, n | .int _, .list _, b, s, t, h, n | .int _, .tuple _, b, s, t, h, n | .int _, .dict _, b, s, t, h, n => by simp [ltD] at h
  | .str _, .none, b, s, t, h, n | .str _, .bool _, b, s, t, h, n | .str _, .int _, b, s, t, h, n | .str _, .list _, b, s, t, h, n | .str _, .tuple _, b, s, t, h, n | .str _, .dict _, b, s, t, h, n => by simp [ltD] at h
  | .tuple _, .none, b, s, t, h, n | .tuple _, .bool _, b, s, t, h, n | .tuple _, .int _, b, s, t, h, n | .tuple _, .str _, b, s, t, h, n | .tuple _, .list _, b, s, t, h, n | .tuple _, .dict _, b, s, t, h, n => by simp [ltD] at h
theorem enc_ltL : ∀ (xs ys : List D) (s t : List Int), cmpL xs ys = true → PyData.eqvAll xs ys = false → lexI (encL xs ++ s) (encL ys ++ t) = lexL xs ys
  | [], [], s, t, _, n => by cases n
  | [], y :: ys, s, t, _, _ => by
    show (if (0 : Int) = 1 then _ else decide ((0 : Int) < 1)) = true
    rfl
  | x :: xs, [], s, t, _, _ => by
    show (if (1 : Int) = 0 then _ else decide ((1 : Int) < 0)) = false
    rfl
  | x :: xs, y :: ys, s, t, h, n => by
    obtain ⟨h1, h2⟩ := Bool.and_eq_true_iff.mp (show ((PyData.eqv x y || (ltD x y).isSome) && cmpL xs ys) = true from h)
    show (if (1 : Int) = 1 then lexI ((encD x ++ encL xs) ++ s) ((encD y ++ encL ys) ++ t) else _) = (if PyData.eqv x y = true then lexL xs ys else (ltD x y).getD false)
    rw [if_pos rfl, List.append_assoc, List.append_assoc]
    cases he : PyData.eqv x y with
    | true =>
      rw [if_pos rfl, enc_eqv x y he, lexI_app]
      refine enc_ltL xs ys s t h2 ?_
      have n : (PyData.eqv x y && PyData.eqvAll xs ys) = false := n
      rw [he, Bool.true_and] at n
      exact n
    | false =>
      rw [if_neg Bool.false_ne_true]
      rw [he, Bool.false_or] at h1
      cases hl : ltD x y with
      | none => rw [hl] at h1; cases h1
      | some b => exact enc_lt x y b _ _ hl he
end

/-! ### insertion is stable -/
section
open SrtO
variable {α : Type} {lt : α → α → Bool}
theorem ins_mem {x z : α} : ∀ {l : List α}, z ∈ insG lt x l ↔ z = x ∨ z ∈ l
  | [] => by simp [insG]
  | y :: r => by
    unfold insG
    split
    · rw [List.mem_cons, ins_mem, List.mem_cons]
      constructor
      · rintro (h | h | h)
        · exact .inr (.inl h)
        · exact .inl h
        · exact .inr (.inr h)
      · rintro (h | h | h)
        · exact .inr (.inl h)
        · exact .inl h
        · exact .inr (.inr h)
    · rw [List.mem_cons]
theorem ins_srtd (O : Swo lt) {x : α} : ∀ {l : List α}, Srtd lt l → Srtd lt (insG lt x l)
  | [], _ => srtd_one x
  | y :: r, h => by
    unfold insG
    split
    · rename_i hy
      refine List.pairwise_cons.mpr ⟨fun z hz => ?_, ins_srtd O (List.pairwise_cons.mp h).2⟩
      rcases ins_mem.mp hz with e | hz
      · rw [e]; exact O.asym y x hy
      · exact srtd_head h z hz
    · rename_i hy
      have hy : lt y x = false := by simpa using hy
      exact List.pairwise_cons.mpr ⟨fun z hz => O.le_all h hy z hz, h⟩
theorem ins_stbl (O : Swo lt) {x : α} : ∀ {l : List α}, Stb lt (insG lt x l) (x :: l)
  | [] => Stb.refl [x]
  | y :: r => by
    unfold insG
    split
    · rename_i hy
      have h1 : Stb lt ([y] ++ insG lt x r) ([y] ++ (x :: r)) := (Stb.refl [y]).app (ins_stbl O)
      have h2 : Stb lt (([y] ++ [x]) ++ r) (([x] ++ [y]) ++ r) := (Stb.swap O fun a ha b hb => by
        rw [List.mem_singleton.mp ha, List.mem_singleton.mp hb]; exact hy).app (Stb.refl r)
      exact h1.trans h2
    · exact Stb.refl _
theorem sort_ok (O : Swo lt) : ∀ l : List α, Srtd lt (sortG lt l) ∧ Stb lt (sortG lt l) l
  | [] => ⟨List.Pairwise.nil, Stb.refl []⟩
  | x :: r => by
    obtain ⟨h1, h2⟩ := sort_ok O r
    exact ⟨ins_srtd O h1, (ins_stbl O).trans ((Stb.refl [x]).app h2)⟩
/-- what is sorted and stable is what insertion makes -/
theorem sort_uniq (O : Swo lt) {l out : List α} (h1 : Srtd lt out) (h2 : Stb lt out l) : out = sortG lt l :=
  stb_uniq O h1 (sort_ok O l).1 (h2.trans ⟨(sort_ok O l).2.perm.symm, fun x => ((sort_ok O l).2.cls x).symm⟩)
/-- the order by rows of ints -/
theorem swo_enc {β : Type} (k : β → List Int) : Swo fun v u => lexI (k v) (k u) := ⟨fun x y h => lexI_asym _ _ h, fun x y z h1 h2 => lexI_tr _ _ _ h1 h2⟩
end
theorem ltN_irr : ∀ a, ltN a a = false
  | [] => rfl
  | x :: a => by unfold ltN; rw [if_pos rfl]; exact ltN_irr a
theorem lexL_eqv : ∀ xs ys : List D, PyData.eqvAll xs ys = true → lexL xs ys = false
  | [], [], _ => rfl
  | [], _ :: _, h => by cases h
  | _ :: _, [], h => by cases h
  | x :: xs, y :: ys, h => by
    obtain ⟨h1, h2⟩ := Bool.and_eq_true_iff.mp (show (PyData.eqv x y && PyData.eqvAll xs ys) = true from h)
    unfold lexL
    rw [if_pos h1]
    exact lexL_eqv xs ys h2
theorem ltD_eqv {d e : D} {b : Bool} (h : ltD d e = some b) (n : PyData.eqv d e = true) : b = false := by
  cases d with
  | int i => cases e with
    | int j =>
      have e : decide (i < j) = b := by simpa [ltD] using h
      have ne : i = j := by simpa [PyData.eqv] using n
      rw [← e, ne]
      exact decide_eq_false (by omega)
    | _ => simp [ltD] at h
  | str x => cases e with
    | str y =>
      have e : ltN (codes x) (codes y) = b := by simpa [ltD] using h
      have ne : x = y := by simpa [PyData.eqv] using n
      rw [← e, ne]
      exact ltN_irr _
    | _ => simp [ltD] at h
  | tuple xs => cases e with
    | tuple ys =>
      have h : (if cmpL xs ys = true then some (lexL xs ys) else none) = some b := by simpa [ltD] using h
      split at h
      · cases h; exact lexL_eqv xs ys n
      · cases h
    | _ => simp [ltD] at h
  | _ => simp [ltD] at h
/-- < is the order of the rows -/
theorem ltD_enc {d e : D} {b : Bool} (h : ltD d e = some b) : lexI (encD d) (encD e) = b := by
  cases n : PyData.eqv d e with
  | true => rw [ltD_eqv h n, enc_eqv d e n]; exact lexI_irr _
  | false =>
    have z := enc_lt d e b [] [] h n
    rwa [List.append_nil, List.append_nil] at z
end Dl
end
section
set_option linter.all false
set_option maxRecDepth 100000
set_option maxHeartbeats 4000000
/-! DlSort: sorted, whatever the items come from. -/
namespace SrtO
open PySem PySem.Spec PyProof.Rows L2
section
variable {prog : Program} {w : World} {A : Around} {E : Value → Shared → Prop} {s : Shared}
/-- behind the items' collection -/
theorem sorted_core {x : Value} {Q : Value → Shared → Prop} (hcol : ∀ A' : Around, A'.handled = A.handled → wpAny (model prog w) A' (collect x) (fun vs s1 => vs.length ≤ sizeLine ∧ ∃ ltv, Swo ltv ∧
      (2 ≤ vs.length → ∀ (h₁ : Heap) (a : Addr), h₁.get? a = some (seqObj "list" vs.toArray 0) → (∀ b o, s1.heap.get? b = some o → b ≠ a ∧ h₁.get? b = some o) → SortableO prog w A.in1.in1 { s1 with heap := h₁ } a vs ltv) ∧
      ∀ (out : List Value) (h' : Heap) (c : Nat), Srtd ltv out → Stb ltv out vs → (∀ b o, s1.heap.get? b = some o → h'.get? b = some o) → h'.get? s1.heap.objs.size = some (seqObj "list" out.toArray c) → Q (.ref s1.heap.objs.size) { s1 with heap := h' }) E s) :
    wpAny (model prog w) A (call (.builtin "sorted") [x]) Q E s := by
  refine Calls.call_function_entry kind_sorted plain_sorted entry_sorted (args_sorted1 _) ?_
  unfold Builtin.«sorted»
  refine wpAny_bind (m := checkCount "sorted" 1 1 _) (wpAny_pure ?_)
  refine wpAny_bind (wpAny_mono (hcol _ rfl) (fun vs s1 hq => ?_) fun _ _ e => e)
  obtain ⟨hz, ltv, O, hS, h⟩ := hq
  refine wpAny_bind (wpAny_newList ?_ hz)
  have hoL : (s1.heap.push (seqObj "list" vs.toArray 0)).get? s1.heap.objs.size = some (seqObj "list" vs.toArray 0) := Heap.get?_push_size _ rfl
  have keep : ∀ b o, s1.heap.get? b = some o → b ≠ s1.heap.objs.size ∧ (s1.heap.push (seqObj "list" vs.toArray 0)).get? b = some o := fun b o q => ⟨Nat.ne_of_lt (Heap.lt_size q), Heap.get?_push_of_some _ q⟩
  show wpAny _ _ _ _ _ { s1 with heap := s1.heap.push (seqObj "list" vs.toArray 0) }
  refine wpAny_bind (wpAny_holding (wpAny_call_entry slot_list_sort ⟨_, hoL, rfl⟩ entry_list_sort (list_sort_ord O hoL hz (fun h2 => hS h2 _ _ hoL keep) fun out hs hb => ⟨_, rfl, ?_⟩) (args_list_sort _)))
  obtain ⟨ep, he'⟩ := PyProof.Rows.sortedHeap_at (vs := vs) (out := out.toArray) hoL
  refine wpAny_pure ⟨_, rfl, h out _ ep hs hb (fun b o q => ?_) he'⟩
  rw [PyProof.Rows.sortedHeap_old (keep b o q).1 (by rw [Heap.size_push]; exact Nat.lt_succ_of_lt (Heap.lt_size q))]
  exact (keep b o q).2
end
end SrtO
namespace Dl
open PySem PySem.Spec PyProof.Rows L2 SrtO
section
variable {prog : Program} {w : World} {A : Around} {E : Value → Shared → Prop} {s : Shared} {Q : Bool → Shared → Prop}
def lexK (fin : Bool) : List D → List D → Bool
  | x :: xs, y :: ys => if PyData.eqv x y then lexK fin xs ys else (ltD x y).getD false
  | _, _ => fin
theorem lexK_eq : ∀ xs ys : List D, lexK (decide (xs.length < ys.length)) xs ys = lexL xs ys
  | [], [] => rfl
  | [], _ :: _ => by simp [lexK, lexL]
  | _ :: _, [] => by simp [lexK, lexL]
  | x :: xs, y :: ys => by
    unfold lexK lexL
    have e : decide ((x :: xs).length < (y :: ys).length) = decide (xs.length < ys.length) := by simp
    rw [e, lexK_eq xs ys]
/-- one item below another, as the sort asks it -/
theorem oneLt_of {b : Bool} {x y : Value} {d e : D} {as bs : List Addr} {k : Bool} (rx : Reads s.heap x d as) (ry : Reads s.heap y e bs) (cd : d.canLay0 = true) (ce : e.canLay0 = true) (hu : A.units + d.depth < cLine) (h : ltD d e = some k) (hb : b = true → kdD d ≠ 3) (q : Q k s) : wpAny (model prog w) A (oneLt' b x y) Q (fun _ _ => False) s := by
  cases b with
  | false => exact PySem.W.kat_one _ _ (rc_lt _ d e A s x y as bs k (Nat.le_refl _) rx ry cd ce hu h prog w _ _ q)
  | true =>
    have hb := hb rfl
    cases rx with
    | int i t => cases ry with
      | int j u => cases h; exact oneLt_int q
      | _ => cases h
    | str i t => cases ry with
      | str j u =>
        have e : ltN (codes i) (codes j) = k := Option.some.inj h
        refine oneLt_str ?_
        rw [← ltN_eq]
        exact (show ltN (codes i) (codes j) = k from e) ▸ q
      | _ => cases h
    | tuple => exact absurd rfl hb
    | none => cases e <;> cases h
    | bool _ => cases e <;> cases h
    | list => cases e <;> cases h
    | dict => cases e <;> cases h
/-- tuples item by item -/
theorem katlex {b fin : Bool} : ∀ (xs ys : List D) (us ws : List Value) (as bs : List Addr) (i : Nat), ReadsAll s.heap us xs as → ReadsAll s.heap ws ys bs → PyData.canLayAll0 xs = true → PyData.canLayAll0 ys = true → cmpL xs ys = true → A.units + PyData.depthAll xs + 1 < cLine →
    (b = true → i = 0 → ∀ x r, xs = x :: r → kdD x ≠ 3) → Q (lexK fin xs ys) s → PySem.W.KatLex prog w A b fin Q (us.zip ws) i s
  | [], _, _, ws, _, _, i, .nil, ry, _, _, _, _, _, q => by
    rw [List.zip_nil_left]
    exact PySem.W.kat_nil (by cases ry <;> exact q)
  | _ :: _, [], _, _, _, _, i, .cons _ _, .nil, _, _, _, _, _, q => by
    rw [List.zip_nil_right]
    exact PySem.W.kat_nil q
  | x :: xs, y :: ys, _, _, _, _, i, .cons (v := u) (vs := us) rx rxs, .cons (v := v) (vs := ws) ry rys, cx, cy, hc, hu, hb, q => by
    obtain ⟨cx1, cx2⟩ := Bool.and_eq_true_iff.mp (show (x.canLay0 && PyData.canLayAll0 xs) = true from cx)
    obtain ⟨cy1, cy2⟩ := Bool.and_eq_true_iff.mp (show (y.canLay0 && PyData.canLayAll0 ys) = true from cy)
    obtain ⟨h1, h2⟩ := Bool.and_eq_true_iff.mp (show ((PyData.eqv x y || (ltD x y).isSome) && cmpL xs ys) = true from hc)
    have hd : max x.depth (PyData.depthAll xs) = PyData.depthAll (x :: xs) := rfl
    have d1 : x.depth ≤ PyData.depthAll (x :: xs) := by rw [← hd]; exact Nat.le_max_left _ _
    have d2 : PyData.depthAll xs ≤ PyData.depthAll (x :: xs) := by rw [← hd]; exact Nat.le_max_right _ _
    rw [List.zip_cons_cons]
    refine PySem.W.kat_cons ?_
    have eq1 : ∀ R : Bool → Shared → Prop, R (PyData.eqv x y) s → wpAny (model prog w) A (eqBool u v) R (fun _ _ => False) s := fun R hR =>
      SeqAt.eqAt_reads x y A s u v _ _ rx ry cx1 cy1 (by
        have : min x.depth y.depth ≤ x.depth := Nat.min_le_left _ _
        omega) prog w _ _ hR
    refine eq1 _ ?_
    cases he : PyData.eqv x y with
    | true =>
      refine PySem.W.kat_yes (katlex xs ys us ws _ _ (i + 1) rxs rys cx2 cy2 h2 (by omega) (fun _ z => by omega) ?_)
      unfold lexK at q
      rw [if_pos he] at q
      exact q
    | false =>
      rw [he, Bool.false_or] at h1
      cases hl : ltD x y with
      | none => rw [hl] at h1; cases h1
      | some k =>
        unfold lexK at q
        rw [if_neg (by rw [he]; exact Bool.false_ne_true), hl] at q
        refine PySem.W.kat_no (oneLt_of rx ry cx1 cy1 (by omega) hl (fun hbi => ?_) q)
        obtain ⟨z1, z2⟩ := Bool.and_eq_true_iff.mp hbi
        exact hb z1 (by simpa using z2) x xs rfl
end

open Classical in
/-- what a value is at a heap -/
noncomputable def datum (h : Heap) (v : Value) : D := if z : ∃ d as, Reads h v d as then z.choose else .none
theorem datum_of {h : Heap} {v : Value} {d : D} {as : List Addr} (r : Reads h v d as) (hc : d.canLay0 = true) : datum h v = d := by
  have z : ∃ d as, Reads h v d as := ⟨d, as, r⟩
  unfold datum
  rw [dif_pos z]
  obtain ⟨bs, r'⟩ := z.choose_spec
  exact (SeqAt.Reads.unique d _ v as bs hc r r').symm
theorem mem_at {α : Type} {l : List α} {x : α} (h : x ∈ l) : ∃ j : Nat, l[j]? = some x := by
  obtain ⟨j, hj, e⟩ := List.getElem_of_mem h
  exact ⟨j, by rw [List.getElem?_eq_getElem hj, e]⟩
theorem heads_of {h : Heap} : ∀ {vs : List Value} {ds hs : List D} {as : List Addr}, ReadsAll h vs ds as → headsD ds = some hs → ∃ fs bs, PySem.W.KatTups h vs fs ∧ ReadsAll h fs hs bs
  | _, _, hs, _, .nil, e => by cases e; exact ⟨[], [], PySem.W.KatTups.nil, .nil⟩
  | _, d :: ds, hs, _, .cons r rs, e => by
    cases d with
    | tuple xs =>
      cases xs with
      | nil => cases e
      | cons x xs =>
        obtain ⟨gs, e1, e2⟩ := Option.map_eq_some_iff.mp (show (headsD ds).map (x :: ·) = some hs from e)
        subst e2
        obtain ⟨fs, bs, k, q⟩ := heads_of rs e1
        cases r with
        | @tuple a o us m _ _ h1 h2 h3 h4 =>
          cases hu : us.toList with
          | nil => rw [hu] at h4; cases h4
          | cons u ut =>
            rw [hu] at h4
            cases h4 with
            | cons k1 k2 => exact ⟨u :: fs, _, PySem.W.KatTups.cons h1 h2 h3 (by rw [← Array.getElem?_toList, hu]; rfl) k, .cons k1 q⟩
    | _ => cases e
section
variable {prog : Program} {w : World} {A : Around} {s : Shared}
def tyOfK : Nat → Value
  | 1 => .type "int"
  | 2 => .type "str"
  | _ => .type "tuple"
theorem looks_kd {M : Model} {h : Heap} {v : Value} {d : D} {as : List Addr} {k : Nat} (hk : k = 1 ∨ k = 2 ∨ k = 3) (r : Reads h v d as) (e : kdD d = k) : PySem.W.Looks M h (typeOf v) (tyOfK k) := by
  cases r with
  | int i t => subst e; exact PySem.W.Looks.now
  | str i t => subst e; exact PySem.W.Looks.now
  | @tuple a o us m _ _ h1 h2 h3 h4 =>
    subst e
    have z : PySem.W.Looks M h (typeOf (.ref a)) o.cls := (PySem.W.Looks.ld h1).andThen .now
    rw [h2] at z
    exact z
  | none => rcases hk with rfl | rfl | rfl <;> cases e
  | bool _ => rcases hk with rfl | rfl | rfl <;> cases e
  | list => rcases hk with rfl | rfl | rfl <;> cases e
  | dict => rcases hk with rfl | rfl | rfl <;> cases e
theorem ints_of {h : Heap} : ∀ {vs : List Value} {ds : List D} {as : List Addr}, ReadsAll h vs ds as → allKd 1 ds = true → ∃ ns, IntsAre vs ns
  | _, _, _, .nil, _ => ⟨[], .nil⟩
  | _, d :: ds, _, .cons r rs, e => by
    obtain ⟨h1, h2⟩ := Bool.and_eq_true_iff.mp (show (Nat.beq (kdD d) 1 && allKd 1 ds) = true from e)
    obtain ⟨ns, q⟩ := ints_of rs h2
    cases r with
    | int i t => exact ⟨i :: ns, .cons i t q⟩
    | _ => cases h1
theorem strs_of {h : Heap} : ∀ {vs : List Value} {ds : List D} {as : List Addr}, ReadsAll h vs ds as → allKd 2 ds = true → ∃ ns, StrsAre vs ns
  | _, _, _, .nil, _ => ⟨[], .nil⟩
  | _, d :: ds, _, .cons r rs, e => by
    obtain ⟨h1, h2⟩ := Bool.and_eq_true_iff.mp (show (Nat.beq (kdD d) 2 && allKd 2 ds) = true from e)
    obtain ⟨ns, q⟩ := strs_of rs h2
    cases r with
    | str i t => exact ⟨i :: ns, .cons i t q⟩
    | _ => cases h1
theorem kd_all {k : Nat} {ds : List D} {d : D} {j : Nat} (h : allKd k ds = true) (e : ds[j]? = some d) : kdD d = k := Nat.eq_of_beq_eq_true (List.all_eq_true.mp h d (List.mem_of_getElem? e))
theorem cmp_all {ds : List D} {d e : D} {i j : Nat} (h : allCmp ds = true) (h1 : ds[i]? = some d) (h2 : ds[j]? = some e) : ∃ b, ltD d e = some b :=
  Option.isSome_iff_exists.mp (List.all_eq_true.mp (List.all_eq_true.mp h d (List.mem_of_getElem? h1)) e (List.mem_of_getElem? h2))
theorem data_sortable {a : Addr} {vs : List Value} {ds : List D} {as : List Addr} {h0 : Heap} (r : ReadsAll h0 vs ds as) (keep0 : ∀ b o, h0.get? b = some o → b ≠ a ∧ s.heap.get? b = some o) (hl : PyData.canLayAll0 ds = true) (hc : allCmp ds = true) (hk : kindOk ds = true) (h2 : 2 ≤ vs.length)
    (hu : A.units + PyData.depthAll ds + 3 < cLine) : SortableO prog w A s a vs (fun v u => lexI (encD (datum h0 v)) (encD (datum h0 u))) := by
  intro h' keep
  have k0 : ∀ b o, h0.get? b = some o → h'.get? b = some o := fun b o e => keep b o (keep0 b o e).1 (keep0 b o e).2
  have rd : ∀ {v : Value}, v ∈ vs → ∃ (j : Nat) (d : D) (bs : List Addr), ds[j]? = some d ∧ Reads h0 v d bs ∧ d.canLay0 = true ∧ d.depth ≤ PyData.depthAll ds := fun {v} hv => by
    obtain ⟨j, hj⟩ := mem_at hv
    obtain ⟨d, bs, e, q⟩ := readsAll_at ds vs as r j v hj
    exact ⟨j, d, bs, e, q, canAll_at ds hl j d e, depth_at ds j d e⟩
  have lt : ∀ {v u : Value}, v ∈ vs → u ∈ vs → ∃ (d e : D) (bs cs : List Addr) (k : Bool), Reads h0 v d bs ∧ Reads h0 u e cs ∧ d.canLay0 = true ∧ e.canLay0 = true ∧ d.depth ≤ PyData.depthAll ds ∧ ltD d e = some k ∧ k = lexI (encD (datum h0 v)) (encD (datum h0 u)) ∧ d ∈ ds ∧ e ∈ ds := fun {v u} hv hu => by
    obtain ⟨i, d, bs, e1, q1, c1, d1⟩ := rd hv
    obtain ⟨j, e, cs, e2, q2, c2, _⟩ := rd hu
    obtain ⟨k, hk⟩ := cmp_all hc e1 e2
    refine ⟨d, e, bs, cs, k, q1, q2, c1, c2, d1, hk, ?_, List.mem_of_getElem? e1, List.mem_of_getElem? e2⟩
    rw [datum_of q1 c1, datum_of q2 c2]
    exact (ltD_enc hk).symm
  have one : (∀ d ∈ ds, kdD d ≠ 3) → Cmp prog w A { s with heap := h' } oneType' (fun p => p.1 ∈ vs) (lt2 fun v u => lexI (encD (datum h0 v)) (encD (datum h0 u))) := fun hn p q hm hm' => by
    obtain ⟨d, e, bs, cs, k, r1, r2, c1, c2, dd, hlt, hkk, m1, _⟩ := lt hm hm'
    show wpAny (model prog w) A (keyLt' oneType' p.1 q.1) _ _ _
    rw [keyLt'_oneType]
    exact oneLt_of (Reads.keeps k0 r1) (Reads.keeps k0 r2) c1 c2 (by omega) hlt (fun _ => hn d m1) ⟨rfl, hkk⟩
  unfold kindOk at hk
  rcases Bool.or_eq_true_iff.mp hk with hk | hk
  · rcases Bool.or_eq_true_iff.mp hk with hk | hk
    · refine ⟨oneType', fun Q E hq => ?_, one fun d hd z => ?_⟩
      · obtain ⟨ns, hI⟩ := ints_of r hk
        match vs, hI, h2 with
        | v1 :: v2 :: rest, hI, _ =>
          rw [keyKind_ints hI]
          exact wpAny_pure hq
        | [], _, h => exact absurd h (by decide)
        | [v], _, h => exact absurd h (by simp)
      · obtain ⟨j, hj⟩ := mem_at hd
        rw [kd_all hk hj] at z
        cases z
    · refine ⟨oneType', fun Q E hq => ?_, one fun d hd z => ?_⟩
      · obtain ⟨ns, hI⟩ := strs_of r hk
        match vs, hI, h2 with
        | v1 :: v2 :: rest, hI, _ =>
          rw [keyKind_strs hI]
          exact wpAny_pure hq
        | [], _, h => exact absurd h (by decide)
        | [v], _, h => exact absurd h (by simp)
      · obtain ⟨j, hj⟩ := mem_at hd
        rw [kd_all hk hj] at z
        cases z
  · cases hh : headsD ds with
    | none => rw [hh] at hk; cases hk
    | some hs =>
      rw [hh] at hk
      have hk3 : ∃ k, (k = 1 ∨ k = 2 ∨ k = 3) ∧ allKd k hs = true := by
        have hk : (allKd 1 hs || allKd 2 hs || allKd 3 hs) = true := hk
        rcases Bool.or_eq_true_iff.mp hk with hk | hk
        · rcases Bool.or_eq_true_iff.mp hk with hk | hk
          · exact ⟨1, .inl rfl, hk⟩
          · exact ⟨2, .inr (.inl rfl), hk⟩
        · exact ⟨3, .inr (.inr rfl), hk⟩
      obtain ⟨k, k3, hk⟩ := hk3
      have r' : ReadsAll h' vs ds as := ReadsAll.keeps k0 r
      obtain ⟨fs, cs, kt, rf⟩ := heads_of r' hh
      have hlen : fs.length = vs.length := by
        have : ∀ {vs fs : List Value}, PySem.W.KatTups h' vs fs → fs.length = vs.length := fun {vs} => by
          induction vs with
          | nil => intro fs h; cases fs with
            | nil => rfl
            | cons _ _ => exact h.elim
          | cons v vs ih => intro fs h; cases fs with
            | nil => exact h.elim
            | cons f fs => rw [List.length_cons, List.length_cons, ih h.2]
        exact this kt
      refine ⟨_, fun Q E hq => PySem.W.kat_kind (T := tyOfK k) kt (by omega) (fun v hv => ?_) (by rcases k3 with rfl | rfl | rfl <;> decide +kernel) hq, fun p q hm hm' => ?_⟩
      · obtain ⟨j, hj⟩ := mem_at hv
        obtain ⟨d, bs, e, q⟩ := readsAll_at hs fs cs rf j v hj
        exact looks_kd k3 q (kd_all hk e)
      · obtain ⟨d, e, bs, cs, kk, r1, r2, c1, c2, dd, hlt, hkk, m1, m2⟩ := lt hm hm'
        have tup : ∀ {d : D}, d ∈ ds → ∃ x xs, d = .tuple (x :: xs) ∧ kdD x = k := fun {d} hd => by
          have : ∀ {ds hs : List D}, headsD ds = some hs → allKd k hs = true → d ∈ ds → ∃ x xs, d = .tuple (x :: xs) ∧ kdD x = k := fun {ds} => by
            induction ds with
            | nil => intro hs _ _ h; cases h
            | cons d0 ds ih =>
              intro hs e hk hd
              cases d0 with
              | tuple xs =>
                cases xs with
                | nil => cases e
                | cons x xs =>
                  obtain ⟨gs, e1, e2⟩ := Option.map_eq_some_iff.mp (show (headsD ds).map (x :: ·) = some hs from e)
                  subst e2
                  obtain ⟨z1, z2⟩ := Bool.and_eq_true_iff.mp (show (Nat.beq (kdD x) k && allKd k gs) = true from hk)
                  rcases List.mem_cons.mp hd with z | z
                  · exact ⟨x, xs, z, Nat.eq_of_beq_eq_true z1⟩
                  · exact ih e1 z2 z
              | _ => cases e
          exact this hh hk hd
        obtain ⟨x, xs, rfl, hx⟩ := tup m1
        obtain ⟨y, ys, rfl, hy⟩ := tup m2
        have r1' := Reads.keeps k0 r1
        have r2' := Reads.keeps k0 r2
        show wpAny (model prog w) A (keyLt' (tuples' _) p.1 q.1) (fun r s' => s' = { s with heap := h' } ∧ r = lexI (encD (datum h0 p.1)) (encD (datum h0 q.1))) _ _
        generalize p.1 = v1 at r1' hkk ⊢
        generalize q.1 = v2 at r2' hkk ⊢
        have hh2 : (if cmpL (x :: xs) (y :: ys) = true then some (lexL (x :: xs) (y :: ys)) else none) = some kk := hlt
        obtain ⟨hcl, hlx⟩ := opt_if hh2
        cases r1' with
        | @tuple a1 o1 us n1 _ _ g1 g2 g3 g4 =>
          cases r2' with
          | @tuple a2 o2 ws n2 _ _ f1 f2 f3 f4 =>
            refine PySem.W.kat_lt g1 g3 f1 f3 ?_
            have hd1 : PyData.depthAll (x :: xs) + 1 ≤ PyData.depthAll ds := dd
            refine katlex (x :: xs) (y :: ys) us.toList ws.toList _ _ 0 g4 f4 c1 c2 hcl (by omega) (fun hb _ x' r' e' => ?_) ?_
            · cases e'
              rw [hx]
              rcases k3 with rfl | rfl | rfl
              · decide
              · decide
              · exact absurd hb (by decide +kernel)
            · have n1' : us.size = (x :: xs).length := by simpa using SeqAt.ReadsAll.length _ _ _ g4
              have n2' : ws.size = (y :: ys).length := by simpa using SeqAt.ReadsAll.length _ _ _ f4
              rw [n1', n2', lexK_eq]
              exact ⟨rfl, hlx.trans hkk⟩
end
end Dl
end
section
set_option linter.all false
set_option maxRecDepth 100000
set_option maxHeartbeats 4000000
/-! DlSo2: sorted(x) of data. -/
namespace Dl
open PySem PySem.Spec PyProof.Rows L2 SrtO
section
variable {α β : Type} {S : α → β → Prop} {lt : α → α → Bool} {lt' : β → β → Bool}
inductive All2 (S : α → β → Prop) : List α → List β → Prop where
  | nil : All2 S [] []
  | cons {a : α} {b : β} {l : List α} {m : List β} : S a b → All2 S l m → All2 S (a :: l) (b :: m)
theorem ins_all2 (hS : ∀ a b a' b', S a b → S a' b' → lt a a' = lt' b b') {x : α} {y : β} (hx : S x y) : ∀ {l : List α} {m : List β}, All2 S l m → All2 S (insG lt x l) (insG lt' y m)
  | _, _, .nil => .cons hx .nil
  | _, _, .cons h t => by
    unfold insG
    rw [hS _ _ _ _ h hx]
    split
    · exact .cons h (ins_all2 hS hx t)
    · exact .cons hx (.cons h t)
theorem sort_all2 (hS : ∀ a b a' b', S a b → S a' b' → lt a a' = lt' b b') : ∀ {l : List α} {m : List β}, All2 S l m → All2 S (sortG lt l) (sortG lt' m)
  | _, _, .nil => .nil
  | _, _, .cons h t => ins_all2 hS h (sort_all2 hS t)
end
theorem dp_all2 {K : PySem.W.Frag} {F : Hp} : ∀ {vs : List V} {ds : List D}, DqAll K F vs ds → All2 (Dq K F) vs ds
  | _, _, .nil => .nil
  | _, _, .cons h t => .cons h (dp_all2 t)
theorem all2_dp {K : PySem.W.Frag} {F : Hp} : ∀ {vs : List V} {ds : List D}, All2 (Dq K F) vs ds → DqAll K F vs ds
  | _, _, .nil => .nil
  | _, _, .cons h t => .cons h (all2_dp t)
/-- the values in the order of what they are -/
def sortV (ys : List V) (xs : List D) : List V := (sortG (fun p q : V × D => ltB p.2 q.2) (ys.zip xs)).map (·.1)
theorem zip_all2 {T : V → D → Prop} : ∀ {ys : List V} {xs : List D}, All2 T ys xs → All2 (fun (p : V × D) (d : D) => p.2 = d ∧ T p.1 d) (ys.zip xs) xs
  | _, _, .nil => .nil
  | _, _, .cons h t => .cons ⟨rfl, h⟩ (zip_all2 t)
theorem map_all2 {T : V → D → Prop} : ∀ {l : List (V × D)} {m : List D}, All2 (fun (p : V × D) (d : D) => p.2 = d ∧ T p.1 d) l m → All2 T (l.map (·.1)) m
  | _, _, .nil => .nil
  | _, _, .cons h t => .cons h.2 (map_all2 t)
theorem sortV_all2 {T : V → D → Prop} {ys : List V} {xs : List D} (h : All2 T ys xs) : All2 T (sortV ys xs) (sortG ltB xs) :=
  map_all2 (sort_all2 (fun a b a' b' h1 h2 => by rw [h1.1, h2.1]) (zip_all2 h))
theorem sortV_dp {K : PySem.W.Frag} {F : Hp} {ys : List V} {xs : List D} (h : DqAll K F ys xs) : DqAll K F (sortV ys xs) (sortG ltB xs) := all2_dp (sortV_all2 (dp_all2 h))
theorem readsAll_all2 {h : Heap} : ∀ {ds : List D} {vs : List V} {us : List Value} {as : List Addr}, Vals vs us → ReadsAll h us ds as → PyData.canLayAll0 ds = true → All2 (fun (p : V × D) (u : Value) => RelV p.1 u ∧ datum h u = p.2 ∧ p.2 ∈ ds) (vs.zip ds) us := by
  have key : ∀ {ds : List D} (es : List D) {vs : List V} {us : List Value} {as : List Addr}, Vals vs us → ReadsAll h us ds as → PyData.canLayAll0 ds = true → (∀ d ∈ ds, d ∈ es) → All2 (fun (p : V × D) (u : Value) => RelV p.1 u ∧ datum h u = p.2 ∧ p.2 ∈ es) (vs.zip ds) us := fun {ds} es => by
    induction ds with
    | nil => intro vs us as rv rd _ _; cases rd; cases rv; exact .nil
    | cons d ds ih =>
      intro vs us as rv rd hc hm
      cases rd with
      | cons k1 k2 =>
        cases rv with
        | cons r1 r2 =>
          obtain ⟨c1, c2⟩ := Bool.and_eq_true_iff.mp (show (d.canLay0 && PyData.canLayAll0 ds) = true from hc)
          exact .cons ⟨r1, datum_of k1 c1, hm d List.mem_cons_self⟩ (ih r2 k2 c2 fun e he => hm e (List.mem_cons_of_mem _ he))
  intro ds vs us as rv rd hc
  exact key ds rv rd hc fun _ h => h
theorem all2_vals (T : V → D → Value → Prop) : ∀ {l : List (V × D)} {us : List Value}, All2 (fun (p : V × D) (u : Value) => RelV p.1 u ∧ T p.1 p.2 u) l us → Vals (l.map (·.1)) us
  | _, _, .nil => .nil
  | _, _, .cons h t => .cons h.1 (all2_vals T t)
/-- behind the collection of data: the new list -/
theorem sorted_end {X : Cx} {pins : List (Addr × Obj)} {σ : L2.St} {H : Hp} {s : Shared} {Q : VK} {ys : List V} {xs : List D} {its : List Value} {as : List Addr} (I : Inv X pins σ H s) (rv : Vals ys its) (rd : ReadsAll s.heap its xs as) (hl : PyData.canLayAll0 xs = true) (hc : allCmp xs = true) (hk : kindOk xs = true) (hz : its.length ≤ sizeLine)
    (hu : X.A.in1.in1.units + PyData.depthAll xs + 3 < cLine) (q : ∀ l, H l = none → Q (.ref l) (upd H l (.lst (sortV ys xs)))) :
    its.length ≤ sizeLine ∧ ∃ ltv, Swo ltv ∧
      (2 ≤ its.length → ∀ (h₁ : Heap) (a : Addr), h₁.get? a = some (seqObj "list" its.toArray 0) → (∀ b o, s.heap.get? b = some o → b ≠ a ∧ h₁.get? b = some o) → SortableO X.prog X.w X.A.in1.in1 { s with heap := h₁ } a its ltv) ∧
      ∀ (out : List Value) (h' : Heap) (c : Nat), Srtd ltv out → Stb ltv out its → (∀ b o, s.heap.get? b = some o → h'.get? b = some o) → h'.get? s.heap.objs.size = some (seqObj "list" out.toArray c) → EP X pins σ Q (.ref s.heap.objs.size) { s with heap := h' } := by
  refine ⟨hz, _, swo_enc (fun v => encD (datum s.heap v)), fun h2 h₁ a _ keep => data_sortable (s := { s with heap := h₁ }) rd keep hl hc hk h2 hu, fun out h' c hs hb keep hob => ?_⟩
  have eo := sort_uniq (swo_enc (fun v => encD (datum s.heap v))) hs hb
  subst eo
  have a2 := readsAll_all2 rv rd hl
  have a3 := sort_all2 (lt := fun p q : V × D => ltB p.2 q.2) (lt' := fun v u => lexI (encD (datum s.heap v)) (encD (datum s.heap u))) (fun a b a' b' h1 h2 => by
    rw [h1.2.1, h2.2.1]
    obtain ⟨i, hi⟩ := mem_at h1.2.2
    obtain ⟨j, hj⟩ := mem_at h2.2.2
    obtain ⟨k, hk⟩ := cmp_all hc hi hj
    show (ltD a.2 a'.2).getD false = _
    rw [hk, ltD_enc hk]
    rfl) a2
  have rz : Vals (sortV ys xs) (sortG (fun v u => lexI (encD (datum s.heap v)) (encD (datum s.heap u))) its) := all2_vals (fun _ d u => datum s.heap u = d ∧ d ∈ xs) a3
  have hlen : (sortV ys xs).length ≤ sizeLine := by
    rw [rz.length, hb.perm.length_eq]
    exact hz
  exact ⟨.ref s.heap.objs.size, _, I.laid (t' := s.toks) keep (Nat.le_refl _) (show ObjOk X.prog X.w _ h' _ (.lst (sortV ys xs)) from ⟨hlen, _, c, rz, hob⟩), rfl, q _ (I.hok.fresh (Nat.le_refl _))⟩
theorem cr_sortedS {X : Cx} (hu : X.A.units + 100 < cLine) : CallR X (.builtin "sorted") (fun vs H Q => ∃ a ys xs F, vs = [.ref a] ∧ (SqL X.K H a ys ∨ SqT X.K H a ys) ∧ Same F H ∧ DqAll X.K F ys xs ∧ PyData.canLayAll0 xs = true ∧ allCmp xs = true ∧ kindOk xs = true ∧ PyData.depthAll xs ≤ 65 ∧ ∀ l, H l = none → Q (.ref l) (upd H l (.lst (sortV ys xs)))) := by
  intro pins s σ H vs us Q I r h
  obtain ⟨a, ys, xs, F, rfl, hq, sF, dp, hl, hc, hk, hd, q⟩ := h
  obtain ⟨u, rfl, rx⟩ := vals1 r
  cases rx
  have seq : ∃ (its : List Value) (o : Obj) (T : String) (n : Nat), Vals ys its ∧ ys.length ≤ sizeLine ∧ (T = "list" ∨ T = "tuple") ∧ s.heap.get? a = some o ∧ o.cls = .type T ∧ o.data = .seq its.toArray n := by
    rcases hq with h | h
    · obtain ⟨its, rv, pl, hz⟩ := I.list h
      obtain ⟨o, ho, hc, n, hd⟩ := pl.isList
      exact ⟨its, o, "list", n, rv, hz, .inl rfl, ho, hc, hd⟩
    · obtain ⟨its, rv, pl, hz⟩ := I.tuple h
      obtain ⟨o, ho, hc, n, hd⟩ := pl
      exact ⟨its, o, "tuple", n, rv, hz, .inr rfl, ho, hc, hd⟩
  obtain ⟨its, o, T, n, rv, hz, hT, ho, hcl, hd'⟩ := seq
  obtain ⟨as, rd⟩ := Dp.readsAll I xs ys its ((DqAll.ext sF dp).dp hl) rv
  have hz' : its.length ≤ sizeLine := by rw [← rv.length]; exact hz
  refine sorted_core fun A' _ => wpAny_collect_seq a hT ho hcl hd' (fun h' k => ?_) (by rw [List.size_toArray]; exact hz')
  have e : its.toArray.toList = its := by simp
  rw [e]
  have un : X.A.in1.in1.units = X.A.units + 2 := rfl
  exact sorted_end (s := { s with heap := h' }) (I.kept (t' := s.toks) k) rv (ReadsAll.keeps k rd) hl hc hk hz' (by omega) q
theorem sorted_ok {K : PySem.W.Frag} {P : Option V} {XR : XRel} {W : WX} {F H : Hp} {ρ : Env} {σ : L2.St} {vs : List V} {ds : List D} {v : Vl} {Q : VK} (o : Ok K P F ρ σ H) (h : DpTs K F H vs ds) (e : biD .sorted ds = some v) (q : Fin K P XR W F ρ H σ (RV K σ) (.ok (v, ρ)) Q) :
    ∃ a ys xs F, vs = [.ref a] ∧ (SqL K H a ys ∨ SqT K H a ys) ∧ Same F H ∧ DqAll K F ys xs ∧ PyData.canLayAll0 xs = true ∧ allCmp xs = true ∧ kindOk xs = true ∧ PyData.depthAll xs ≤ 65 ∧ ∀ l, H l = none → Q (.ref l) (upd H l (.lst (sortV ys xs))) := by
  have key : ∀ {ys : List V} {xs : List D} {d : D}, DqAll K F ys xs → (if shp d = true then (sortD xs).map Vl.ow else none) = some v → (d = .list xs ∨ d = .tuple xs) →
      PyData.canLayAll0 xs = true ∧ allCmp xs = true ∧ kindOk xs = true ∧ PyData.depthAll xs ≤ 65 ∧ ∀ l, H l = none → Q (.ref l) (upd H l (.lst (sortV ys xs))) := fun {ys xs d} t e hd => by
    split at e
    · rename_i hs
      obtain ⟨zs, e1, e2⟩ := Option.map_eq_some_iff.mp e
      subst e2
      unfold sortD at e1
      split at e1
      · rename_i hk
        cases e1
        obtain ⟨k1, k2⟩ := and2 hk
        have hcan := shp_can hs
        have hdep := shp_depth hs
        have hcan' : PyData.canLayAll0 xs = true := by rcases hd with rfl | rfl <;> exact hcan
        have hdep' : PyData.depthAll xs + 1 ≤ 64 := by rcases hd with rfl | rfl <;> exact hdep
        exact ⟨hcan', k1, k2, by omega, fun l hl => fin_list q o hl (sortV_dp t)⟩
      · cases e1
    · cases e
  cases h with
  | nil => cases e
  | cons h t =>
    cases t with
    | cons _ _ => cases h <;> cases e
    | nil =>
      cases h with
      | lst h t =>
        obtain ⟨z1, z2, z3, z4, z5⟩ := key t e (.inl rfl)
        exact ⟨_, _, _, F, rfl, .inl h, o.sub, t, z1, z2, z3, z4, z5⟩
      | tup h t =>
        obtain ⟨z1, z2, z3, z4, z5⟩ := key t e (.inr rfl)
        exact ⟨_, _, _, F, rfl, .inr (Ext.sqT o.sub h), o.sub, t, z1, z2, z3, z4, z5⟩
      | _ => cases e
theorem pd_sorted {X : Cx} {P : Option V} {XR : XRel} {W : WX} {e : Expr} {es : List Expr} {os : Env → R (List Op × Env)} {p pos : Pos} (hu : X.A.units + 100 < cLine) (ha : POs X P XR W (e :: es) os) (he : starEach (e :: es) X.env = (false, eval e X.env) :: starEach es X.env) (hpl : (backTo pos (starEach es X.env)).any (·.1) = false)
    (hg : Gl X "sorted") (hm : X.mg "sorted" = none) : PD X P XR W (.Call (.Name "sorted" p) (e :: es) [] pos) (biF .sorted os) :=
  pd_bi .sorted (pe_callB (cr_sortedS hu) hg hm (by decide +kernel) ha (by decide) (by decide) he hpl) fun σ F ρ H vs ds v Q o h e q => sorted_ok o h e q
end Dl
end
section
set_option linter.all false
set_option maxRecDepth 100000
set_option maxHeartbeats 4000000
/-! DlSet: sets of texts, of tuples. -/
namespace Dl
open PySem PySem.Spec PyProof.Rows L2
abbrev KV := Value × NestedKey
abbrev rowN (w : World) (p : KV) : Int × Value := (p.2.hash w, p.1)
/-- the set at a holds L's values: what both kinds of sets tell -/
structure Holds (w : World) (h : Heap) (a : Addr) (L : List KV) (es : Array (Int × Value)) (ep : Nat) (t : SetTable) : Prop where
  ob : ∃ o, h.get? a = some o ∧ o.ExactSet ∧ o.data = .set es ep t
  rows : es.toList = L.map (rowN w)
  nd : (L.map (·.2)).Nodup
  ris : Ris t.place.toList
  fit : t.fits es.size = true
  led : w.params.followText "set-order" = true ∨ t.led = true
section
variable {w : World} {h h' : Heap} {a : Addr} {L : List KV} {es : Array (Int × Value)} {ep : Nat} {t : SetTable}
theorem Holds.size (R : Holds w h a L es ep t) : es.size = L.length := by
  rw [← Array.length_toList, R.rows, List.length_map]
theorem Holds.vals (R : Holds w h a L es ep t) : es.toList.map (·.2) = L.map (·.1) := by
  rw [R.rows, List.map_map]
  rfl
theorem Holds.keep (R : Holds w h a L es ep t) (k : ∀ o, h.get? a = some o → h'.get? a = some o) : Holds w h' a L es ep t := by
  obtain ⟨o, ho, r⟩ := R.ob
  exact ⟨⟨o, k o ho, r⟩, R.rows, R.nd, R.ris, R.fit, R.led⟩
end

/-! ### texts, numbers: one by one through all -/
/-- keys that are carried by value -/
structure ScanK (P : Program) (w : World) (κ : Type) [DecidableEq κ] where
  kd : KeyKind P w κ
  emb : κ → NestedKey
  inj : ∀ x y, emb x = emb y → x = y
  hash : ∀ x, (emb x).hash w = kd.hash x
  scan : ∀ x v, kd.is x v = true → v.scannable = true
def textK (P : Program) (w : World) : ScanK P w Str := ⟨strKind P w, .text, fun x y h => by cases h; rfl, fun x => rfl, fun x v h => by obtain ⟨t, rfl⟩ := Value.isStrOf_shape h; rfl⟩
def numK (P : Program) (w : World) : ScanK P w Int := ⟨intKind P w, .num, fun x y h => by cases h; rfl, fun x => rfl, fun x v h => by obtain ⟨t, rfl⟩ := Value.isInt_shape h; rfl⟩
section
variable {P : Program} {w : World} {κ : Type} [DecidableEq κ] {A : Around} {E : Value → Shared → Prop} {s : Shared} {a : Addr} {L : List KV} {es : Array (Int × Value)} {ep : Nat} {t : SetTable}
/-- all of L are of that kind -/
def AllK (M : ScanK P w κ) (L : List KV) : Prop := ∀ p ∈ L, ∃ x, p.2 = M.emb x ∧ M.kd.is x p.1 = true
theorem allK_elems (M : ScanK P w κ) {L : List KV} {l : List (Int × Value)} (e : l = L.map (rowN w)) (h : AllK M L) : ElemsOf M.kd l := fun q hq => by
  rw [e] at hq
  obtain ⟨p, hp, rfl⟩ := List.mem_map.mp hq
  obtain ⟨x, h1, h2⟩ := h p hp
  exact ⟨⟨x, h2, by show p.2.hash w = _; rw [h1, M.hash]⟩, M.scan x _ h2⟩
/-- rows in another order come from keys in another order -/
theorem rows_perm {l : List (Int × Value)} {L : List KV} (h : l.Perm (L.map (rowN w))) : ∃ L' : List KV, l = L'.map (rowN w) ∧ L'.Perm L := by
  have key : ∀ (l : List (Int × Value)) (L : List KV), l.Perm (L.map (rowN w)) → ∃ L' : List KV, l = L'.map (rowN w) ∧ L'.Perm L := fun l => by
    induction l with
    | nil =>
      intro L h
      have e := List.Perm.nil_eq h
      cases L with
      | nil => exact ⟨[], rfl, List.Perm.refl _⟩
      | cons _ _ => cases e
    | cons q l ih =>
      intro L h
      have hq : q ∈ L.map (rowN w) := h.mem_iff.mp List.mem_cons_self
      obtain ⟨p, hp, rfl⟩ := List.mem_map.mp hq
      obtain ⟨L1, L2, rfl⟩ := List.append_of_mem hp
      have h1 : (L1 ++ p :: L2).Perm (p :: (L1 ++ L2)) := List.perm_middle
      have h2 : l.Perm ((L1 ++ L2).map (rowN w)) := (h.trans (h1.map _)).cons_inv
      obtain ⟨L', e1, e2⟩ := ih _ h2
      exact ⟨p :: L', by rw [List.map_cons, e1], (e2.cons p).trans h1.symm⟩
  exact key l L h
/-- what an addition ends with -/
abbrev Added (w : World) (s : Shared) (a : Addr) (L : List KV) (v : Value) (k : NestedKey) (Z : List KV → SetTable → Prop) (Q : Bool → Shared → Prop) : Prop :=
  ∀ b h' L' es' ep' t', Heap.SameBut a s.heap h' → Holds w h' a L' es' ep' t' → Z L' t' → (k ∈ L.map (·.2) → L' = L) → (k ∉ L.map (·.2) → L'.Perm ((v, k) :: L)) → Q b { s with heap := h' }
theorem scan_tail {g : Bool → Sem Unit} (hg : ∀ (b : Bool) (s₁ : Shared) (R : Unit → Shared → Prop), R () s₁ → wpAny (model P w) A (g b) R E s₁) {o : Obj} (ho : s.heap.get? a = some o) (hex : o.ExactSet) (hd : o.data = .set es ep t)
    {L1 : List KV} {es1 : Array (Int × Value)} {t2 : SetTable} (r1 : es1.toList = L1.map (rowN w)) (n1 : (L1.map (·.2)).Nodup) (b1 : es1.size < scanBound) (f2 : t2.fits es1.size = true) (i2 : Ris t2.place.toList) (l2 : w.params.followText "set-order" = true ∨ t2.led = true) {was : Bool} {R : Option Bool → Shared → Prop}
    (hR : ∀ h' L' es' ep' t', Heap.SameBut a s.heap h' → Holds w h' a L' es' ep' t' → L'.Perm L1 → R (some true) { s with heap := h' }) :
    wpAny (model P w) A (do
        storeSet a es1 t2
        if (!was && t2.tooFull) = true then do
            g (relayAll t2 es1 (SetTable.grown es1.size)).2.2
            storeSet a (relayAll t2 es1 (SetTable.grown es1.size)).1 (relayAll t2 es1 (SetTable.grown es1.size)).2.1
            pure (some true)
          else pure (some true)) R E s := by
  refine wpAny_bind (wpAny_storeSet_of ho hd ?_ (fits_of_scanBound b1))
  have at1 := store_at (es' := es1) (t' := t2) ho hd
  have same1 := Heap.SameBut.update s.heap a (Obj.putSet es1 t2)
  split
  · have q1 := relayAll_perm t2 es1 (SetTable.grown es1.size)
    have q2 := relayAll_fits t2 es1 (SetTable.grown es1.size)
    have q3 := relayAll_ris t2 es1 (SetTable.grown es1.size)
    have q4 := relayAll_led t2 es1 (SetTable.grown es1.size)
    generalize relayAll t2 es1 (SetTable.grown es1.size) = Y at q1 q2 q3 q4 ⊢
    obtain ⟨es2, t3, gv⟩ := Y
    dsimp only at q1 q2 q3 q4 ⊢
    have z2 : es2.size = es1.size := by rw [← Array.length_toList, q1.length_eq, Array.length_toList]
    refine wpAny_bind (hg _ _ _ ?_)
    refine wpAny_bind (wpAny_storeSet_of at1 rfl ?_ (fits_of_scanBound (by rw [z2]; exact b1)))
    have at2 := store_at (es' := es2) (t' := t3) at1 rfl
    obtain ⟨L2, e2, p2⟩ := rows_perm (w := w) (L := L1) (l := es2.toList) (by rw [← r1]; exact q1)
    exact wpAny_pure (hR _ L2 es2 _ t3 (same1.trans (Heap.SameBut.update _ a _)) ⟨⟨_, at2, hex, rfl⟩, e2, (p2.map _).nodup_iff.mpr n1, q3, q2, l2.imp id fun z => by rw [q4]; exact z⟩ p2)
  · exact wpAny_pure (hR _ L1 es1 _ t2 same1 ⟨⟨_, at1, hex, rfl⟩, r1, n1, i2, f2, l2⟩ (List.Perm.refl _))
theorem scan_add (M : ScanK P w κ) (R : Holds w s.heap a L es ep t) (hA : AllK M L) (few : L.length < scanBound) {v : Value} {x : κ} (few1 : M.emb x ∉ L.map (·.2) → L.length + 1 < scanBound) (hx : M.kd.is x v = true) {Q : Bool → Shared → Prop}
    (hQ : Added w s a L v (M.emb x) (fun L' _ => AllK M L') Q) : wpAny (model P w) A (setAddHashed a v (M.kd.hash x)) Q E s := by
  obtain ⟨o, ho, hex, hd⟩ := R.ob
  have hsz := R.size
  have hb : es.size < scanBound := by rw [hsz]; exact few
  have hel := allK_elems M R.rows hA
  unfold setAddHashed setAddHashedIn
  refine wpAny_holding (wpAny_bind (wpAny_setState_of ho hd R.fit ?_))
  dsimp only
  rw [byScan_of (M.scan x v hx) hb hel]
  simp only [↓reduceIte]
  unfold setAddByScan
  refine wpAny_bind (wpAny_bind (wpAny_rule ?_))
  refine wpAny_bind (wpAny_setScan_of hx ho hd R.fit hel ?_)
  have mem_iff : M.emb x ∈ L.map (·.2) ↔ ∃ q ∈ es.toList, M.kd.is x q.2 = true := by
    rw [R.rows]
    constructor
    · intro hm
      obtain ⟨p, hp, e⟩ := List.mem_map.mp hm
      obtain ⟨y, h1, h2⟩ := hA p hp
      have e3 : x = y := M.inj x y (by rw [← h1]; exact e.symm)
      exact ⟨rowN w p, List.mem_map.mpr ⟨p, hp, rfl⟩, by rw [e3]; exact h2⟩
    · rintro ⟨q, hq, h2⟩
      obtain ⟨p, hp, rfl⟩ := List.mem_map.mp hq
      obtain ⟨y, h1, h3⟩ := hA p hp
      have e3 := M.kd.inj _ _ _ h2 h3
      exact List.mem_map.mpr ⟨p, hp, by rw [h1, e3]⟩
  cases hfi : List.findIdx? (fun e => M.kd.is x e.2) es.toList with
  | some j =>
    dsimp only
    obtain ⟨hj, pj, _⟩ := List.findIdx?_eq_some_iff_getElem.mp hfi
    have hm := mem_iff.mpr ⟨es.toList[j], List.getElem_mem hj, pj⟩
    exact wpAny_pure (wpAny_pure (hQ false s.heap L es ep t (Heap.SameBut.refl a s.heap) R hA (fun _ => rfl) fun z => absurd hm z))
  | none =>
    dsimp only
    have hm : M.emb x ∉ L.map (·.2) := fun z => by
      obtain ⟨q, hq, h2⟩ := mem_iff.mp z
      have c := List.findIdx?_eq_none_iff.mp hfi q hq
      rw [h2] at c
      cases c
    have gave : ∀ (b : Bool) {s₁ : Shared} {R' : Unit → Shared → Prop}, R' () s₁ → wpAny (model P w) A (match b with | true => rule "set.scan.the-table-gave-way" | false => pure ()) R' E s₁ :=
      fun b s₁ R' q => by cases b <;> first | exact wpAny_pure q | exact wpAny_rule q
    have q1 := layNew_perm t es (M.kd.hash x) v
    have q2 := layNew_fits t es (M.kd.hash x) v
    have q3 := layNew_ris t es (M.kd.hash x) v R.ris
    have q4 := layNew_led t es (M.kd.hash x) v
    generalize layNew t es (M.kd.hash x) v = Y at q1 q2 q3 q4 ⊢
    obtain ⟨es1, t1, was, gv⟩ := Y
    dsimp only at q1 q2 q3 q4 ⊢
    rw [Array.toList_push, R.rows] at q1
    have pc : es1.toList.Perm (((v, M.emb x) :: L).map (rowN w)) := by
      rw [List.map_cons]
      have e : rowN w (v, M.emb x) = (M.kd.hash x, v) := by show ((M.emb x).hash w, v) = _; rw [M.hash]
      rw [e]
      exact q1.trans (List.perm_append_singleton _ _)
    obtain ⟨L1, r1, p1⟩ := rows_perm pc
    have n1 : (L1.map (·.2)).Nodup := by
      refine (p1.map _).nodup_iff.mpr ?_
      rw [List.map_cons]
      exact List.nodup_cons.mpr ⟨hm, R.nd⟩
    have z1 : es1.size = L.length + 1 := by rw [← Array.length_toList, pc.length_eq, List.length_map, List.length_cons]
    have b1 : es1.size < scanBound := by rw [z1]; exact few1 hm
    have l1 : w.params.followText "set-order" = true ∨ t1.led = true := R.led.imp id fun z => by rw [q4]; exact z
    have fin : ∀ h' L' es' ep' t', Heap.SameBut a s.heap h' → Holds w h' a L' es' ep' t' → L'.Perm L1 → Q true { s with heap := h' } := fun h' L' es' ep' t' sb R' pp =>
      hQ true h' L' es' ep' t' sb R' (fun p hp => by
        rcases List.mem_cons.mp ((pp.trans p1).mem_iff.mp hp) with z | z
        · rw [z]; exact ⟨x, rfl, hx⟩
        · exact hA p z) (fun z => absurd z hm) fun _ => pp.trans p1
    refine wpAny_bind (gave _ ?_)
    split
    · refine wpAny_bind ?_
      rw [hashByValue_scannable 8 (M.scan x v hx)]
      refine wpAny_pure ?_
      refine scan_tail ?_ ho hex hd r1 n1 b1 ?_ ?_ ?_ ?_
      · intro b s₁ R' q; cases b <;> first | exact wpAny_pure q | exact wpAny_rule q
      · first | (split <;> first | exact q2 | exact SetTable.fits_plain_off q2) | exact q2
      · first | (split <;> exact q3) | exact q3
      · first | (split <;> exact l1) | exact l1
      · intro h' L' es' ep' t' sb R' pp; dsimp only; exact wpAny_pure (fin h' L' es' ep' t' sb R' pp)
    · refine wpAny_bind (wpAny_pure ?_)
      simp only [↓reduceIte]
      refine scan_tail ?_ ho hex hd r1 n1 b1 q2 q3 l1 ?_
      · intro b s₁ R' q; cases b <;> first | exact wpAny_pure q | exact wpAny_rule q
      · intro h' L' es' ep' t' sb R' pp; dsimp only; exact wpAny_pure (fin h' L' es' ep' t' sb R' pp)
end
/-! ### tuples: by the table's own way -/
section
variable {P : Program} {w : World} {s : Shared}
/-- v is of no class statement, n levels down -/
def NoClass (P : Program) (w : World) (n : Nat) (s : Shared) (v : Value) : Prop := ∀ (A : Around) (E : Value → Shared → Prop) (Q : Bool → Shared → Prop), Q false s → wpAny (model P w) A (ofAClassStatement n v) Q E s
/-- v's hash is by value or not: the answer comes, nothing changes -/
def HashTold (P : Program) (w : World) (n : Nat) (s : Shared) (v : Value) : Prop := ∀ (A : Around) (E : Value → Shared → Prop) (Q : Bool → Shared → Prop), (∀ b, Q b s) → wpAny (model P w) A (hashByValue n v) Q E s
theorem noClass_at {n : Nat} {v : Value} (h : ofAClassStatement n v = pure false) : NoClass P w n s v := fun A E Q q => by
  rw [h]
  exact wpAny_pure q
theorem hashTold_at {n : Nat} {v : Value} {b : Bool} (h : hashByValue n v = pure b) : HashTold P w n s v := fun A E Q q => by
  rw [h]
  exact wpAny_pure (q b)
theorem noClass_tup {n : Nat} {a : Addr} {o : Obj} {vs : Array Value} {m : Nat} (ho : s.heap.get? a = some o) (hc : o.cls = .type "tuple") (hd : o.data = .seq vs m) (hv : ∀ v ∈ vs.toList, NoClass P w n s v) : NoClass P w (n + 1) s (.ref a) := fun A E Q q => by
  have hT : s.TypeIs (.ref a) "tuple" := ⟨o, ho, hc⟩
  unfold ofAClassStatement
  refine wpAny_bind (wpAny_typeOf hT ?_)
  dsimp only
  have e0 : (("tuple" : String) == "tuple") = true := by decide
  simp only [e0, if_true, Bool.not_true, Bool.false_eq_true, if_false]
  try refine wpAny_bind (wpAny_pure ?_)
  try simp only [Bool.not_true, Bool.false_eq_true, if_false]
  show wpAny _ _ (seqItems? (.ref a) >>= _) _ _ s
  refine wpAny_bind (wpAny_seqItems ho hd ?_)
  dsimp only
  refine wpAny_bind ?_
  show wpAny _ _ (forIn vs _ _) _ _ s
  rw [← Array.forIn_toList]
  refine wpAny_forIn_list _ (fun left r s1 => r.1 = none ∧ s1 = s ∧ ∀ v ∈ left, NoClass P w n s v) _ ?_ ?_ _ _ ⟨rfl, rfl, hv⟩
  · rintro v left r s1 ⟨e1, rfl, all⟩
    refine wpAny_bind (all v List.mem_cons_self _ _ _ ?_)
    simp only [Bool.false_eq_true, if_false]
    exact wpAny_pure ⟨rfl, rfl, fun u hu => all u (List.mem_cons_of_mem _ hu)⟩
  · rintro ⟨r1, r2⟩ s1 ⟨e1, rfl, _⟩
    simp only at e1
    subst e1
    exact wpAny_pure q
theorem hashTold_tup {n : Nat} {a : Addr} {o : Obj} {vs : Array Value} {m : Nat} (ho : s.heap.get? a = some o) (hc : o.cls = .type "tuple") (hd : o.data = .seq vs m) (hv : ∀ v ∈ vs.toList, HashTold P w n s v) : HashTold P w (n + 1) s (.ref a) := fun A E Q q => by
  have hT : s.TypeIs (.ref a) "tuple" := ⟨o, ho, hc⟩
  unfold hashByValue
  refine wpAny_bind (wpAny_specialOf hT F.slot_tuple_hash.lookup ?_)
  show wpAny _ _ (seqItems? (.ref a) >>= _) _ _ s
  refine wpAny_bind (wpAny_seqItems ho hd ?_)
  refine wpAny_bind ?_
  show wpAny _ _ (forIn vs _ _) _ _ s
  rw [← Array.forIn_toList]
  refine wpAny_forIn_list _ (fun left r s1 => s1 = s ∧ ∀ v ∈ left, HashTold P w n s v) _ ?_ ?_ _ _ ⟨rfl, hv⟩
  · rintro v left r s1 ⟨rfl, all⟩
    refine wpAny_bind (all v List.mem_cons_self _ _ _ fun b => ?_)
    cases b with
    | true =>
      simp only [Bool.not_true, Bool.false_eq_true, if_false]
      exact wpAny_pure ⟨rfl, fun u hu => all u (List.mem_cons_of_mem _ hu)⟩
    | false =>
      simp only [Bool.not_false, if_true]
      exact wpAny_pure (wpAny_pure (q _))
  · rintro ⟨r1, r2⟩ s1 ⟨rfl, _⟩
    cases r1 with
    | none => exact wpAny_pure (q _)
    | some b => exact wpAny_pure (q _)
end
end Dl
end
section
set_option linter.all false
set_option maxRecDepth 100000
set_option maxHeartbeats 4000000
/-! DlSet2: sets of tuples, however deep: the table's own way. -/
namespace Dl
open PySem PySem.Spec PyProof.Rows L2
section
variable {P : Program} {w : World}
mutual
theorem noClass_key : ∀ (k : NestedKey) (v : Value) (n : Nat) (s : Shared), NestedIs s.heap k v → k.depth ≤ n → NoClass P w n s v
  | .none, _, n, s, x, _ => by cases x; exact noClass_at (by cases n <;> rfl)
  | .num i, _, n, s, x, _ => by cases x <;> exact noClass_at (by cases n <;> rfl)
  | .text y, _, n, s, x, _ => by cases x; exact noClass_at (by cases n <;> rfl)
  | .tup ks, _, 0, s, x, hn => by simp only [NestedKey.depth] at hn; omega
  | .tup ks, _, n + 1, s, x, hn => by
    simp only [NestedKey.depth] at hn
    cases x with
    | tup hg hc hd hk => exact noClass_tup hg hc hd (noClass_keys ks _ n s hk (Nat.le_of_succ_le_succ hn))
theorem noClass_keys : ∀ (ks : List NestedKey) (vs : List Value) (n : Nat) (s : Shared), NestedAll s.heap ks vs → NestedKey.depthAll ks ≤ n → ∀ v ∈ vs, NoClass P w n s v
  | [], _, n, s, x, _ => fun v hv => by cases x; cases hv
  | k :: ks, _, n, s, x, hn => fun v hv => by
    cases x with
    | cons x1 x2 =>
      simp only [NestedKey.depthAll] at hn
      rcases List.mem_cons.mp hv with e | e
      · rw [e]; exact noClass_key k _ n s x1 (Nat.le_trans (Nat.le_max_left _ _) hn)
      · exact noClass_keys ks _ n s x2 (Nat.le_trans (Nat.le_max_right _ _) hn) v e
end
mutual
theorem hashTold_key : ∀ (k : NestedKey) (v : Value) (n : Nat) (s : Shared), NestedIs s.heap k v → HashTold P w n s v
  | .none, _, n, s, x => by cases x; exact hashTold_at (b := true) (by cases n <;> rfl)
  | .num i, _, n, s, x => by cases x <;> exact hashTold_at (b := true) (by cases n <;> rfl)
  | .text y, _, n, s, x => by cases x; exact hashTold_at (b := false) (by cases n <;> rfl)
  | .tup ks, _, 0, s, x => by cases x with
    | tup hg hc hd hk => exact hashTold_at (b := false) rfl
  | .tup ks, _, n + 1, s, x => by
    cases x with
    | tup hg hc hd hk => exact hashTold_tup hg hc hd (hashTold_keys ks _ n s hk)
theorem hashTold_keys : ∀ (ks : List NestedKey) (vs : List Value) (n : Nat) (s : Shared), NestedAll s.heap ks vs → ∀ v ∈ vs, HashTold P w n s v
  | [], _, n, s, x => fun v hv => by cases x; cases hv
  | k :: ks, _, n, s, x => fun v hv => by
    cases x with
    | cons x1 x2 =>
      rcases List.mem_cons.mp hv with e | e
      · rw [e]; exact hashTold_key k _ n s x1
      · exact hashTold_keys ks _ n s x2 v e
end
/-- the tuple at b is the key k, at most eight levels deep -/
structure TupK (h : Heap) (k : NestedKey) (b : Addr) : Prop where
  key : NestedIs h k (.ref b)
  low : k.depth ≤ 8
variable {A : Around} {E : Value → Shared → Prop} {s : Shared}
/-- looking among tuples for one tells nothing -/
theorem unseen {k : NestedKey} {b : Addr} {Q : Bool → Shared → Prop} (hk : TupK s.heap k b) {ys : List Value} (hy : ∀ y ∈ ys, ∃ k1 c, y = Value.ref c ∧ TupK s.heap k1 c) (q : Q false s) :
    wpAny (model P w) A (searchCouldBeSeen (.ref b) ys) Q E s := by
  have qk := quiet_key (prog := P) (w := w) k _ 8 s hk.key hk.low
  have nk := noClass_key (P := P) (w := w) k _ 8 s hk.key hk.low
  unfold searchCouldBeSeen
  refine wpAny_bind (wpAny_forIn_list _ (fun left r s1 => r.1 = none ∧ s1 = s ∧ ∀ y ∈ left, ∃ k1 c, y = Value.ref c ∧ TupK s.heap k1 c) _ ?_ ?_ _ _ ⟨rfl, rfl, hy⟩)
  · rintro v left r s1 ⟨e1, rfl, all⟩
    obtain ⟨k1, c, rfl, hc⟩ := all v List.mem_cons_self
    have later : ∀ y ∈ left, ∃ k1 c, y = Value.ref c ∧ TupK s1.heap k1 c := fun u hu => all u (List.mem_cons_of_mem _ hu)
    have qc := quiet_key (prog := P) (w := w) k1 _ 8 s1 hc.key hc.low
    have nc := noClass_key (P := P) (w := w) k1 _ 8 s1 hc.key hc.low
    dsimp only
    cases hv : (b == c || (carriedByValue (.ref b) && carriedByValue (.ref c))) with
    | true =>
      refine wp_if_pos rfl ?_
      exact wpAny_pure ⟨rfl, rfl, later⟩
    | false =>
      refine wp_if_neg (fun z => nomatch z) ?_
      refine wpAny_bind (qk _ _ _ ?_)
      simp only [Bool.not_true, Bool.false_eq_true, if_false]
      refine wpAny_bind (qc _ _ _ ?_)
      simp only [Bool.not_true, Bool.false_eq_true, if_false]
      refine wpAny_bind (nk _ _ _ ?_)
      simp only [Bool.false_eq_true, if_false]
      refine wpAny_bind (nc _ _ _ ?_)
      simp only [Bool.false_eq_true, if_false]
      exact wpAny_pure ⟨rfl, rfl, later⟩
  · rintro ⟨r1, r2⟩ s1 ⟨e1, rfl, _⟩
    simp only at e1
    subst e1
    exact wpAny_pure q
abbrev kh (w : World) (p : KV) : Int := p.2.hash w
/-- what a set of tuples has beside Holds -/
structure TabZ (w : World) (L : List KV) (t : SetTable) : Prop where
  tab : TabOk t (L.map (kh w))
  room : L.length * 5 < t.mask * 3
  few : L.length < 64
/-- all of L are tuples -/
def TupsAll (h : Heap) (L : List KV) : Prop := ∀ p ∈ L, ∃ b, p.1 = .ref b ∧ TupK h p.2 b
variable {a : Addr} {L : List KV} {es : Array (Int × Value)} {ep : Nat} {t : SetTable}
theorem Holds.at {i : Nat} {p : KV} (R : Holds w s.heap a L es ep t) (h : L[i]? = some p) : es[i]? = some (p.2.hash w, p.1) := by
  rw [← Array.getElem?_toList, R.rows, List.getElem?_map, h]
  rfl
theorem TabZ.gw (Z : TabZ w L t) : ¬ t.gaveWay = true := fun h => by
  unfold SetTable.gaveWay at h
  rw [mask_odd Z.tab.mok] at h
  revert h
  decide
theorem noDummy (m : Nat) : ∀ (n : Nat) (p : SetTable.Probe), p.dummy = none → (nth m p n).dummy = none
  | 0, _, h => h
  | n + 1, p, h => noDummy m n (adv m p) (by unfold adv; split <;> exact h)
/-- the search, from the c-th step of its way on -/
theorem look_from (R : Holds w s.heap a L es ep t) (Z : TabZ w L t) (T : TupsAll s.heap L) {b : Addr} {k : NestedKey} (hb : TupK s.heap k b) (hu : A.units + 8 < cLine) {m : Nat} (hmf : m < 10 * SetTable.turns t.mask)
    (hm : way t.mask (k.hash w) m ∉ t.place.toList) (hmb : ∀ c, c < m → way t.mask (k.hash w) c ∈ t.place.toList) {Q : SetFound → Shared → Prop}
    (qin : k ∈ L.map (·.2) → Q (.there none) s) (qout : k ∉ L.map (·.2) → Q (.free (way t.mask (k.hash w) m) false) s) :
    ∀ (f c : Nat) (st : Option SetTable.Probe), st.getD (t.probeStart (k.hash w)) = nth t.mask (runAt t.mask (SetTable.bits (k.hash w) % (t.mask + 1)) (SetTable.bits (k.hash w))) c → c ≤ m → m - c < f →
      (∀ (i : Nat) (p : KV), L[i]? = some p → p.2 = k → ∃ c1, c ≤ c1 ∧ c1 < m ∧ t.place.toList[i]? = some (way t.mask (k.hash w) c1)) →
      wpAny (model P w) A (setSearchFrom a (.ref b) (k.hash w) true f st) Q E s
  | 0, c, st, _, _, hf, _ => absurd hf (Nat.not_lt_zero _)
  | f + 1, c, st, hst, hc, hf, hre => by
    obtain ⟨o, ho, hex, hd⟩ := R.ob
    rw [setSearchFrom_succ]
    refine wpAny_bind (wpAny_setState_of ho hd R.fit ?_)
    dsimp only
    refine wp_if_neg Z.gw ?_
    try refine wpAny_bind (wpAny_pure ?_)
    have hnd : (nth t.mask (runAt t.mask (SetTable.bits (k.hash w) % (t.mask + 1)) (SetTable.bits (k.hash w))) c).dummy = none := noDummy _ c _ rfl
    have shift : ∀ q, nth t.mask (nth t.mask (runAt t.mask (SetTable.bits (k.hash w) % (t.mask + 1)) (SetTable.bits (k.hash w))) c) q = nth t.mask (runAt t.mask (SetTable.bits (k.hash w) % (t.mask + 1)) (SetTable.bits (k.hash w))) (c + q) := fun q => (nth_add t.mask c _ q).symm
    have j1 : ∀ q, (nth t.mask (nth t.mask (runAt t.mask (SetTable.bits (k.hash w) % (t.mask + 1)) (SetTable.bits (k.hash w))) c) q).j = way t.mask (k.hash w) (c + q) := fun q => congrArg SetTable.Probe.j (shift q)
    have spec := go_spec t R.ris Z.tab.dm (fun i => (es[i]?.map (·.1)).getD 0) (k.hash w) (10 * SetTable.turns t.mask) (m - c) _ hnd (by omega)
      (fun q hq => by rw [j1]; exact hmb (c + q) (by omega)) (by rw [j1, show c + (m - c) = m by omega]; exact hm)
    have hashAt : ∀ (i : Nat) (p : KV), L[i]? = some p → (fun i => (es[i]?.map (·.1)).getD 0) i = p.2.hash w := fun i p hp => by
      show (es[i]?.map (·.1)).getD 0 = _
      rw [R.at hp]
      rfl
    rcases spec with ⟨q, i, hq, hi, hh, hno, hpr⟩ | ⟨hno, hpr⟩
    · have met : t.probe (fun i => (es[i]?.map (·.1)).getD 0) (k.hash w) (st.getD (t.probeStart (k.hash w))) = some (.candidate (way t.mask (k.hash w) (c + q)) i (nth t.mask (runAt t.mask (SetTable.bits (k.hash w) % (t.mask + 1)) (SetTable.bits (k.hash w))) (c + (q + 1)))) := by
        rw [hst, ← j1, ← shift]
        exact hpr
      rw [met]
      dsimp only
      rw [j1] at hi
      have hil : i < L.length := by
        have h1 : i < t.place.toList.length := (List.getElem?_eq_some_iff.mp hi).1
        have h2 := Z.tab.sz
        rw [List.length_map] at h2
        rw [Array.length_toList] at h1
        omega
      have hp : L[i]? = some L[i] := List.getElem?_eq_getElem hil
      generalize L[i] = p at hp
      obtain ⟨pv, pk⟩ := p
      have hmem : (pv, pk) ∈ L := List.mem_of_getElem? hp
      obtain ⟨pb, epb, hpb⟩ := T _ hmem
      have epb : pv = .ref pb := epb
      subst epb
      have hpb : TupK s.heap pk pb := hpb
      have rest : wpAny (model P w) A (searchRest a (.ref b) (k.hash w) true f es t (way t.mask (k.hash w) (c + q)) i (nth t.mask (runAt t.mask (SetTable.bits (k.hash w) % (t.mask + 1)) (SetTable.bits (k.hash w))) (c + (q + 1)))) Q E s := by
        unfold searchRest
        rw [R.at hp]
        dsimp only
        refine wpAny_bind (wpAny_holding ((nestedKind P w).eqBool hu ⟨hpb.key, hpb.low⟩ ⟨hb.key, hb.low⟩ ?_))
        refine wpAny_bind (wpAny_setState_of ho hd R.fit ?_)
        dsimp only
        by_cases same : pk = k
        · refine wp_if_pos (by simp [same]) ?_
          exact wpAny_pure (qin (List.mem_map.mpr ⟨_, hmem, same⟩))
        · refine wp_if_neg (by simp [same]) ?_
          try refine wpAny_bind (wpAny_pure ?_)
          rw [sameMem]
          dsimp only
          have hsl : t.slot (way t.mask (k.hash w) (c + q)) = .live i := slot_live R.ris hi
          simp only [if_true, hsl, R.at hp]
          refine wpAny_bind (wpAny_isSame_ref_self (wpAny_bind (wpAny_pure ?_)))
          simp only [if_true]
          refine wp_if_neg (by simp [same]) ?_
          refine look_from R Z T hb hu hmf hm hmb qin qout f (c + (q + 1)) _ rfl (by omega) (by omega) fun i1 p1 h1 hk1 => ?_
          obtain ⟨c1, a1, a2, a3⟩ := hre i1 p1 h1 hk1
          refine ⟨c1, ?_, a2, a3⟩
          rcases Nat.lt_or_ge c1 (c + q) with z | z
          · refine (hno (c1 - c) i1 (by omega) (by rw [j1, show c + (c1 - c) = c1 by omega]; exact a3) ?_).elim
            exact (hashAt i1 p1 h1).trans (by rw [hk1])
          · rcases Nat.lt_or_ge (c + q) c1 with y | y
            · omega
            · have ec : c1 = c + q := Nat.le_antisymm y z
              rw [ec] at a3
              have s0 := slot_live R.ris a3
              rw [hsl] at s0
              injection s0 with s0
              rw [← s0, hp] at h1
              cases h1
              exact (same hk1).elim
      cases hl : t.led with
      | true =>
        refine wp_if_neg (by simp) ?_
        try refine wpAny_bind (wpAny_pure ?_)
        exact rest
      | false =>
        refine wp_if_pos (by simp) ?_
        refine wpAny_bind (unseen hb (fun y hy => ?_) ?_)
        · obtain ⟨e, he, ee⟩ := List.mem_map.mp hy
          have he1 : e ∈ es ∧ e.1 = k.hash w := by simpa using he
          have he2 : e ∈ es.toList := by simpa using he1.1
          rw [R.rows] at he2
          obtain ⟨p2, hp2, e2⟩ := List.mem_map.mp he2
          obtain ⟨b2, eb2, hb2⟩ := T p2 hp2
          refine ⟨p2.2, b2, ?_, hb2⟩
          rw [← ee, ← e2]
          exact eb2
        · refine wp_if_neg (by decide) ?_
          try refine wpAny_bind (wpAny_pure ?_)
          exact rest
    · have met : t.probe (fun i => (es[i]?.map (·.1)).getD 0) (k.hash w) (st.getD (t.probeStart (k.hash w))) = some (.empty (way t.mask (k.hash w) m) none) := by
        have e2 : way t.mask (k.hash w) m = (nth t.mask (nth t.mask (runAt t.mask (SetTable.bits (k.hash w) % (t.mask + 1)) (SetTable.bits (k.hash w))) c) (m - c)).j := by
          rw [j1, show c + (m - c) = m by omega]
        rw [hst, e2]
        exact hpr
      rw [met]
      dsimp only
      refine wpAny_pure (qout fun z => ?_)
      obtain ⟨p0, h0, hk0⟩ := List.mem_map.mp z
      obtain ⟨i0, h00⟩ := List.getElem?_of_mem h0
      obtain ⟨c1, a1, a2, a3⟩ := hre i0 p0 h00 hk0
      refine hno (c1 - c) i0 (by omega) (by rw [j1, show c + (c1 - c) = c1 by omega]; exact a3) ?_
      exact (hashAt i0 p0 h00).trans (by rw [hk0])
theorem look_at (R : Holds w s.heap a L es ep t) (Z : TabZ w L t) (T : TupsAll s.heap L) {b : Addr} {k : NestedKey} (hb : TupK s.heap k b) (hu : A.units + 8 < cLine) {Q : SetFound → Shared → Prop}
    (qin : k ∈ L.map (·.2) → Q (.there none) s)
    (qout : ∀ m, k ∉ L.map (·.2) → way t.mask (k.hash w) m ∉ t.place.toList → (∀ c, c < m → way t.mask (k.hash w) c ∈ t.place.toList) → Q (.free (way t.mask (k.hash w) m) false) s) :
    wpAny (model P w) A (setSearch a (.ref b) (k.hash w) true) Q E s := by
  have hroom := Z.room
  obtain ⟨m, hmf, hm, hmb⟩ := Z.tab.first (by rw [List.length_map]; omega) (k.hash w)
  have hbig : m < 100000 := by
    have h1 : 10 * SetTable.turns t.mask ≤ 1420 := by
      unfold SetTable.turns
      rcases Z.tab.mok with e | e | e <;> omega
    omega
  unfold setSearch
  refine look_from R Z T hb hu hmf hm hmb qin (fun hn => qout m hn hm hmb) 100000 0 none rfl (Nat.zero_le _) (by omega) fun i p hp hk => ?_
  have hi : (L.map (kh w))[i]? = some (k.hash w) := by
    rw [List.getElem?_map, hp, ← hk]
    rfl
  have hil : i < t.place.toList.length := by
    have h1 : i < L.length := (List.getElem?_eq_some_iff.mp hp).1
    have h2 := Z.tab.sz
    rw [List.length_map] at h2
    rw [Array.length_toList, h2]
    exact h1
  have hj := List.getElem?_eq_getElem hil
  obtain ⟨c, hc, e⟩ := Z.tab.before hm hi hj
  exact ⟨c, Nat.zero_le _, hc, by rw [hj, e]⟩
end
end Dl
end
section
set_option linter.all false
set_option maxRecDepth 100000
set_option maxHeartbeats 4000000
/-! DlSet3: adding a tuple to a set; a set made of what is walked. -/
namespace Dl
open PySem PySem.Spec PyProof.Rows L2
section
variable {P : Program} {w : World} {A : Around} {E : Value → Shared → Prop} {s : Shared} {a : Addr} {L : List KV} {es : Array (Int × Value)} {ep : Nat} {t : SetTable}
theorem order_kv (L : List KV) (es : Array (Int × Value)) (order : Array Nat) (hr : es.toList = L.map (rowN w)) (hp : order.toList.Perm (List.range L.length)) :
    ∃ L2 : List KV, (order.filterMap (es[·]?)).toList = L2.map (rowN w) ∧ L2.Perm L ∧ L2.map (kh w) = order.toList.map fun i => (es.map (·.1)).getD i 0 := by
  have hsz : es.size = L.length := by rw [← Array.length_toList, hr, List.length_map]
  have ent : ∀ i (h : i < L.length), es[i]? = some (rowN w L[i]) := fun i h => by
    rw [← Array.getElem?_toList, hr, List.getElem?_map, List.getElem?_eq_getElem h]
    rfl
  have key : ∀ l : List Nat, (∀ i ∈ l, i < L.length) → ∃ L2 : List KV, l.filterMap (fun i => es[i]?) = L2.map (rowN w) ∧ L2 = l.filterMap (fun i => L[i]?) ∧ L2.map (kh w) = l.map fun i => (es.map (·.1)).getD i 0 := fun l => by
    induction l with
    | nil => exact fun _ => ⟨[], rfl, rfl, rfl⟩
    | cons i l ih =>
      intro hl
      have hi := hl i List.mem_cons_self
      obtain ⟨L2, e1, e2, e3⟩ := ih fun j hj => hl j (List.mem_cons_of_mem _ hj)
      refine ⟨L[i] :: L2, ?_, ?_, ?_⟩
      · rw [List.filterMap_cons_some (ent i hi), e1, List.map_cons]
      · rw [List.filterMap_cons_some (List.getElem?_eq_getElem hi), e2]
      · have e5 : (es.map (·.1))[i]? = some (kh w L[i]) := by
          rw [Array.getElem?_map, ent i hi]
          rfl
        have e4 : (es.map (·.1)).getD i 0 = kh w L[i] := by simp [Array.getD_eq_getD_getElem?, e5]
        rw [List.map_cons, List.map_cons, e3, e4]
  obtain ⟨L2, e1, e2, e3⟩ := key order.toList fun i hi => List.mem_range.mp (hp.mem_iff.mp hi)
  refine ⟨L2, by first | (rw [Array.toList_filterMap]; exact e1) | simpa using e1, ?_, e3⟩
  have h1 : L2.Perm ((List.range L.length).filterMap fun i => L[i]?) := by rw [e2]; exact hp.filterMap _
  have key2 : ∀ n, n ≤ L.length → (List.range n).filterMap (fun i => L[i]?) = L.take n := fun n => by
    induction n with
    | zero => exact fun _ => rfl
    | succ n ih =>
      intro hn
      have hlt : n < L.length := hn
      rw [List.range_succ, List.filterMap_append, ih (Nat.le_of_lt hlt), List.take_succ, List.getElem?_eq_getElem hlt, List.filterMap_cons_some (List.getElem?_eq_getElem hlt)]
      rfl
  have h2 := key2 L.length (Nat.le_refl _)
  rw [List.take_length] at h2
  rw [h2] at h1
  exact h1
/-- the table, laid anew and larger -/
theorem relay_kv {o : Obj} (ho : s.heap.get? a = some o) (hex : o.ExactSet) (hd : o.data = .set es ep t) (hrows : es.toList = L.map (rowN w)) (hsz : t.place.size = es.size) (hdm : t.dummies = #[]) (hfl : es.size ≤ t.mask)
    (nd : (L.map (·.2)).Nodup) (ld : w.params.followText "set-order" = true ∨ t.led = true) (few : L.length < 64) {want M : Nat} (hw : SetTable.sizeAbove want - 1 = M) (hM : MaskOk M) (hw2 : SetTable.sizeAbove want ≤ 128) (hn : L.length * 5 < M * 3) {Q : Unit → Shared → Prop}
    (q : ∀ h' L' es' ep' t', Heap.SameBut a s.heap h' → Holds w h' a L' es' ep' t' → TabZ w L' t' → L'.Perm L → Q () { s with heap := h' }) : wpAny (model P w) A (setRelay a want) Q E s := by
  have hsl : es.size = L.length := by rw [← Array.length_toList, hrows, List.length_map]
  have hfits : t.fits es.size = true := by
    unfold SetTable.fits SetTable.fill
    rw [hdm, Bool.and_eq_true, beq_iff_eq, decide_eq_true_eq]
    exact ⟨hsz, by show t.place.size + 0 ≤ t.mask; omega⟩
  obtain ⟨t', order, e, hp, T, em, el, epl, ed⟩ := relaid_ok t (hs := es.map (·.1)) (wanted := want) hw hM (by rw [Array.size_map, hsl]; omega)
  rw [Array.size_map, hsl] at hp
  obtain ⟨L2, r1, r2, r3⟩ := order_kv (w := w) L es order hrows hp
  rw [← r3] at T
  have hs2 : (order.filterMap (es[·]?)).size = es.size := by rw [← Array.length_toList, r1, List.length_map, r2.length_eq, hsl]
  rw [setRelay_eq]
  refine wpAny_bind (wpAny_setState_of ho hd hfits ?_)
  dsimp only
  refine wp_if_neg (by rw [sizeLine_eq]; omega) ?_
  try refine wpAny_bind (wpAny_pure ?_)
  rw [e]
  dsimp only
  refine wpAny_bind ?_
  refine wp_if_neg (by rw [hs2]; simp) ?_
  try refine wpAny_bind (wpAny_pure ?_)
  refine wpAny_pure ?_
  dsimp only
  refine wpAny_storeSet_of ho hd ?_ (by rw [hs2, hsl, sizeLine_eq]; omega)
  have sb : Heap.SameBut a s.heap (s.heap.update a (Obj.putSet (order.filterMap (es[·]?)) t')) := Heap.SameBut.update ..
  have fit' : t'.fits (order.filterMap (es[·]?)).size = true := by
    have z1 := T.sz
    rw [List.length_map, r2.length_eq] at z1
    unfold SetTable.fits SetTable.fill
    rw [ed, hs2, hsl, Bool.and_eq_true, beq_iff_eq, decide_eq_true_eq]
    exact ⟨z1, by show t'.place.size + 0 ≤ t'.mask; omega⟩
  exact q _ L2 _ (ep + 1) t' sb ⟨⟨_, store_at ho hd, ⟨hex.1, hex.2.1, hex.2.2⟩, rfl⟩, r1, (r2.map (·.2)).nodup_iff.mpr nd, T.ris, fit', by rw [el]; exact ld⟩ ⟨T, by rw [r2.length_eq, em]; exact hn, by rw [r2.length_eq]; exact few⟩ r2
theorem TabOk.plainOff {t : SetTable} {hs : List Int} (T : TabOk t hs) : TabOk { t with plain := false } hs := ⟨T.ris, T.dm, T.sz, T.mok, T.bd, T.reach⟩
/-- behind the search: the new element's place is known -/
theorem laid_kv {o : Obj} (ho : s.heap.get? a = some o) (hex : o.ExactSet) (hd : o.data = .set es ep t) {L1 : List KV} {es1 : Array (Int × Value)} {t1 : SetTable} (r1 : es1.toList = L1.map (rowN w)) (n1 : (L1.map (·.2)).Nodup) (T1 : TabOk t1 (L1.map (kh w)))
    (ld : w.params.followText "set-order" = true ∨ t1.led = true) (few : L1.length < 64) {n : Nat} (hn : L1.length = n + 1) (hm : t1.mask = t.mask) (hroom : n * 5 < t.mask * 3) (mok : MaskOk t.mask) (hfill : t1.fill = n + 1) {Q : Bool → Shared → Prop}
    (q : ∀ h' L' es' ep' t', Heap.SameBut a s.heap h' → Holds w h' a L' es' ep' t' → TabZ w L' t' → L'.Perm L1 → Q true { s with heap := h' }) :
    wpAny (model P w) A (do
      storeSet a es1 t1
      if (!false && t1.tooFull) = true then do
          setRelay a (SetTable.grown (n + 1))
          pure true
        else pure true) Q E s := by
  have hes : es1.size = n + 1 := by rw [← Array.length_toList, r1, List.length_map, hn]
  refine wpAny_bind (wpAny_storeSet_of ho hd ?_ (by rw [hes, sizeLine_eq]; omega))
  have sb : Heap.SameBut a s.heap (s.heap.update a (Obj.putSet es1 t1)) := Heap.SameBut.update ..
  have ho1 := store_at (es' := es1) (t' := t1) ho hd
  generalize s.heap.update a (Obj.putSet es1 t1) = h1 at sb ho1 ⊢
  have hsz1 : t1.place.size = es1.size := by
    have h := T1.sz
    rw [List.length_map, hn] at h
    rw [h, hes]
  cases hf : t1.tooFull with
  | true =>
    refine wp_if_pos (by simp) ?_
    have hfull : (n + 1) * 5 ≥ t1.mask * 3 := by
      have h := hf
      unfold SetTable.tooFull at h
      rw [decide_eq_true_eq, hfill] at h
      exact h
    have cases2 : (t.mask = 7 ∧ n = 4) ∨ (t.mask = 31 ∧ n = 18) := by
      rw [hm] at hfull
      rcases mok with e | e | e
      · exact .inl ⟨e, by omega⟩
      · exact .inr ⟨e, by omega⟩
      · omega
    have go : ∀ M, SetTable.sizeAbove (SetTable.grown (n + 1)) - 1 = M → MaskOk M → SetTable.sizeAbove (SetTable.grown (n + 1)) ≤ 128 → (n + 1) * 5 < M * 3 →
        wpAny (model P w) A (do setRelay a (SetTable.grown (n + 1)); pure true) Q E { s with heap := h1 } := fun M g1 g2 g3 g4 => by
      refine wpAny_bind (relay_kv (s := { s with heap := h1 }) ho1 ⟨hex.1, hex.2.1, hex.2.2⟩ rfl r1 hsz1 T1.dm (by rw [hes, hm]; rcases cases2 with ⟨e, e2⟩ | ⟨e, e2⟩ <;> omega) n1 ld few g1 g2 g3 (by rw [hn]; exact g4) ?_)
      intro h2 L2 es2 ep2 t2 sb2 R2 Z2 pm2
      exact wpAny_pure (q h2 L2 es2 ep2 t2 (sb.trans sb2) R2 Z2 pm2)
    rcases cases2 with ⟨_, e2⟩ | ⟨_, e2⟩
    · exact go 31 (by rw [e2, size_20]) (.inr (.inl rfl)) (by rw [e2, size_20]; decide) (by omega)
    · exact go 127 (by rw [e2, size_76]) (.inr (.inr rfl)) (by rw [e2, size_76]; decide) (by omega)
  | false =>
    refine wp_if_neg (by simp) ?_
    have h := hf
    unfold SetTable.tooFull at h
    rw [decide_eq_false_iff_not, hfill] at h
    have fit1 : t1.fits es1.size = true := by
      unfold SetTable.fits SetTable.fill
      rw [T1.dm, Bool.and_eq_true, beq_iff_eq, decide_eq_true_eq]
      refine ⟨hsz1, ?_⟩
      show t1.place.size + 0 ≤ t1.mask
      rw [hsz1, hes]
      rcases mok with e | e | e <;> omega
    exact wpAny_pure (q h1 L1 es1 (ep + 1) t1 sb ⟨⟨_, ho1, ⟨hex.1, hex.2.1, hex.2.2⟩, rfl⟩, r1, n1, T1.ris, fit1, ld⟩ ⟨T1, by rw [hn]; omega, few⟩ (List.Perm.refl _))
/-- a tuple is added -/
theorem tup_add (R : Holds w s.heap a L es ep t) (Z : TabZ w L t) (T : TupsAll s.heap L) {b : Addr} {k : NestedKey} (hb : TupK s.heap k b) (hu : A.units + 8 < cLine) (few : k ∉ L.map (·.2) → L.length + 1 < 64) {Q : Bool → Shared → Prop}
    (q : Added w s a L (.ref b) k (fun L' t' => TabZ w L' t') Q) : wpAny (model P w) A (setAddHashed a (.ref b) (k.hash w)) Q E s := by
  obtain ⟨o, ho, hex, hd⟩ := R.ob
  have hsl := R.size
  unfold setAddHashed
  refine wpAny_holding ?_
  rw [show (100000 : Nat) = 99999 + 1 from rfl, setAddHashedIn_succ]
  refine wpAny_bind (wpAny_setState_of ho hd R.fit ?_)
  dsimp only
  refine wp_if_neg (by simp [byScan, Value.scannable]) ?_
  try refine wpAny_bind (wpAny_pure ?_)
  refine wpAny_bind (look_at R Z T hb hu (fun hm => ?_) fun m hm hK hlow => ?_)
  · dsimp only
    exact wpAny_pure (q false s.heap L es ep t (Heap.SameBut.refl a s.heap) R Z (fun _ => rfl) fun z => absurd hm z)
  · dsimp only
    refine wpAny_bind (wpAny_setState_of ho hd R.fit ?_)
    dsimp only
    obtain ⟨q1, q2, q3, q4, q5, q6, q7, q8, q9⟩ := Z.tab.put hK hlow
    generalize t.put (way t.mask (k.hash w) m) = pt at q1 q3 q4 q5 q6 q7 q8 q9 ⊢
    obtain ⟨t1, p⟩ := pt
    dsimp only at q1 q3 q4 q5 q6 q7 q8 q9 ⊢
    subst q1
    have hin : (SetTable.insertAt es (SetTable.below t.place (way t.mask (k.hash w) m)) (k.hash w, Value.ref b)).toList = (L.take (SetTable.below t.place (way t.mask (k.hash w) m)) ++ (Value.ref b, k) :: L.drop (SetTable.below t.place (way t.mask (k.hash w) m))).map (rowN w) := by
      rw [SetTable.toList_insertAt, R.rows, List.map_append, List.map_cons, List.map_take, List.map_drop]
    generalize SetTable.below t.place (way t.mask (k.hash w) m) = p at q2 q3 hin ⊢
    have pm := put_perm L p (Value.ref b, k)
    have hlen : (L.take p ++ (Value.ref b, k) :: L.drop p).length = L.length + 1 := pm.length_eq
    have hhs : (L.take p ++ (Value.ref b, k) :: L.drop p).map (kh w) = (L.map (kh w)).take p ++ k.hash w :: (L.map (kh w)).drop p := by
      rw [List.map_append, List.map_cons, List.map_take, List.map_drop]
    rw [← hhs] at q3
    have nd1 : ((L.take p ++ (Value.ref b, k) :: L.drop p).map (·.2)).Nodup := by
      refine (pm.map (·.2)).nodup_iff.mpr ?_
      rw [List.map_cons]
      exact List.nodup_cons.mpr ⟨hm, R.nd⟩
    generalize SetTable.insertAt es p (k.hash w, Value.ref b) = es1 at hin ⊢
    generalize L.take p ++ (Value.ref b, k) :: L.drop p = L1 at pm hlen q3 nd1 hin
    have ld1 : w.params.followText "set-order" = true ∨ t1.led = true := by rw [q5]; exact R.led
    have hf9 : t1.fill = L.length + 1 := by rw [q9, List.length_map]
    have fin : ∀ h' L' es' ep' t', Heap.SameBut a s.heap h' → Holds w h' a L' es' ep' t' → TabZ w L' t' → L'.Perm L1 → Q true { s with heap := h' } := fun h' L' es' ep' t' sb R' Z' pp =>
      q true h' L' es' ep' t' sb R' Z' (fun z => absurd z hm) fun _ => pp.trans pm
    rw [hsl]
    cases hpl : t1.plain with
    | true =>
      simp only [if_true]
      refine wpAny_bind (hashTold_key k _ 8 s hb.key _ _ _ fun bv => ?_)
      cases bv with
      | true => simp only [if_true]; exact laid_kv ho hex hd hin nd1 q3 ld1 (by rw [hlen]; exact few hm) hlen q4 Z.room Z.tab.mok hf9 fin
      | false => simp only [Bool.false_eq_true, if_false]; exact laid_kv (t1 := { t1 with plain := false }) ho hex hd hin nd1 (TabOk.plainOff q3) ld1 (by rw [hlen]; exact few hm) hlen q4 Z.room Z.tab.mok hf9 fin
    | false =>
      simp only [Bool.false_eq_true, if_false]
      refine wpAny_bind (wpAny_pure ?_)
      simp only [if_true]
      exact laid_kv ho hex hd hin nd1 q3 ld1 (by rw [hlen]; exact few hm) hlen q4 Z.room Z.tab.mok hf9 fin
end
end Dl
end
section
set_option linter.all false
set_option maxRecDepth 100000
set_option maxHeartbeats 4000000
/-! DlSet4: a set made of what a list, a tuple holds. -/
namespace Dl
open PySem PySem.Spec PyProof.Rows L2
/-- what the set has of the first i of ks -/
structure GotK (ks : List KV) (i : Nat) (L : List KV) : Prop where
  sub : ∀ p ∈ L, p ∈ ks
  all : ∀ p ∈ ks.take i, p.2 ∈ L.map (·.2)
theorem GotK.zero (ks : List KV) : GotK ks 0 [] := ⟨fun p h => (by cases h), fun p h => (by simp at h)⟩
theorem GotK.same {ks L : List KV} {i : Nat} {x : KV} (g : GotK ks i L) (h : ks[i]? = some x) (hm : x.2 ∈ L.map (·.2)) : GotK ks (i + 1) L := by
  refine ⟨g.sub, fun p hp => ?_⟩
  rw [take_next h] at hp
  rcases List.mem_append.mp hp with z | z
  · exact g.all p z
  · rw [List.mem_singleton.mp z]; exact hm
theorem GotK.more {ks L L' : List KV} {i : Nat} {x : KV} (g : GotK ks i L) (h : ks[i]? = some x) (pm : L'.Perm (x :: L)) : GotK ks (i + 1) L' := by
  refine ⟨fun p hp => ?_, fun p hp => ?_⟩
  · rcases List.mem_cons.mp (pm.mem_iff.mp hp) with z | z
    · rw [z]; exact List.mem_of_getElem? h
    · exact g.sub p z
  · rw [(pm.map (·.2)).mem_iff, List.map_cons]
    rw [take_next h] at hp
    rcases List.mem_append.mp hp with z | z
    · exact List.mem_cons_of_mem _ (g.all p z)
    · rw [List.mem_singleton.mp z]; exact List.mem_cons_self
/-- not too many different ones -/
def FewK (b : Nat) (ks : List KV) : Prop := ∀ L : List KV, (L.map (·.2)).Nodup → (∀ p ∈ L, p ∈ ks) → L.length < b
/-- how one of ks is added -/
def AddK (P : Program) (w : World) (S : Addr) (ks : List KV) (Z : List KV → SetTable → Prop) : Prop :=
  ∀ (A : Around) (E : Value → Shared → Prop) (s : Shared) (L : List KV) (es : Array (Int × Value)) (ep : Nat) (t : SetTable) (p : KV) (Q : Bool → Shared → Prop), (∀ r ∈ ks, NestedIs s.heap r.2 r.1) → A.units + 8 < cLine → Holds w s.heap S L es ep t → Z L t → p ∈ ks → (∀ r ∈ L, r ∈ ks) →
    Added w s S L p.1 p.2 Z Q → wpAny (model P w) A (setAddHashed S p.1 (p.2.hash w)) Q E s
section
variable {P : Program} {w : World} {A : Around} {E : Value → Shared → Prop} {s : Shared}
theorem addK_scan {κ : Type} [DecidableEq κ] (M : ScanK P w κ) {S : Addr} {ks : List KV} (hk : AllK M ks) (few : FewK scanBound ks) : AddK P w S ks (fun L _ => ∀ p ∈ L, p ∈ ks) := fun A E s L es ep t p Q _ _ R _ hp sub q => by
  obtain ⟨x, e1, e2⟩ := hk p hp
  obtain ⟨v, k⟩ := p
  have e1 : k = M.emb x := e1
  subst e1
  have e3 : (M.emb x).hash w = M.kd.hash x := M.hash x
  show wpAny _ _ (setAddHashed S v ((M.emb x).hash w)) _ _ _
  rw [e3]
  refine scan_add M R (fun r hr => hk r (sub r hr)) (few L R.nd sub) (fun hm => ?_) e2 fun b h' L' es' ep' t' sb R' _ c1 c2 => ?_
  · refine few ((v, M.emb x) :: L) ?_ fun r hr => ?_
    · rw [List.map_cons]; exact List.nodup_cons.mpr ⟨hm, R.nd⟩
    · rcases List.mem_cons.mp hr with z | z
      · rw [z]; exact hp
      · exact sub r z
  · refine q b h' L' es' ep' t' sb R' (fun r hr => ?_) c1 c2
    by_cases hm : M.emb x ∈ L.map (·.2)
    · rw [c1 hm] at hr; exact sub r hr
    · rcases List.mem_cons.mp ((c2 hm).mem_iff.mp hr) with z | z
      · rw [z]; exact hp
      · exact sub r z
theorem addK_tup {S : Addr} {ks : List KV} (hk : ∀ p ∈ ks, (∃ b, p.1 = .ref b) ∧ p.2.depth ≤ 8) (few : FewK 64 ks) : AddK P w S ks (TabZ w) := fun A E s L es ep t p Q hn hu R Z hp sub q => by
  obtain ⟨⟨b, e1⟩, e2⟩ := hk p hp
  obtain ⟨v, k⟩ := p
  have e1 : v = .ref b := e1
  subst e1
  refine tup_add R Z (fun r hr => ?_) ⟨hn _ hp, e2⟩ hu (fun hm => ?_) q
  · obtain ⟨⟨c, c1⟩, c2⟩ := hk r (sub r hr)
    exact ⟨c, c1, by rw [← c1]; exact hn r (sub r hr), c2⟩
  · refine few ((.ref b, k) :: L) ?_ fun r hr => ?_
    · rw [List.map_cons]; exact List.nodup_cons.mpr ⟨hm, R.nd⟩
    · rcases List.mem_cons.mp hr with z | z
      · rw [z]; exact hp
      · exact sub r z
theorem keysAt {h h' : Heap} {ks : List KV} (k : ∀ b o, h.get? b = some o → h'.get? b = some o) (x : ∀ r ∈ ks, NestedIs h r.2 r.1) : ∀ r ∈ ks, NestedIs h' r.2 r.1 := fun r hr => NestedIs.at (fun a o _ _ e _ => k a o e) _ _ (x r hr)
/-- the loop of set.update -/
theorem upd_loop {Z : List KV → SetTable → Prop} {I : Addr} {fp wr : List Addr} {G : Array GenState → Array GenState → Prop} {n : Nat} {Pv : Nat → Value → Prop} {St : Nat → Shared → Prop} {R : Result → Shared → Prop}
    (W : WalksS P w A.in1 I fp wr G n Pv St) (S : Addr) (hSf : S ∉ fp) (ks : List KV) (add : AddK P w S ks Z) (hn : n = ks.length) (hval : ∀ i v, Pv i v → ∃ p, ks[i]? = some p ∧ v = p.1)
    (h0 : Heap) (hk : ∀ p ∈ ks, NestedIs h0 p.2 p.1) (hkd : ∀ p ∈ ks, p.2.depth ≤ 8) (hS0 : h0.get? S = none) (hw0 : ∀ b ∈ wr, h0.get? b = none) (hu : A.in1.units + 8 < cLine) :
    ∀ (m i : Nat) (s : Shared), n - i = m → i ≤ n → St i s → (∀ b o, h0.get? b = some o → s.heap.get? b = some o) → (∃ L es ep t, Holds w s.heap S L es ep t ∧ Z L t ∧ GotK ks i L) →
      (∀ s' L es ep t, Moved (S :: wr) G s s' → Holds w s'.heap S L es ep t → Z L t → GotK ks n L → (∀ b o, h0.get? b = some o → s'.heap.get? b = some o) → R (.ok (.ret .none)) s') →
      codeAny (model P w) A (.builtin "set.update.loop" ⟨[.ref S, .ref I], []⟩) R s := by
  have nS : S ∉ wr := fun h => hSf (W.sub _ h)
  have inc : ∀ b ∈ wr, b ∈ S :: wr := fun b hb => List.mem_cons_of_mem _ hb
  have keepM : ∀ {s s' : Shared}, Moved wr G s s' → (∀ b o, h0.get? b = some o → s.heap.get? b = some o) → ∀ b o, h0.get? b = some o → s'.heap.get? b = some o := fun hm hkp b o e =>
    hm.heap b o (fun hb => by rw [hw0 b hb] at e; cases e) (hkp b o e)
  intro m
  induction m with
  | zero =>
    intro i s hm0 hi hst hkp ⟨L, es, ep, t, hS, hZ, g⟩ hR
    have hin : i = n := by omega
    subst hin
    refine codeAny_builtin F.entry_set_update_loop ?_
    rw [Around.under_plainId F.plain_set_update_loop _]
    show wpAny _ A.in1 (pyNext (.ref I) >>= _) _ _ s
    refine wpAny_bind (W.done s _ _ hst fun s' hm => ?_)
    show wpAny _ A.in1 (ret Value.none) _ _ s'
    exact wpAny_pure (hR s' L es ep t (hm.mono inc) (hS.keep fun o e => hm.heap S o nS e) hZ g (keepM hm hkp))
  | succ m ih =>
    intro i s hm0 hi hst hkp ⟨L, es, ep, t, hS, hZ, g⟩ hR
    have hlt : i < n := by omega
    refine codeAny_builtin F.entry_set_update_loop ?_
    rw [Around.under_plainId F.plain_set_update_loop _]
    show wpAny _ A.in1 (pyNext (.ref I) >>= _) _ _ s
    refine wpAny_bind (W.item i s _ _ hlt hst fun v s' hP hst' hm => ?_)
    obtain ⟨p, hp, rfl⟩ := hval i v hP
    have hpm := List.mem_of_getElem? hp
    have hkp' := keepM hm hkp
    have hS' : Holds w s'.heap S L es ep t := hS.keep fun o e => hm.heap S o nS e
    have hks := keysAt hkp' hk
    show wpAny _ A.in1 (holding [p.1] (setAdd S p.1) >>= _) _ _ s'
    refine wpAny_bind (wpAny_holding ?_)
    unfold setAdd
    refine wpAny_holding ?_
    refine wpAny_bind (pyHash_key p.2 p.1 _ _ _ (hks p hpm) (by have := hkd p hpm; omega) ?_)
    refine add A.in1 _ { s' with toks := s'.toks + p.2.draws } L es ep t p _ hks hu hS' hZ hpm g.sub fun b h' L' es' ep' t' hsb hS2 hZ2 c1 c2 => ?_
    have g' : GotK ks (i + 1) L' := by
      by_cases c : p.2 ∈ L.map (·.2)
      · rw [c1 c]; exact g.same hp c
      · exact g.more hp (c2 c)
    have hkp2 : ∀ b o, h0.get? b = some o → h'.get? b = some o := fun b o e => (hsb.2 b (fun z => by rw [z, hS0] at e; cases e)).trans (hkp' b o e)
    refine wpAny_pure ⟨plainId_quiet F.plain_set_update_loop _, ih (i + 1) _ (by omega) hlt (W.frame _ s' _ _ hst' (Nat.le_add_right _ _) fun b hb o e => ?_) hkp2 ⟨L', es', ep', t', hS2, hZ2, g'⟩ fun s'' L2 es2 ep2 t2 hm'' hS'' hZ'' g'' hkp'' => ?_⟩
    · rw [hsb.2 b (fun h : b = S => hSf (by rw [← h]; exact hb))]; exact e
    · refine hR s'' L2 es2 ep2 t2 (Moved.trans W.gtrans ((hm.mono inc).then_heap (Nat.le_add_right _ _) fun b o hb e => ?_) hm'') hS'' hZ'' g'' hkp''
      rw [hsb.2 b (fun h : b = S => hb (by rw [h]; exact List.mem_cons_self))]; exact e
abbrev newSet (w : World) : Obj := { cls := .type "set", dict := none, data := .set #[] 0 (.fresh 0 0 (!w.params.followText "set-order")) }
theorem holds_new {h : Heap} {a : Addr} (ho : h.get? a = some (newSet w)) : Holds w h a [] #[] 0 (.fresh 0 0 (!w.params.followText "set-order")) where
  ob := ⟨_, ho, ⟨rfl, rfl, rfl⟩, rfl⟩
  rows := rfl
  nd := List.nodup_nil
  ris := List.Pairwise.nil
  fit := rfl
  led := by
    show _ ∨ (!w.params.followText "set-order") = true
    cases w.params.followText "set-order" with
    | false => exact .inr rfl
    | true => exact .inl rfl
theorem tabZ_new {l : Bool} : TabZ w [] (.fresh 0 0 l) := ⟨⟨List.Pairwise.nil, rfl, rfl, .inl rfl, fun x hx => (by cases hx), fun i h j hi => (by simp at hi)⟩, by show 0 * 5 < 7 * 3; decide, by show 0 < 64; decide⟩
end
end Dl
end
section
set_option linter.all false
set_option maxRecDepth 100000
set_option maxHeartbeats 4000000
/-! DlSet5: set(x), x a list or a tuple. -/
namespace Dl
open PySem PySem.Spec PyProof.Rows L2
section
variable {P : Program} {w : World} {A : Around} {E : Value → Shared → Prop} {s : Shared}
set_option maxRecDepth 100000 in
set_option maxHeartbeats 6400000 in
theorem call_set_k {Z : List KV → SetTable → Prop} (hz0 : Z [] (.fresh 0 0 (!w.params.followText "set-order"))) {l : Addr} {items : Array Value} (ks : List KV) {Q : Value → Shared → Prop} (hh : A.handled = none) (hl : s.heap.IsList l items ∨ s.heap.IsTuple l items) (hit : items.toList = ks.map (·.1))
    (hk : ∀ p ∈ ks, NestedIs s.heap p.2 p.1) (hkd : ∀ p ∈ ks, p.2.depth ≤ 8) (add : AddK P w s.heap.objs.size ks Z) (hu : A.in1.in1.in1.units + 8 < cLine)
    (q : ∀ (h' : Heap) (tk : Nat) L es ep t, Holds w h' s.heap.objs.size L es ep t → GotK ks ks.length L → (∀ b o, s.heap.get? b = some o → h'.get? b = some o) → Q (.ref s.heap.objs.size) { s with heap := h', toks := tk }) :
    wpAny (model P w) A (call (.type "set") [.ref l]) Q E s := by
  have hisz : items.size = ks.length := by rw [← Array.length_toList, hit, List.length_map]
  obtain ⟨c, tl, hmro⟩ := F.called_set.mro
  have hmade := F.called_set.made
  have hsub := F.called_set.sub
  refine wpAny_call (codeAny_of_tree ?_)
  show wpAny _ _ (callAny (.type "set") _) _ _ _
  refine wpAny_pure ⟨Code.quiet_builtin _ (by decide +kernel), codeAny_builtin F.entry_type_call ?_⟩
  rw [Around.under_plain (weight_type_call_type "set" [.ref l] []) rfl]
  have h1 := F.called_set.notType
  have h2 := F.called_set.canCreate
  have hct := F.typeCall_set_1 (.ref l)
  repeat (any_goals (first | assumption | wp_step))
  refine codeAny_mono (code_set_led1 (.ref l) (E := E) (Q₁ := fun obj s₁ => obj = .ref s.heap.objs.size ∧ s₁ = { s with heap := s.heap.push (newSet w) }) ⟨rfl, rfl⟩) fun r s₁ hr => ?_
  cases r with
  | error e => exact hr
  | ok fl =>
    cases fl with
    | ret obj =>
      obtain ⟨rfl, rfl⟩ := hr
      have hS : (s.heap.push (newSet w)).get? s.heap.objs.size = some (newSet w) := Heap.get?_push_size _ rfl
      have hT : Shared.TypeIs { s with heap := s.heap.push (newSet w) } (.ref s.heap.objs.size) "set" := ⟨_, hS, rfl⟩
      have hli := F.called_set.init.lookup
      have hbi := F.called_set.init.bind (.ref s.heap.objs.size)
      repeat (any_goals (first | assumption | wp_step))
      refine codeAny_mono (codeAny_call_builtin (R := wants (fun r s₂ => r = .none ∧ ∃ h' tk L es ep t, s₂ = { s with heap := h', toks := tk } ∧ Holds w h' s.heap.objs.size L es ep t ∧ GotK ks ks.length L ∧
          (∀ b o, s.heap.get? b = some o → h'.get? b = some o)) E) F.called_set.init.plain F.entry_set_init (check_set_init_1 hT ?_)) fun r₂ s₂ hr₂ => ?_
      · have hsz : (s.heap.push (newSet w)).objs.size = s.heap.objs.size + 1 := Heap.size_push ..
        have hval : ∀ (i : Nat) (v : Value), items[i]? = some v → ∃ p, ks[i]? = some p ∧ v = p.1 := fun i v hv => by
          have z : items.toList[i]? = some v := by rw [Array.getElem?_toList]; exact hv
          rw [hit, List.getElem?_map] at z
          obtain ⟨p, e1, e2⟩ := Option.map_eq_some_iff.mp z
          exact ⟨p, e1, e2.symm⟩
        have none_of : ∀ b, s.heap.objs.size ≤ b → s.heap.get? b = none := fun b hb => by
          cases z : s.heap.get? b with
          | none => rfl
          | some o => exact absurd (Nat.lt_of_lt_of_le (Heap.lt_size z) hb) (Nat.lt_irrefl _)
        have hh3 : A.in1.in1.in1.handled = none := by simp [hh]
        rcases hl with hl | hl
        · obtain ⟨ol, hol, hcl, nl, hdl⟩ := hl
          obtain ⟨ocls, odict, odata, oslots⟩ := ol
          simp only at hcl hdl
          subst hcl; subst hdl
          have hol' := Heap.get?_push_of_some (newSet w) hol
          have hsls := F.sub_list_set
          have hslf := F.sub_list_frozenset
          have hne : (Value.type "list" == Value.type "dict") = false := by decide
          have hl1 : (s.heap.push (newSet w)).IsList l items := ⟨_, hol', rfl, nl, rfl⟩
          have hlS : l < s.heap.objs.size := Heap.lt_size hol
          unfold Builtin.«set.__init__» noKeywords Builtin.Frozenset.updateFrom
          generalize hPI : pyIter = PI
          wp_walk
          subst hPI
          refine wpAny_pyIter_list hl1 ?_
          refine wpAny_bind (wpAny_runValue ?_)
          have hneI : l ≠ (s.heap.push (newSet w)).objs.size := by rw [hsz]; exact Nat.ne_of_lt (Nat.lt_succ_of_lt hlS)
          have hSf : s.heap.objs.size ∉ [(s.heap.push (newSet w)).objs.size, l] := by
            rw [hsz]; simp only [List.mem_cons, List.mem_singleton, List.not_mem_nil, or_false, not_or]
            exact ⟨Nat.ne_of_lt (Nat.lt_succ_self _), Nat.ne_of_gt hlS⟩
          refine upd_loop ((Walks.list hh3 _ l hneI items).toS) s.heap.objs.size hSf ks add hisz hval s.heap hk hkd (none_of _ (Nat.le_refl _)) (fun b hb => none_of b (by
              rw [List.mem_singleton.mp hb, hsz]
              exact Nat.le_succ _)) hu (items.size - 0) 0 _ (by omega) (Nat.zero_le _)
            ⟨⟨_, Heap.get?_push_size _ rfl, rfl, rfl⟩, (hl1.push _)⟩ (fun b o e => Heap.get?_push_of_some _ (Heap.get?_push_of_some _ e)) ?hS0 ?hR
          case hS0 => exact ⟨[], #[], 0, _, holds_new (Heap.get?_push_of_some _ hS), hz0, GotK.zero ks⟩
          case hR =>
            intro s' L es ep t hm hS' _ g' hkp
            obtain ⟨h', g2, d', tk', os'⟩ := s'
            have eg : g2 = s.gens := hm.gens
            have ed : d' = s.drawn := hm.drawn
            have eo : os' = s.os := hm.os
            subst eg; subst ed; subst eo
            show wpAny _ _ _ _ _ _
            refine wpAny_pure ?_
            show wpAny _ _ (ret Value.none) _ _ _
            rw [hisz] at g'
            exact wpAny_pure ⟨rfl, h', tk', L, es, ep, t, rfl, hS', g', hkp⟩
        · obtain ⟨ol, hol, hcl, nl, hdl⟩ := hl
          obtain ⟨ocls, odict, odata, oslots⟩ := ol
          simp only at hcl hdl
          subst hcl; subst hdl
          have hol' := Heap.get?_push_of_some (newSet w) hol
          have hsls := F.sub_tuple_set
          have hslf := F.sub_tuple_frozenset
          have hne : (Value.type "tuple" == Value.type "dict") = false := by decide
          have hl1 : (s.heap.push (newSet w)).IsTuple l items := ⟨_, hol', rfl, nl, rfl⟩
          have hlS : l < s.heap.objs.size := Heap.lt_size hol
          unfold Builtin.«set.__init__» noKeywords Builtin.Frozenset.updateFrom
          generalize hPI : pyIter = PI
          wp_walk
          subst hPI
          refine wpAny_pyIter_tuple hl1 ?_
          refine wpAny_bind (wpAny_runValue ?_)
          have hneI : l ≠ (s.heap.push (newSet w)).objs.size := by rw [hsz]; exact Nat.ne_of_lt (Nat.lt_succ_of_lt hlS)
          have hSf : s.heap.objs.size ∉ [(s.heap.push (newSet w)).objs.size, l] := by
            rw [hsz]; simp only [List.mem_cons, List.mem_singleton, List.not_mem_nil, or_false, not_or]
            exact ⟨Nat.ne_of_lt (Nat.lt_succ_self _), Nat.ne_of_gt hlS⟩
          refine upd_loop ((Walks.tuple hh3 _ l hneI items).toS) s.heap.objs.size hSf ks add hisz hval s.heap hk hkd (none_of _ (Nat.le_refl _)) (fun b hb => none_of b (by
              rw [List.mem_singleton.mp hb, hsz]
              exact Nat.le_succ _)) hu (items.size - 0) 0 _ (by omega) (Nat.zero_le _)
            ⟨⟨_, Heap.get?_push_size _ rfl, rfl, rfl⟩, (hl1.push _)⟩ (fun b o e => Heap.get?_push_of_some _ (Heap.get?_push_of_some _ e)) ?hS0 ?hR
          case hS0 => exact ⟨[], #[], 0, _, holds_new (Heap.get?_push_of_some _ hS), hz0, GotK.zero ks⟩
          case hR =>
            intro s' L es ep t hm hS' _ g' hkp
            obtain ⟨h', g2, d', tk', os'⟩ := s'
            have eg : g2 = s.gens := hm.gens
            have ed : d' = s.drawn := hm.drawn
            have eo : os' = s.os := hm.os
            subst eg; subst ed; subst eo
            show wpAny _ _ _ _ _ _
            refine wpAny_pure ?_
            show wpAny _ _ (ret Value.none) _ _ _
            rw [hisz] at g'
            exact wpAny_pure ⟨rfl, h', tk', L, es, ep, t, rfl, hS', g', hkp⟩
      · cases r₂ with
        | error e => exact hr₂
        | ok fl₂ =>
          cases fl₂ with
          | ret r =>
            obtain ⟨rfl, h', tk, L, es, ep, t, rfl, hS', g', hk'⟩ := hr₂
            repeat (any_goals (first | assumption | wp_step))
            exact q _ _ _ _ _ _ hS' g' hk'
          | _ => exact hr₂.elim
    | _ => exact hr.elim
end
end Dl
end
section
set_option linter.all false
set_option maxRecDepth 100000
set_option maxHeartbeats 4000000
/-! DlSet6: sorted(set(x)) of data. -/
namespace Dl
open PySem PySem.Spec PyProof.Rows L2 SrtO
/-! ### data as keys -/
mutual
def keyD : D → NestedKey
  | .int i => .num i
  | .str x => .text x
  | .tuple xs => .tup (keysD xs)
  | _ => .none
def keysD : List D → List NestedKey
  | [] => []
  | x :: r => keyD x :: keysD r
end
theorem hash_all {n : Nat} {xs : List D} (h : hashB (n + 1) (.tuple xs) = true) : ∀ x ∈ xs, hashB n x = true := fun x hx => List.all_eq_true.mp (show xs.all (hashB n) = true from h) x hx
mutual
theorem key_is {h : Heap} : ∀ (d : D) (n : Nat) (v : Value) (as : List Addr), hashB n d = true → Reads h v d as → NestedIs h (keyD d) v ∧ (keyD d).depth ≤ n
  | .none, n, v, as, _, r => by cases r; exact ⟨.none, Nat.zero_le _⟩
  | .int i, n, v, as, _, r => by cases r; exact ⟨.int _ _, Nat.zero_le _⟩
  | .str x, n, v, as, _, r => by cases r; exact ⟨.text _ _, Nat.zero_le _⟩
  | .tuple xs, 0, v, as, e, r => by cases e
  | .tuple xs, n + 1, v, as, e, r => by
    cases r with
    | tuple ho hc hd ra =>
      obtain ⟨h1, h2⟩ := keys_are xs n _ as (hash_all e) ra
      exact ⟨.tup ho hc hd h1, Nat.succ_le_succ h2⟩
  | .bool b, n, v, as, e, r => by cases n <;> cases e
  | .list xs, n, v, as, e, r => by cases n <;> cases e
  | .dict xs, n, v, as, e, r => by cases n <;> cases e
theorem keys_are {h : Heap} : ∀ (ds : List D) (n : Nat) (vs : List Value) (as : List Addr), (∀ x ∈ ds, hashB n x = true) → ReadsAll h vs ds as → NestedAll h (keysD ds) vs ∧ NestedKey.depthAll (keysD ds) ≤ n
  | [], n, vs, as, _, r => by cases r; exact ⟨.nil, Nat.zero_le _⟩
  | d :: ds, n, vs, as, e, r => by
    cases r with
    | cons r1 r2 =>
      obtain ⟨h1, h2⟩ := key_is d n _ _ (e d List.mem_cons_self) r1
      obtain ⟨h3, h4⟩ := keys_are ds n _ _ (fun x hx => e x (List.mem_cons_of_mem _ hx)) r2
      exact ⟨.cons h1 h3, Nat.max_le.mpr ⟨h2, h4⟩⟩
end
mutual
theorem key_inj : ∀ (d e : D) (n m : Nat), hashB n d = true → hashB m e = true → keyD d = keyD e → d = e
  | .none, e, n, m, _, h2, q => by
    cases e <;> first | rfl | (cases m <;> cases h2; done) | cases q
  | .int i, e, n, m, _, h2, q => by
    cases e <;> first | (cases m <;> cases h2; done) | (cases q; rfl) | cases q
  | .str x, e, n, m, _, h2, q => by
    cases e <;> first | (cases m <;> cases h2; done) | (cases q; rfl) | cases q
  | .tuple xs, e, 0, m, h1, h2, q => by cases h1
  | .tuple xs, e, n + 1, m, h1, h2, q => by
    cases e with
    | tuple ys =>
      cases m with
      | zero => cases h2
      | succ m =>
        have q : NestedKey.tup (keysD xs) = .tup (keysD ys) := q
        injection q with q
        rw [keys_inj xs ys n m (hash_all h1) (hash_all h2) q]
    | _ => first | (cases m <;> cases h2; done) | cases q
  | .bool b, e, n, m, h1, _, _ => by cases n <;> cases h1
  | .list b, e, n, m, h1, _, _ => by cases n <;> cases h1
  | .dict b, e, n, m, h1, _, _ => by cases n <;> cases h1
theorem keys_inj : ∀ (ds es : List D) (n m : Nat), (∀ x ∈ ds, hashB n x = true) → (∀ x ∈ es, hashB m x = true) → keysD ds = keysD es → ds = es
  | [], [], _, _, _, _, _ => rfl
  | [], _ :: _, _, _, _, _, q => by cases q
  | _ :: _, [], _, _, _, _, q => by cases q
  | d :: ds, e :: es, n, m, h1, h2, q => by
    have q : keyD d :: keysD ds = keyD e :: keysD es := q
    injection q with q1 q2
    rw [key_inj d e n m (h1 d List.mem_cons_self) (h2 e List.mem_cons_self) q1, keys_inj ds es n m (fun x hx => h1 x (List.mem_cons_of_mem _ hx)) (fun x hx => h2 x (List.mem_cons_of_mem _ hx)) q2]
end
mutual
theorem eqv_hash : ∀ (d e : D) (n m : Nat), hashB n d = true → hashB m e = true → PyData.eqv d e = true → d = e
  | .none, e, n, m, _, h2, q => by cases e <;> first | rfl | (cases m <;> cases h2; done) | cases q
  | .int i, e, n, m, _, h2, q => by
    cases e with
    | int j => simp only [PyData.eqv, beq_iff_eq] at q; rw [q]
    | _ => first | (cases m <;> cases h2; done) | cases q
  | .str x, e, n, m, _, h2, q => by
    cases e with
    | str y => simp only [PyData.eqv, beq_iff_eq] at q; rw [q]
    | _ => first | (cases m <;> cases h2; done) | cases q
  | .tuple xs, e, 0, m, h1, h2, q => by cases h1
  | .tuple xs, e, n + 1, m, h1, h2, q => by
    cases e with
    | tuple ys =>
      cases m with
      | zero => cases h2
      | succ m => rw [eqv_hashL xs ys n m (hash_all h1) (hash_all h2) q]
    | _ => first | (cases m <;> cases h2; done) | cases q
  | .bool b, e, n, m, h1, _, _ => by cases n <;> cases h1
  | .list b, e, n, m, h1, _, _ => by cases n <;> cases h1
  | .dict b, e, n, m, h1, _, _ => by cases n <;> cases h1
theorem eqv_hashL : ∀ (ds es : List D) (n m : Nat), (∀ x ∈ ds, hashB n x = true) → (∀ x ∈ es, hashB m x = true) → PyData.eqvAll ds es = true → ds = es
  | [], [], _, _, _, _, _ => rfl
  | [], _ :: _, _, _, _, _, q => by cases q
  | _ :: _, [], _, _, _, _, q => by cases q
  | d :: ds, e :: es, n, m, h1, h2, q => by
    obtain ⟨q1, q2⟩ := and2 (show (PyData.eqv d e && PyData.eqvAll ds es) = true from q)
    rw [eqv_hash d e n m (h1 d List.mem_cons_self) (h2 e List.mem_cons_self) q1, eqv_hashL ds es n m (fun x hx => h1 x (List.mem_cons_of_mem _ hx)) (fun x hx => h2 x (List.mem_cons_of_mem _ hx)) q2]
end
mutual
theorem eqv_self : ∀ (d : D) (n : Nat), hashB n d = true → PyData.eqv d d = true
  | .none, _, _ => rfl
  | .int i, _, _ => by simp [PyData.eqv]
  | .str x, _, _ => by simp [PyData.eqv]
  | .tuple xs, 0, h => by cases h
  | .tuple xs, n + 1, h => eqv_selfL xs n (hash_all h)
  | .bool b, n, h => by cases n <;> cases h
  | .list b, n, h => by cases n <;> cases h
  | .dict b, n, h => by cases n <;> cases h
theorem eqv_selfL : ∀ (ds : List D) (n : Nat), (∀ x ∈ ds, hashB n x = true) → PyData.eqvAll ds ds = true
  | [], _, _ => rfl
  | d :: ds, n, h => by
    show (PyData.eqv d d && PyData.eqvAll ds ds) = true
    rw [eqv_self d n (h d List.mem_cons_self), eqv_selfL ds n fun x hx => h x (List.mem_cons_of_mem _ hx)]
    rfl
end
theorem memD_iff {n : Nat} {x : D} {xs : List D} (hx : hashB n x = true) (h : ∀ y ∈ xs, hashB n y = true) : memD x xs = true ↔ x ∈ xs := by
  unfold memD
  rw [List.any_eq_true]
  constructor
  · rintro ⟨z, hz, e⟩
    rw [← eqv_hash z x n n (h z hz) hx e]
    exact hz
  · exact fun hz => ⟨x, hz, eqv_self x n hx⟩
theorem dedup_mem {n : Nat} : ∀ {xs : List D}, (∀ y ∈ xs, hashB n y = true) → ∀ x, x ∈ dedupD xs ↔ x ∈ xs
  | [], _, x => Iff.rfl
  | y :: r, h, x => by
    have ih := dedup_mem (xs := r) (fun z hz => h z (List.mem_cons_of_mem _ hz))
    have m := memD_iff (h y List.mem_cons_self) (fun z hz => h z (List.mem_cons_of_mem _ hz))
    unfold dedupD
    split
    · rename_i hm
      rw [ih x, List.mem_cons]
      exact ⟨.inr, fun z => z.elim (fun e => by rw [e]; exact m.mp hm) id⟩
    · rw [List.mem_cons, List.mem_cons, ih x]
theorem dedup_nodup {n : Nat} : ∀ {xs : List D}, (∀ y ∈ xs, hashB n y = true) → (dedupD xs).Nodup
  | [], _ => List.nodup_nil
  | y :: r, h => by
    have ih := dedup_nodup (xs := r) (fun z hz => h z (List.mem_cons_of_mem _ hz))
    have m := memD_iff (h y List.mem_cons_self) (fun z hz => h z (List.mem_cons_of_mem _ hz))
    unfold dedupD
    split
    · exact ih
    · rename_i hm
      exact List.nodup_cons.mpr ⟨fun z => hm (m.mpr ((dedup_mem (fun z hz => h z (List.mem_cons_of_mem _ hz)) y).mp z)), ih⟩
/-! ### one order alone -/
theorem ltN_both : ∀ a b : List Nat, ltN a b = false → ltN b a = false → a = b
  | [], [], _, _ => rfl
  | [], _ :: _, h, _ => by cases h
  | _ :: _, [], _, h => by cases h
  | x :: xs, y :: ys, h1, h2 => by
    unfold ltN at h1 h2
    by_cases e : x = y
    · subst e
      rw [if_pos rfl] at h1 h2
      rw [ltN_both xs ys h1 h2]
    · rw [if_neg e] at h1
      rw [if_neg (Ne.symm e)] at h2
      have := of_decide_eq_false h1
      have := of_decide_eq_false h2
      omega
mutual
theorem ltD_both : ∀ (d e : D) (n : Nat), hashB n d = true → hashB n e = true → ltD d e = some false → ltD e d = some false → d = e
  | .int i, e, n, h1, h2, q1, q2 => by
    cases e with
    | int j =>
      simp only [ltD, Option.some.injEq, decide_eq_false_iff_not] at q1 q2
      have : i = j := by omega
      rw [this]
    | _ => cases q1
  | .str x, e, n, h1, h2, q1, q2 => by
    cases e with
    | str y =>
      simp only [ltD, Option.some.injEq] at q1 q2
      rw [codes_inj (ltN_both _ _ q1 q2)]
    | _ => cases q1
  | .tuple xs, e, 0, h1, h2, q1, q2 => by cases h1
  | .tuple xs, e, n + 1, h1, h2, q1, q2 => by
    cases e with
    | tuple ys =>
      unfold ltD at q1 q2
      split at q1
      · rename_i c1
        split at q2
        · rename_i c2
          rw [lexL_both xs ys n (hash_all h1) (hash_all h2) c1 c2 (Option.some.inj q1) (Option.some.inj q2)]
        · cases q2
      · cases q1
    | _ => cases q1
  | .none, _, n, _, _, q, _ => by cases q
  | .bool b, e, n, h1, _, _, _ => by cases n <;> cases h1
  | .list b, e, n, h1, _, _, _ => by cases n <;> cases h1
  | .dict b, e, n, h1, _, _, _ => by cases n <;> cases h1
theorem lexL_both : ∀ (xs ys : List D) (n : Nat), (∀ x ∈ xs, hashB n x = true) → (∀ y ∈ ys, hashB n y = true) → cmpL xs ys = true → cmpL ys xs = true → lexL xs ys = false → lexL ys xs = false → xs = ys
  | [], [], _, _, _, _, _, _, _ => rfl
  | [], _ :: _, _, _, _, _, _, h, _ => by cases h
  | _ :: _, [], _, _, _, _, _, _, h => by cases h
  | x :: xs, y :: ys, n, h1, h2, c1, c2, q1, q2 => by
    obtain ⟨c1, c3⟩ := and2 (show ((PyData.eqv x y || (ltD x y).isSome) && cmpL xs ys) = true from c1)
    obtain ⟨c2, c4⟩ := and2 (show ((PyData.eqv y x || (ltD y x).isSome) && cmpL ys xs) = true from c2)
    have hx := h1 x List.mem_cons_self
    have hy := h2 y List.mem_cons_self
    unfold lexL at q1 q2
    by_cases e : PyData.eqv x y = true
    · have exy := eqv_hash x y n n hx hy e
      subst exy
      rw [if_pos e] at q1 q2
      rw [lexL_both xs ys n (fun z hz => h1 z (List.mem_cons_of_mem _ hz)) (fun z hz => h2 z (List.mem_cons_of_mem _ hz)) c3 c4 q1 q2]
    · have e2 : ¬ PyData.eqv y x = true := fun z => e (by rw [eqv_hash y x n n hy hx z]; exact eqv_self x n hx)
      rw [if_neg e] at q1
      rw [if_neg e2] at q2
      simp only [Bool.not_eq_true] at e e2
      rw [e, Bool.false_or] at c1
      rw [e2, Bool.false_or] at c2
      obtain ⟨b1, z1⟩ := Option.isSome_iff_exists.mp c1
      obtain ⟨b2, z2⟩ := Option.isSome_iff_exists.mp c2
      rw [z1] at q1
      rw [z2] at q2
      have q1 : b1 = false := q1
      have q2 : b2 = false := q2
      subst q1 q2
      have exy := ltD_both x y n hx hy z1 z2
      subst exy
      rw [eqv_self x n hx] at e
      cases e
end
end Dl
end
section
set_option linter.all false
set_option maxRecDepth 100000
set_option maxHeartbeats 4000000
/-! DlSet7: sorted(set(x)) of data: the order of the set does not matter; the rule. -/
namespace Dl
open PySem PySem.Spec PyProof.Rows L2 SrtO
theorem sort_congr {α : Type} {lt lt' : α → α → Bool} {l : List α} (h : ∀ x ∈ l, ∀ y ∈ l, lt x y = lt' x y) : sortG lt l = sortG lt' l := by
  have key : ∀ m : List α, (∀ x ∈ m, x ∈ l) → All2 (fun a b => a = b ∧ a ∈ l) m m := fun m => by
    induction m with
    | nil => exact fun _ => .nil
    | cons x r ih => exact fun hm => .cons ⟨rfl, hm x List.mem_cons_self⟩ (ih fun z hz => hm z (List.mem_cons_of_mem _ hz))
  have a2 := sort_all2 (lt := lt) (lt' := lt') (fun a b a' b' h1 h2 => by rw [← h1.1, ← h2.1]; exact h a h1.2 a' h2.2) (key l fun _ h => h)
  have eq : ∀ {m n : List α}, All2 (fun a b => a = b ∧ a ∈ l) m n → m = n := fun {m n} z => by
    induction z with
    | nil => rfl
    | cons h _ ih => rw [h.1, ih]
  exact eq a2
theorem ltB_enc {xs : List D} (hc : allCmp xs = true) : ∀ x ∈ xs, ∀ y ∈ xs, ltB x y = lexI (encD x) (encD y) := fun x hx y hy => by
  obtain ⟨i, hi⟩ := mem_at hx
  obtain ⟨j, hj⟩ := mem_at hy
  obtain ⟨b, hb⟩ := cmp_all hc hi hj
  show (ltD x y).getD false = _
  rw [hb, ltD_enc hb]
  rfl
theorem allCmp_sub {xs ys : List D} (h : allCmp xs = true) (hs : ∀ y ∈ ys, y ∈ xs) : allCmp ys = true :=
  List.all_eq_true.mpr fun x hx => List.all_eq_true.mpr fun y hy => List.all_eq_true.mp (List.all_eq_true.mp h x (hs x hx)) y (hs y hy)
theorem allKd_sub {k : Nat} {xs ys : List D} (h : allKd k xs = true) (hs : ∀ y ∈ ys, y ∈ xs) : allKd k ys = true :=
  List.all_eq_true.mpr fun x hx => List.all_eq_true.mp h x (hs x hx)
theorem heads_mem : ∀ {xs hs : List D}, headsD xs = some hs → ∀ x ∈ xs, ∃ h r, x = .tuple (h :: r) ∧ h ∈ hs
  | [], _, _, x, hx => nomatch hx
  | y :: r, hs, e, x, hx => by
    unfold headsD at e
    split at e
    · rename_i heq; cases heq
    · rename_i h r' rs heq
      cases heq
      obtain ⟨ks, e1, e2⟩ := Option.map_eq_some_iff.mp e
      subst e2
      rcases List.mem_cons.mp hx with z | z
      · exact ⟨_, _, z, List.mem_cons_self⟩
      · obtain ⟨a, b, c, d⟩ := heads_mem e1 x z
        exact ⟨a, b, c, List.mem_cons_of_mem _ d⟩
    · cases e
theorem heads_ex {hs : List D} : ∀ {xs : List D}, (∀ x ∈ xs, ∃ h r, x = .tuple (h :: r) ∧ h ∈ hs) → ∃ ks, headsD xs = some ks ∧ ∀ k ∈ ks, k ∈ hs
  | [], _ => ⟨[], rfl, fun _ h => (nomatch h)⟩
  | x :: r, h => by
    obtain ⟨a, b, e, m⟩ := h x List.mem_cons_self
    obtain ⟨ks, e1, e2⟩ := heads_ex (xs := r) fun z hz => h z (List.mem_cons_of_mem _ hz)
    subst e
    refine ⟨a :: ks, ?_, fun k hk => ?_⟩
    · unfold headsD; rw [e1]; rfl
    · rcases List.mem_cons.mp hk with z | z
      · rw [z]; exact m
      · exact e2 k z
theorem or3 {a b c : Bool} (h : (a || b || c) = true) : a = true ∨ b = true ∨ c = true := by cases a <;> cases b <;> cases c <;> simp_all
theorem kind_cases {xs : List D} (h : kindOk xs = true) : allKd 1 xs = true ∨ allKd 2 xs = true ∨ ∃ hs, headsD xs = some hs ∧ (allKd 1 hs = true ∨ allKd 2 hs = true ∨ allKd 3 hs = true) := by
  rcases or3 h with z | z | z
  · exact .inl z
  · exact .inr (.inl z)
  · split at z
    · exact .inr (.inr ⟨_, ‹_›, or3 z⟩)
    · cases z
theorem kind_sub {xs ys : List D} (h : kindOk xs = true) (hs : ∀ y ∈ ys, y ∈ xs) : kindOk ys = true := by
  unfold kindOk
  rcases kind_cases h with z | z | ⟨ks, e, z⟩
  · rw [allKd_sub z hs]; rfl
  · rw [allKd_sub z hs]; simp
  · obtain ⟨js, e1, e2⟩ := heads_ex (xs := ys) (hs := ks) fun x hx => heads_mem e x (hs x hx)
    rw [e1]
    dsimp only
    rcases z with z | z | z
    · rw [allKd_sub z e2]; simp
    · rw [allKd_sub z e2]; simp
    · rw [allKd_sub z e2]; simp
theorem lay_all : ∀ {xs : List D}, PyData.canLayAll0 xs = true ↔ ∀ x ∈ xs, x.canLay0 = true
  | [] => ⟨fun _ _ h => (nomatch h), fun _ => rfl⟩
  | x :: r => by
    show (x.canLay0 && PyData.canLayAll0 r) = true ↔ _
    rw [Bool.and_eq_true, lay_all (xs := r)]
    exact ⟨fun h y hy => (List.mem_cons.mp hy).elim (fun z => by rw [z]; exact h.1) (h.2 y), fun h => ⟨h x List.mem_cons_self, fun y hy => h y (List.mem_cons_of_mem _ hy)⟩⟩
theorem depth_all {n : Nat} : ∀ {xs : List D}, PyData.depthAll xs ≤ n ↔ ∀ x ∈ xs, x.depth ≤ n
  | [] => ⟨fun _ _ h => (nomatch h), fun _ => Nat.zero_le _⟩
  | x :: r => by
    show max x.depth (PyData.depthAll r) ≤ n ↔ _
    rw [Nat.max_le, depth_all (xs := r)]
    exact ⟨fun h y hy => (List.mem_cons.mp hy).elim (fun z => by rw [z]; exact h.1) (h.2 y), fun h => ⟨h x List.mem_cons_self, fun y hy => h y (List.mem_cons_of_mem _ hy)⟩⟩
/-- sorted, whatever the order was -/
theorem sort_perm {l m : List D} (p : l.Perm m) (hc : allCmp m = true) (hh : ∀ x ∈ m, hashB 8 x = true) : sortG ltB l = sortG ltB m := by
  have O := swo_enc (β := D) encD
  have hl : ∀ y ∈ l, y ∈ m := fun y hy => p.mem_iff.mp hy
  rw [sort_congr (ltB_enc (allCmp_sub hc hl)), sort_congr (ltB_enc hc)]
  obtain ⟨s1, b1⟩ := sort_ok O l
  obtain ⟨s2, b2⟩ := sort_ok O m
  refine List.Perm.eq_of_pairwise (le := fun x y => lexI (encD y) (encD x) = false) (fun a b ha hb h1 h2 => ?_) s1 s2 ((b1.perm.trans p).trans b2.perm.symm)
  have ha := hl a (b1.perm.mem_iff.mp ha)
  have hb := b2.perm.mem_iff.mp hb
  obtain ⟨i, hi⟩ := mem_at ha
  obtain ⟨j, hj⟩ := mem_at hb
  obtain ⟨x, hx⟩ := cmp_all hc hi hj
  obtain ⟨y, hy⟩ := cmp_all hc hj hi
  have ex := ltD_enc hx
  have ey := ltD_enc hy
  refine ltD_both a b 8 (hh a ha) (hh b hb) ?_ ?_
  · rw [hx]; exact congrArg some (ex.symm.trans h2)
  · rw [hy]; exact congrArg some (ey.symm.trans h1)
theorem perm_map {α β : Type} (f : α → β) : ∀ {l : List β} {L : List α}, l.Perm (L.map f) → ∃ L' : List α, l = L'.map f ∧ L'.Perm L
  | [], L, h => by
    have e := List.Perm.nil_eq h
    cases L with
    | nil => exact ⟨[], rfl, List.Perm.refl _⟩
    | cons _ _ => cases e
  | q :: l, L, h => by
    have hq : q ∈ L.map f := h.mem_iff.mp List.mem_cons_self
    obtain ⟨p, hp, rfl⟩ := List.mem_map.mp hq
    obtain ⟨L1, L2, rfl⟩ := List.append_of_mem hp
    have h1 : (L1 ++ p :: L2).Perm (p :: (L1 ++ L2)) := List.perm_middle
    obtain ⟨L', e1, e2⟩ := perm_map f (l := l) (L := L1 ++ L2) ((h.trans (h1.map f)).cons_inv)
    exact ⟨p :: L', by rw [List.map_cons, e1], (e2.cons p).trans h1.symm⟩
/-- the items with their keys -/
def keysOf (its : List Value) (xs : List D) : List KV := its.zip (xs.map keyD)
theorem keysOf_vals : ∀ {its : List Value} {xs : List D}, its.length = xs.length → (keysOf its xs).map (·.1) = its
  | [], [], _ => rfl
  | [], _ :: _, h => by cases h
  | _ :: _, [], h => by cases h
  | v :: its, x :: xs, h => by
    show v :: (keysOf its xs).map (·.1) = _
    rw [keysOf_vals (Nat.succ.inj h)]
theorem keysOf_keys : ∀ {its : List Value} {xs : List D}, its.length = xs.length → (keysOf its xs).map (·.2) = xs.map keyD
  | [], [], _ => rfl
  | [], _ :: _, h => by cases h
  | _ :: _, [], h => by cases h
  | v :: its, x :: xs, h => by
    show keyD x :: (keysOf its xs).map (·.2) = _
    rw [keysOf_keys (Nat.succ.inj h)]
    rfl
/-- what is known of an item -/
def ItemOf (K : PySem.W.Frag) (F : Hp) (h : Heap) (xs : List D) (p : KV) : Prop := ∃ v d as, RelV v p.1 ∧ Dq K F v d ∧ Reads h p.1 d as ∧ d ∈ xs ∧ p.2 = keyD d
theorem items_of {K : PySem.W.Frag} {F : Hp} {h : Heap} : ∀ {ys : List V} {xs : List D} {its : List Value} {as : List Addr}, DqAll K F ys xs → Vals ys its → ReadsAll h its xs as → ∀ p ∈ keysOf its xs, ItemOf K F h xs p
  | _, _, _, _, .nil, .nil, .nil, p, hp => nomatch hp
  | _, _, _, _, .cons d1 d2, .cons r1 r2, .cons k1 k2, p, hp => by
    rcases List.mem_cons.mp hp with z | z
    · rw [z]; exact ⟨_, _, _, r1, d1, k1, List.mem_cons_self, rfl⟩
    · obtain ⟨v, d, as, h1, h2, h3, h4, h5⟩ := items_of d2 r2 k2 p z
      exact ⟨v, d, as, h1, h2, h3, List.mem_cons_of_mem _ h4, h5⟩
theorem items_back {K : PySem.W.Frag} {F : Hp} {h : Heap} {xs : List D} : ∀ {L : List KV}, (∀ p ∈ L, ItemOf K F h xs p) → ∃ ys zs as, Vals ys (L.map (·.1)) ∧ DqAll K F ys zs ∧ ReadsAll h (L.map (·.1)) zs as ∧ L.map (·.2) = zs.map keyD ∧ ∀ z ∈ zs, z ∈ xs
  | [], _ => ⟨[], [], [], .nil, .nil, .nil, rfl, fun _ h => nomatch h⟩
  | p :: L, hp => by
    obtain ⟨v, d, as, h1, h2, h3, h4, h5⟩ := hp p List.mem_cons_self
    obtain ⟨ys, zs, bs, k1, k2, k3, k4, k5⟩ := items_back (L := L) fun q hq => hp q (List.mem_cons_of_mem _ hq)
    refine ⟨v :: ys, d :: zs, as ++ bs, .cons h1 k1, .cons h2 k2, .cons h3 k3, ?_, fun z hz => ?_⟩
    · rw [List.map_cons, List.map_cons, h5, k4]
    · rcases List.mem_cons.mp hz with e | e
      · rw [e]; exact h4
      · exact k5 z e
theorem itemOf_at {K : PySem.W.Frag} {F : Hp} {h h' : Heap} {xs : List D} {p : KV} (k : ∀ b o, h.get? b = some o → h'.get? b = some o) (x : ItemOf K F h xs p) : ItemOf K F h' xs p := by
  obtain ⟨v, d, as, h1, h2, h3, h4, h5⟩ := x
  exact ⟨v, d, as, h1, h2, Reads.keeps k h3, h4, h5⟩
theorem few_of {its : List Value} {xs : List D} {b : Nat} (hz : its.length = xs.length) (hh : ∀ x ∈ xs, hashB 8 x = true) (hb : (dedupD xs).length < b) : FewK b (keysOf its xs) := fun L nd sub => by
  have h1 : L.map (·.2) ⊆ (dedupD xs).map keyD := fun k hk => by
    obtain ⟨p, hp, rfl⟩ := List.mem_map.mp hk
    have h2 : p.2 ∈ (keysOf its xs).map (·.2) := List.mem_map.mpr ⟨p, sub p hp, rfl⟩
    rw [keysOf_keys hz] at h2
    obtain ⟨d, hd, e⟩ := List.mem_map.mp h2
    exact List.mem_map.mpr ⟨d, (dedup_mem hh d).mpr hd, e⟩
  have h3 := List.Nodup.length_le_of_subset nd h1
  rw [List.length_map, List.length_map] at h3
  exact Nat.lt_of_le_of_lt h3 hb
/-- what is in the set, in whatever order it comes, is dedupD xs in some order -/
theorem perm_dedup {xs zs : List D} {L : List KV} (hh : ∀ x ∈ xs, hashB 8 x = true) (nd : (L.map (·.2)).Nodup) (e : L.map (·.2) = zs.map keyD) (sub : ∀ z ∈ zs, z ∈ xs) (all : ∀ x ∈ xs, keyD x ∈ L.map (·.2)) : zs.Perm (dedupD xs) := by
  rw [e] at nd all
  have n1 : zs.Nodup := nodup_of_map nd
  refine (List.perm_ext_iff_of_nodup n1 (dedup_nodup hh)).mpr fun d => ?_
  rw [dedup_mem hh]
  refine ⟨sub d, fun hd => ?_⟩
  obtain ⟨z, hz, ez⟩ := List.mem_map.mp (all d hd)
  rw [← key_inj z d 8 8 (hh z (sub z hz)) (hh d hd) ez]
  exact hz
end Dl
end
section
set_option linter.all false
set_option maxRecDepth 100000
set_option maxHeartbeats 4000000
/-! DlSet8: the rule of sorted(set(x)). -/
namespace Dl
open PySem PySem.Spec PyProof.Rows L2 SrtO
theorem shape_num {v : Value} {d : D} {h : Heap} {as : List Addr} {w : World} {P : Program} (r : Reads h v d as) (e : kdD d = 1) : ∃ x, keyD d = (numK P w).emb x ∧ (numK P w).kd.is x v = true := by
  cases r with
  | int i t => exact ⟨i, rfl, intKind_is P w i t⟩
  | _ => cases e
theorem shape_text {v : Value} {d : D} {h : Heap} {as : List Addr} {w : World} {P : Program} (r : Reads h v d as) (e : kdD d = 2) : ∃ x, keyD d = (textK P w).emb x ∧ (textK P w).kd.is x v = true := by
  cases r with
  | str x t => exact ⟨x, rfl, strKind_is P w x t⟩
  | _ => cases e
theorem reads_items {h : Heap} : ∀ {its : List Value} {xs : List D} {as : List Addr}, ReadsAll h its xs as → ∀ p ∈ keysOf its xs, ∃ d as, Reads h p.1 d as ∧ d ∈ xs ∧ p.2 = keyD d
  | _, _, _, .nil, p, hp => nomatch hp
  | _, _, _, .cons r1 r2, p, hp => by
    rcases List.mem_cons.mp hp with z | z
    · rw [z]; exact ⟨_, _, r1, List.mem_cons_self, rfl⟩
    · obtain ⟨d, as, h3, h4, h5⟩ := reads_items r2 p z
      exact ⟨d, as, h3, List.mem_cons_of_mem _ h4, h5⟩
/-- a set of the items: however they are added -/
theorem call_set_data {P : Program} {w : World} {A : Around} {E : Value → Shared → Prop} {s : Shared} {l : Addr} {its : List Value} {xs : List D} {as : List Addr} {Q : Value → Shared → Prop} (hh : A.handled = none) (hl : s.heap.IsList l its.toArray ∨ s.heap.IsTuple l its.toArray)
    (rd : ReadsAll s.heap its xs as) (hz : its.length = xs.length) (hx : ∀ x ∈ xs, hashB 8 x = true) (hn : (dedupD xs).length ≤ (if allKd 3 xs then 63 else 4000)) (hk : kindOk (dedupD xs) = true) (hu : A.in1.in1.in1.units + 8 < cLine)
    (q : ∀ (h' : Heap) (tk : Nat) L es ep t, Holds w h' s.heap.objs.size L es ep t → GotK (keysOf its xs) (keysOf its xs).length L → L.length < scanBound → (∀ b o, s.heap.get? b = some o → h'.get? b = some o) → Q (.ref s.heap.objs.size) { s with heap := h', toks := tk }) :
    wpAny (model P w) A (call (.type "set") [.ref l]) Q E s := by
  have hm : ∀ y ∈ xs, y ∈ dedupD xs := fun y hy => (dedup_mem hx y).mpr hy
  have it := reads_items rd
  have nk : ∀ p ∈ keysOf its xs, NestedIs s.heap p.2 p.1 ∧ p.2.depth ≤ 8 := fun p hp => by
    obtain ⟨d, as, h1, h2, h3⟩ := it p hp
    rw [h3]
    exact key_is d 8 _ as (hx d h2) h1
  have hit : its.toArray.toList = (keysOf its xs).map (·.1) := by rw [keysOf_vals hz]
  have lenB : ∀ b, b ≤ scanBound → (dedupD xs).length < b → ∀ L : List KV, (L.map (·.2)).Nodup → (∀ p ∈ L, p ∈ keysOf its xs) → L.length < scanBound := fun b hb hd L nd sub =>
    Nat.lt_of_lt_of_le (few_of hz hx hd L nd sub) hb
  have h40 : (dedupD xs).length < scanBound := by
    have e : scanBound = 4096 := rfl
    rw [e]
    split at hn <;> omega
  have fin : ∀ (h' : Heap) (tk : Nat) L es ep t, Holds w h' s.heap.objs.size L es ep t → GotK (keysOf its xs) (keysOf its xs).length L → (∀ b o, s.heap.get? b = some o → h'.get? b = some o) → Q (.ref s.heap.objs.size) { s with heap := h', toks := tk } :=
    fun h' tk L es ep t R g k => q h' tk L es ep t R g (lenB _ (Nat.le_refl _) h40 L R.nd g.sub) k
  rcases kind_cases hk with z | z | ⟨hs, e, _⟩
  · refine call_set_k (fun p hp => (nomatch hp)) (keysOf its xs) hh hl hit (fun p hp => (nk p hp).1) (fun p hp => (nk p hp).2) (addK_scan (numK P w) (fun p hp => ?_) (few_of hz hx h40)) hu fin
    obtain ⟨d, as, h1, h2, h3⟩ := it p hp
    obtain ⟨j, hj⟩ := mem_at (hm d h2)
    rw [h3]
    exact shape_num h1 (kd_all z hj)
  · refine call_set_k (fun p hp => (nomatch hp)) (keysOf its xs) hh hl hit (fun p hp => (nk p hp).1) (fun p hp => (nk p hp).2) (addK_scan (textK P w) (fun p hp => ?_) (few_of hz hx h40)) hu fin
    obtain ⟨d, as, h1, h2, h3⟩ := it p hp
    obtain ⟨j, hj⟩ := mem_at (hm d h2)
    rw [h3]
    exact shape_text h1 (kd_all z hj)
  · have tup : ∀ d ∈ xs, ∃ ys, d = .tuple ys := fun d hd => by
      obtain ⟨a, b, c, _⟩ := heads_mem e d (hm d hd)
      exact ⟨_, c⟩
    have k3 : allKd 3 xs = true := List.all_eq_true.mpr fun d hd => by
      obtain ⟨ys, rfl⟩ := tup d hd
      rfl
    rw [k3, if_pos rfl] at hn
    refine call_set_k tabZ_new (keysOf its xs) hh hl hit (fun p hp => (nk p hp).1) (fun p hp => (nk p hp).2) (addK_tup (fun p hp => ⟨?_, (nk p hp).2⟩) (few_of hz hx (Nat.lt_succ_of_le hn))) hu fin
    obtain ⟨d, as, h1, h2, h3⟩ := it p hp
    obtain ⟨ys, rfl⟩ := tup d h2
    generalize p.1 = v at h1
    cases h1 with
    | tuple _ _ _ _ => exact ⟨_, rfl⟩
/-- what sorted(set(x)) asks and gives -/
def rSS (K : PySem.W.Frag) : List V → Hp → VK → Prop := fun vs H Q => ∃ a ys xs F, vs = [.ref a] ∧ (SqL K H a ys ∨ SqT K H a ys) ∧ Same F H ∧ DqAll K F ys xs ∧ PyData.canLayAll0 xs = true ∧ PyData.depthAll xs ≤ 65 ∧ (∀ x ∈ xs, hashB 8 x = true) ∧ (dedupD xs).length ≤ (if allKd 3 xs then 63 else 4000) ∧ allCmp (dedupD xs) = true ∧ kindOk (dedupD xs) = true ∧
  ∀ l us, H l = none → DqAll K F us (sortG ltB (dedupD xs)) → Q (.ref l) (upd H l (.lst us))
section
variable {X : Cx} {P : Option V} {XR : XRel} {W : WX} {e : Expr} {es : List Expr} {os : Env → R (List Op × Env)} {t : TA} {p p2 p3 pos : Pos}
theorem pe_sset (hc : X.calm = true) (hu : X.A.units + 200 < cLine) (hg : Gl X "sorted") (hm : X.mg "sorted" = none) (hg2 : Gl X "set") (hm2 : X.mg "set" = none) (ha : PA X (e :: es) t) (he : starEach (e :: es) X.env = (false, eval e X.env) :: starEach es X.env) (hpl : (backTo p3 (starEach es X.env)).any (·.1) = false) :
    PE X (.Call (.Name "sorted" p) [.Call (.Name "set" p2) (e :: es) [] p3] [] pos) (tCB (rSS X.K) t) := by
  refine ⟨fun pins s σ H Q I h => ?_⟩
  have boot : bootBuiltins ("sorted" : Str) = some (.builtin "sorted") := by decide +kernel
  refine wpAny_Call_Name_kw (ld_blt I hg hm boot ?_)
  refine callWith_builtin1 (args_cons ?_ rfl) rfl rfl
  refine wpAny_Call_Name_kw (ld_blt I hg2 hm2 boot_set ?_)
  refine callWith_type1 (thn (ha.run p3 pins s σ H _ I h) fun us s1 ⟨vs, H1, I1, r1, q1⟩ => ?_) he hpl
  obtain ⟨a, ys, xs, F, rfl, hq, sF, dp, hlay, hdep, hx, hn, hcmp, hkd, q⟩ := q1
  obtain ⟨u, rfl, rx⟩ := vals1 r1
  cases rx
  have hm' : ∀ y ∈ xs, y ∈ dedupD xs := fun y hy => (dedup_mem hx y).mpr hy
  have seq : ∃ its : List Value, Vals ys its ∧ (s1.heap.IsList a its.toArray ∨ s1.heap.IsTuple a its.toArray) := by
    rcases hq with h | h
    · obtain ⟨its, rv, pl, hz⟩ := I1.list h
      exact ⟨its, rv, .inl pl.isList⟩
    · obtain ⟨its, rv, pl, hz⟩ := I1.tuple h
      exact ⟨its, rv, .inr pl⟩
  obtain ⟨its, rv, hl⟩ := seq
  obtain ⟨as, rd⟩ := Dp.readsAll I1 xs ys its ((DqAll.ext sF dp).dp hlay) rv
  have hz : its.length = xs.length := by rw [← rv.length, dp.length]
  have un : ∀ A : Around, A.in1.in1.in1.units = A.units + 3 := fun A => rfl
  refine call_set_data (I1.ok.hd hc) hl rd hz hx hn hkd (by rw [un]; omega) fun h' tk L es' ep t' R g hfew k => ?_
  refine args_nil ?_
  have io := fun p hp => itemOf_at k (items_of dp rv rd p hp)
  refine sorted_core fun A' hA => ?_
  refine collect_set (es := es') (ep := ep) (t := t') (by rw [hA]; exact I1.ok.hd hc) (by obtain ⟨o, ho, hex, hd⟩ := R.ob; exact ⟨o, ho, hex.1, hd⟩) R.fit (by rw [R.size]; exact hfew) R.ris R.led fun s2 out k2 hz2 g2 o2 pm => ?_
  rw [R.vals] at pm
  obtain ⟨L', rfl, pL⟩ := perm_map (fun p : KV => p.1) pm
  obtain ⟨ws, zs, bs, c1, c2, c3, c4, c5⟩ := items_back (L := L') fun p hp => itemOf_at k2 (io p (g.sub p (pL.mem_iff.mp hp)))
  have pd : zs.Perm (dedupD xs) := perm_dedup hx ((pL.map (·.2)).nodup_iff.mpr R.nd) c4 c5 fun x hxm => by
    have h1 : keyD x ∈ (keysOf its xs).map (·.2) := by rw [keysOf_keys hz]; exact List.mem_map.mpr ⟨x, hxm, rfl⟩
    obtain ⟨p, hp, e⟩ := List.mem_map.mp h1
    have h2 := g.all p (by rw [List.take_length]; exact hp)
    rw [← e]
    exact (pL.map (·.2)).mem_iff.mpr h2
  have sub : ∀ z ∈ zs, z ∈ dedupD xs := fun z hz => pd.mem_iff.mp hz
  have kk : ∀ b o, s1.heap.get? b = some o → s2.heap.get? b = some o := fun b o e => k2 b o (k b o e)
  have I2 : Inv X pins σ H1 s2 := I1.call' (ch := []) o2 (Un.kept kk) (I1.hok.kept kk) (by rw [g2]; exact I1.bare) fun _ z => (nomatch z)
  have hlen : (L'.map (·.1)).length ≤ sizeLine := by
    rw [List.length_map, pL.length_eq, sizeLine_eq]
    have e : scanBound = 4096 := rfl
    omega
  have un2 : X.A.in1.in1.units = X.A.units + 2 := rfl
  refine sorted_end I2 c1 c3 (lay_all.mpr fun z hz => lay_all.mp hlay z (c5 z hz)) (allCmp_sub hcmp sub) (kind_sub hkd sub) hlen ?_ fun l hl => q l _ hl ?_
  · have := (depth_all (n := 65)).mpr fun z hz => depth_all.mp hdep z (c5 z hz)
    omega
  · rw [← sort_perm pd hcmp fun x hx' => hx x ((dedup_mem hx x).mp hx')]
    exact sortV_dp c2
theorem sset_ok {K : PySem.W.Frag} {F H : Hp} {ρ : Env} {σ : L2.St} {vs : List V} {ds : List D} {v : Vl} {Q : VK} (o : Ok K P F ρ σ H) (h : DpTs K F H vs ds) (e : biD .sset ds = some v) (q : Fin K P XR W F ρ H σ (RV K σ) (.ok (v, ρ)) Q) : rSS K vs H Q := by
  have key : ∀ {ys : List V} {xs : List D} {d : D}, DqAll K F ys xs → (if shp d = true then (ssetD xs).map Vl.ow else none) = some v → (d = .list xs ∨ d = .tuple xs) →
      PyData.canLayAll0 xs = true ∧ PyData.depthAll xs ≤ 65 ∧ (∀ x ∈ xs, hashB 8 x = true) ∧ (dedupD xs).length ≤ (if allKd 3 xs then 63 else 4000) ∧ allCmp (dedupD xs) = true ∧ kindOk (dedupD xs) = true ∧ ∀ l us, H l = none → DqAll K F us (sortG ltB (dedupD xs)) → Q (.ref l) (upd H l (.lst us)) := fun {ys xs d} t e hd => by
    split at e
    · rename_i hs
      obtain ⟨zs, e1, e2⟩ := Option.map_eq_some_iff.mp e
      subst e2
      unfold ssetD at e1
      by_cases hb : (xs.all (hashB 8) && Nat.ble (dedupD xs).length (if allKd 3 xs then 63 else 4000)) = true
      · rw [if_pos hb] at e1
        obtain ⟨b1, b2⟩ := and2 hb
        unfold sortD at e1
        by_cases hk : (allCmp (dedupD xs) && kindOk (dedupD xs)) = true
        · rw [if_pos hk] at e1
          cases e1
          obtain ⟨k1, k2⟩ := and2 hk
          have hcan := shp_can hs
          have hdep := shp_depth hs
          have hcan' : PyData.canLayAll0 xs = true := by rcases hd with rfl | rfl <;> exact hcan
          have hdep' : PyData.depthAll xs + 1 ≤ 64 := by rcases hd with rfl | rfl <;> exact hdep
          exact ⟨hcan', by omega, fun x hx => List.all_eq_true.mp b1 x hx, Nat.le_of_ble_eq_true b2, k1, k2, fun l us hl du => fin_list q o hl du⟩
        · rw [if_neg hk] at e1; cases e1
      · rw [if_neg hb] at e1; cases e1
    · cases e
  cases h with
  | nil => cases e
  | cons h t =>
    cases t with
    | cons _ _ => cases h <;> cases e
    | nil =>
      cases h with
      | lst h t =>
        obtain ⟨z1, z2, z3, z4, z5, z6, z7⟩ := key t e (.inl rfl)
        exact ⟨_, _, _, F, rfl, .inl h, o.sub, t, z1, z2, z3, z4, z5, z6, z7⟩
      | tup h t =>
        obtain ⟨z1, z2, z3, z4, z5, z6, z7⟩ := key t e (.inr rfl)
        exact ⟨_, _, _, F, rfl, .inr (Ext.sqT o.sub h), o.sub, t, z1, z2, z3, z4, z5, z6, z7⟩
      | _ => cases e
theorem pd_sset (hc : X.calm = true) (hu : X.A.units + 200 < cLine) (ha : POs X P XR W (e :: es) os) (he : starEach (e :: es) X.env = (false, eval e X.env) :: starEach es X.env) (hpl : (backTo p3 (starEach es X.env)).any (·.1) = false)
    (hg : Gl X "sorted") (hm : X.mg "sorted" = none) (hg2 : Gl X "set") (hm2 : X.mg "set" = none) : PD X P XR W (.Call (.Name "sorted" p) [.Call (.Name "set" p2) (e :: es) [] p3] [] pos) (biF .sset os) :=
  pd_bi .sset (pe_sset hc hu hg hm hg2 hm2 ha he hpl) fun σ F ρ H vs ds v Q o h e q => sset_ok o h e q
end
end Dl
end
section
set_option linter.all false
set_option maxRecDepth 100000
set_option maxHeartbeats 16000000
/-! DlAll: what is checked holds: expressions. -/
namespace Dl
open PySem PySem.Spec PyProof.Rows L2
section
variable {Γ : Gm} {c : Calls} {XR : XRel} {n : Nat}
def isLC : Expr → Bool
  | .ListComp _ _ _ _ => true
  | _ => false
def HoldE (Γ : Gm) (c : Calls) (XR : XRel) (n : Nat) (s : Sc) (x : Expr) (f : Env → R (Vl × Env)) : Prop :=
  ∀ (X : Cx) (P : Option V) (W : WX), Good Γ c XR n s X → (P = none ∨ Γ.io = true) → Takes X W → PD X P XR W x f ∧ PTd X P XR W x (ttE f) ∧
    (isLC x = true → ∀ (i : Nat) (y : Str) (py spos : Pos), X.N[i]? = some y → X.env.scope.names.lookup y = some .local → swapsWith x (some (.Name y py)) spos.line X.env = pure true → PS X (.Assign [.Name y py] x spos) (tAsg (tE X.K P XR W f) (gName i)))
theorem both {X : Cx} {P : Option V} {W : WX} {x : Expr} {f : Env → R (Vl × Env)} {Z : Prop} (hx : dfltB x = true) (hl : isLC x = false) (h : PD X P XR W x f) : PD X P XR W x f ∧ PTd X P XR W x (ttE f) ∧ (isLC x = true → Z) := ⟨h, ptd_dflt hx h, fun z => by rw [hl] at z; cases z⟩
theorem evEs_len : ∀ (es : Es), plainEs es = true → ∀ (ρ : Env) (ds : List D) (ρ' : Env), evEs c es ρ = .ok (ds, ρ') → ds.length = lenEs es
  | .nil, _ => fun ρ ds ρ' h => by cases h; rfl
  | .cons st e es, hp => fun ρ ds ρ' h => by
    obtain ⟨h1, h2⟩ := and2 (show (!st && plainEs es) = true from hp)
    cases st with
    | true => cases h1
    | false =>
      obtain ⟨r, _, h⟩ := R.bind_ok (show (evE c e ρ).bind (fun r => (evEs c es r.2).bind fun q => .ok (r.1.d :: q.1, q.2)) = .ok (ds, ρ') from h)
      obtain ⟨q, h3, h⟩ := R.bind_ok h
      cases h
      show q.1.length + 1 = lenEs es + 1
      rw [evEs_len es h2 _ _ _ h3]
theorem nstars_of : ∀ (es : Es) (s : Sc) (xs : List Expr), plainEs es = true → chkEs Γ es s xs = true → nstars xs = true
  | .nil, s, [], _, _ => rfl
  | .nil, s, _ :: _, _, h => by cases h
  | .cons st e es, s, [], _, h => by cases h
  | .cons st e es, s, x :: xs, hp, h => by
    obtain ⟨h1, h2⟩ := and2 (show (!st && plainEs es) = true from hp)
    cases st with
    | true => cases h1
    | false =>
      obtain ⟨h3, h4⟩ := and2 h
      obtain ⟨h5, _⟩ := and2 h3
      show (nstar x && nstars xs) = true
      rw [h5, nstars_of es s xs h2 h4]
      rfl
theorem onstars : ∀ (es : Es) (s : Sc) (xs : List Expr), chkOs Γ es s xs = true → nstars xs = true
  | .nil, s, [], _ => rfl
  | .nil, s, _ :: _, h => by cases h
  | .cons st e es, s, [], h => by cases h
  | .cons st e es, s, x :: xs, h => by
    obtain ⟨h3, h4⟩ := and2 h
    obtain ⟨h5, _⟩ := and2 h3
    obtain ⟨_, h6⟩ := and2 h5
    show (nstar x && nstars xs) = true
    rw [h6, onstars es s xs h4]
    rfl
theorem lit_ok {X : Cx} {P : Option V} {W : WX} {d : D} {k : Const} {j : Nat} {p : Pos} (h : litB d k = true) : PD X P XR W (.Constant k j p) (fun ρ => .ok (.fr d, ρ)) := by
  unfold litB at h
  split at h
  · exact pd_lit_non
  · rename_i b b'
    have e : b = b' := by simpa using h
    subst e
    exact pd_lit_bl
  · have e := of_decide_eq_true h
    subst e
    exact pd_lit_int
  · have e := of_decide_eq_true h
    subst e
    exact pd_lit_str
  · cases h
theorem con_ok {X : Cx} {P : Option V} {W : WX} {s : Sc} {x : Str} {d : D} {p : Pos} (g : Good Γ c XR n s X) (hg : glB s x = true) (hp : plainB x = true) (h : Γ.con x d = true) : PD X P XR W (.Name x p) (fun ρ => .ok (.fr d, ρ)) := by
  obtain ⟨u, v, hm, r, dp⟩ := g.con x d h
  exact PE.imp (pe_glob (gl_of g hg) hm r (plain_of hp).1) fun σ H Q ⟨F, ρ, o, q⟩ => Fin.here q o (dp F)
theorem bi_ok {X : Cx} {P : Option V} {W : WX} {s : Sc} {b : BI} {g : Str} {x : Expr} {xs : List Expr} {os : Env → R (List Op × Env)} {p pos : Pos} (G : Good Γ c XR n s X) (hb : biN b = some g) (hg : bltB Γ s g = true) (hs : nstars (x :: xs) = true) (h : POs X P XR W (x :: xs) os) :
    PD X P XR W (.Call (.Name g p) (x :: xs) [] pos) (biF b os) := by
  obtain ⟨h1, h2⟩ := and2 (show (nstar x && nstars xs) = true from hs)
  obtain ⟨g1, g2⟩ := blt_of G hg
  cases b <;> first
    | cases hb; done
    | (cases hb; first
      | exact pd_len h (star_of h1) (plain_args h2) g1 g2
      | exact pd_tuple h (star_of h1) (plain_args h2) g1 g2
      | exact pd_list h (star_of h1) (plain_args h2) g1 g2
      | exact pd_abs h (star_of h1) (plain_args h2) g1 g2
      | exact pd_int h (star_of h1) (plain_args h2) g1 g2
      | exact pd_all h G.calm (star_of h1) (plain_args h2) g1 g2
      | exact pd_any h G.calm (star_of h1) (plain_args h2) g1 g2
      | exact pd_sum h G.calm (star_of h1) (plain_args h2) g1 g2
      | exact pd_max h G.calm (star_of h1) (plain_args h2) g1 g2
      | exact pd_min h G.calm (star_of h1) (plain_args h2) g1 g2
      | exact pd_sorted (by have := G.room.un; omega) h (star_of h1) (plain_args h2) g1 g2)
theorem tys_ok {X : Cx} {s : Sc} (G : Good Γ c XR n s X) : ∀ (ts : List Ty) (es : List Expr), tysB Γ s ts es = true → PA X es (tTys ts)
  | [], [], _ => pa_tys0
  | [], _ :: _, h => by cases h
  | t :: ts, [], h => by cases h
  | t :: ts, e :: es, h => by
    cases e with
    | Name x p =>
      obtain ⟨h1, h2⟩ := and2 h
      obtain ⟨h3, h4⟩ := and2 h1
      have e := of_decide_eq_true h3
      subst e
      obtain ⟨g1, g2⟩ := blt_of G h4
      exact pa_tys t g1 g2 rfl (tys_ok G ts es h2)
    | _ => cases h
/-- a step is quiet where its parts are -/
theorem quiet_step {ops : List Nat} {t : T} {ifs : Es} {g : Gs} {vs : List Nat} (hv : ∀ i, i ∈ vs ↔ i ∈ ownT t ++ ownG g) (h : ops.all (fun i => quiets i ifs && quietG i g && quietT i t) = true) : QuietStep ops vs (stepG t vs (evC c ifs) (evG c g)) := fun i hi => by
  have q := List.all_eq_true.mp h i hi
  obtain ⟨q, qt⟩ := and2 q
  obtain ⟨qf, qg⟩ := and2 q
  have no : i ∉ vs := fun z => (List.mem_append.mp ((hv i).mp z)).elim (quietT_own qt) (quietG_own qg)
  refine ⟨no, fun nn x ρ acc r hr hx => ?_⟩
  obtain ⟨ρ1, h1, hr⟩ := R.opt_ok hr
  obtain ⟨⟨b, ρ2⟩, h2, hr⟩ := R.bind_ok hr
  have hw : Has i nn ρ1 := ⟨by rw [store_out h1 (quietT_own qt), wipeE_out no]; exact hx.1, by rw [store_len h1, wipeE_len]; exact hx.2⟩
  have hm := q_C c i ifs qf nn _ _ _ h2 hw
  cases b with
  | true => exact q_G c i g qg nn ρ2 acc r.1 r.2 hr hm
  | false => cases hr; exact hm
theorem opsOf_in (a : E) : ∀ i, a = .pk i → i ∈ opsOf (.of a) := fun i h => by subst h; exact List.mem_cons_self
theorem evG_elt (e : E) : evG c (.elt e) = lastG (evE c e) := by funext ρ acc; rfl
theorem evG_cons (t : T) (it : It) (ifs : Es) (g : Gs) : evG c (.cons t it ifs g) = clauseG ((opsOf it).all (fun i => quiets i ifs && quietG i g && quietT i t)) t (ownT t ++ ownG g) (evI c it) (evC c ifs) (evG c g) := by
  funext ρ acc
  rfl
end
section
variable {Γ : Gm} {c : Calls} {XR : XRel} {n : Nat}
theorem len_of : ∀ (es : Es) (s : Sc) (xs : List Expr), chkEs Γ es s xs = true → lenEs es = xs.length
  | .nil, s, [], _ => rfl
  | .nil, s, _ :: _, h => by cases h
  | .cons st e es, s, [], h => by cases h
  | .cons st e es, s, x :: xs, h => by
    obtain ⟨_, h2⟩ := and2 h
    show lenEs es + 1 = xs.length + 1
    rw [len_of es s xs h2]
theorem kw_len : ∀ {kws : List Keyword} {ns : List Str}, kwNs kws = some ns → kws.length = ns.length
  | [], _, h => by cases h; rfl
  | k :: r, ns, h => by
    obtain ⟨x, h1, h2⟩ := Option.bind_eq_some_iff.mp h
    obtain ⟨ys, h3, h4⟩ := Option.map_eq_some_iff.mp h2
    subst h4
    rw [List.length_cons, List.length_cons, kw_len h3]
theorem kw_back : ∀ {kws : List Keyword} {ns : List Str}, kwNs kws = some ns → ∀ (pos : Pos) (env : PySem.Env), (backToKw pos (keywordEach kws env)).all (·.1.isSome) = true ∧ (backToKw pos (keywordEach kws env)).filterMap (·.1) = ns ∧ ((backTo pos (starEach [] env)).any (·.1) || (backToKw pos (keywordEach kws env)).any (·.1.isNone)) = false
  | [], _, h => fun pos env => by cases h; exact ⟨rfl, rfl, rfl⟩
  | ⟨a, v, kp⟩ :: r, ns, h => fun pos env => by
    obtain ⟨x, h1, h2⟩ := Option.bind_eq_some_iff.mp h
    obtain ⟨ys, h3, h4⟩ := Option.map_eq_some_iff.mp h2
    subst h4
    have h1 : a = some x := h1
    subst h1
    obtain ⟨k1, k2, k3⟩ := kw_back h3 pos env
    refine ⟨?_, ?_, ?_⟩
    · show (true && (backToKw pos (keywordEach r env)).all (·.1.isSome)) = true
      rw [k1]
      rfl
    · show x :: (backToKw pos (keywordEach r env)).filterMap (·.1) = x :: ys
      rw [k2]
    · exact k3
theorem fns_ok {X : Cx} {s : Sc} (G : Good Γ c XR n s X) (np : Nat) : ∀ (fs : List Nat) (gs : List Expr), fnsB Γ s np fs gs = true → ∃ as, Fns X gs as ∧ fs.length = as.length ∧ ∀ (j f : Nat) (b : Addr), fs[j]? = some f → as[j]? = some b → FnAt X XR n np b (c f)
  | [], [], _ => ⟨[], .nil, rfl, fun j f b h => by simp at h⟩
  | [], _ :: _, h => by cases h
  | f :: fs, [], h => by cases h
  | f :: fs, e :: gs, h => by
    cases e with
    | Name g p =>
      obtain ⟨h, h4⟩ := and2 h
      obtain ⟨h, h3⟩ := and2 h
      obtain ⟨h1, h2⟩ := and2 h
      obtain ⟨as, k1, k2, k3⟩ := fns_ok G np fs gs h4
      obtain ⟨a, fd, ps, FO, hm, hk, hb⟩ := G.fn _ _ _ _ (of_decide_eq_true h3)
      refine ⟨a :: as, .cons (gl_of G h1) hm (plain_of h2).1 k1, by rw [List.length_cons, List.length_cons, k2], fun j f' b e1 e2 => ?_⟩
      cases j with
      | zero =>
        simp at e1 e2
        subst e1 e2
        exact ⟨⟨fd, ps, FO, hb⟩, hk⟩
      | succ j => exact k3 j f' b (by simpa using e1) (by simpa using e2)
    | _ => cases h
end
theorem nsup_ok {e : Expr} {f : Str} {env : PySem.Env} {w : Sem Value} (h : nsup e = true) : attributeBase e f env w = w := by
  unfold attributeBase
  split
  · cases h
  · rfl
theorem ne_some {α : Type} {xs : List α} (h : (!xs.isEmpty) = true) : ∃ x, x ∈ xs := by
  cases xs with
  | nil => cases h
  | cons x r => exact ⟨x, List.mem_cons_self⟩
theorem clss_ok {Γ : Gm} {c : Calls} {XR : XRel} {n : Nat} {s : Sc} {X : Cx} (G : Good Γ c XR n s X) {tab : List (Str × Bool)} {z0 : Str × Bool} (h0 : z0 ∈ tab) : ∀ {cs : List Str} {es : List Expr}, clssB Γ s tab cs es = true → ∃ vs ws, vs.length = cs.length ∧ Paired ClsV vs ws ∧ PA X es (tClss vs) ∧ ∀ z ∈ tab, PySem.W.kitAny X.K (.ref (He.ga X.K z.1)) ws = some false ∧ (cs ≠ [] → ExcC X.K (He.ga X.K z.1))
  | [], [], _ => ⟨[], [], rfl, .nil, pa_cls0, fun z hz => ⟨kitAny_nil, fun q => absurd rfl q⟩⟩
  | [], _ :: _, h => by cases h
  | d :: ds, [], h => by cases h
  | d :: ds, e :: es, h => by
    unfold clssB at h
    split at h
    · rename_i e1 e2; cases e1
    · rename_i e1 e2
      cases e1; cases e2
      obtain ⟨h, h4⟩ := and2 h
      obtain ⟨h, h3⟩ := and2 h
      obtain ⟨h1, h2⟩ := and2 h
      have e := of_decide_eq_true h1
      subst e
      have hx := fun z hz => G.xis _ _ _ (of_decide_eq_true (List.all_eq_true.mp h3 z hz))
      obtain ⟨vs, ws, v1, v2, v3, v4⟩ := clss_ok G h0 h4
      refine ⟨_ :: vs, _ :: ws, by rw [List.length_cons, List.length_cons, v1], .cons (hx z0 h0).cl.cl v2, pa_clss (hx z0 h0).cl (gl_of G h2) rfl v3, fun z hz => ⟨kitAny_cons (hx z hz).kit (fun _ => (v4 z hz).1) (fun q => by cases q), fun _ => (hx z hz).ec⟩⟩
    · cases h
mutual
theorem E_ok (Γ : Gm) (c : Calls) (XR : XRel) (n : Nat) : ∀ (e : E) (s : Sc) (x : Expr), chkE Γ e s x = true → HoldE Γ c XR n s x (evE c e)
  | .lit d, s, x, h => fun X P W G hP tk => by
    unfold chkE at h
    split at h
    · exact both rfl rfl (lit_ok h)
    · cases h
  | .con m d, s, x, h => fun X P W G hP tk => by
    unfold chkE at h
    split at h
    · obtain ⟨h, h4⟩ := and2 h
      obtain ⟨h, h3⟩ := and2 h
      obtain ⟨h1, h2⟩ := and2 h
      have e := of_decide_eq_true h1
      subst e
      exact both rfl rfl (con_ok G h2 h3 h4)
    · cases h
  | .var i, s, x, h => fun X P W G hP tk => by
    unfold chkE at h
    split at h
    · obtain ⟨h1, h2, h3, h4⟩ := nm_of G h
      exact both rfl rfl (pd_var h1 h2 h3 h4)
    · cases h
  | .pk i, s, x, h => fun X P W G hP tk => by
    unfold chkE at h
    cases h
  | .mv i, s, x, h => fun X P W G hP tk => by
    unfold chkE at h
    split at h
    · obtain ⟨h1, h2, h3, h4⟩ := nm_of G h
      exact both rfl rfl (pd_mv h1 h2 h3 h4)
    · cases h
  | .neg a, s, x, h => fun X P W G hP tk => by
    unfold chkE at h
    split at h
    · exact both rfl rfl (pd_neg (E_ok Γ c XR n a _ _ h X P W G hP tk).1)
    · cases h
  | .notE a, s, x, h => fun X P W G hP tk => by
    unfold chkE at h
    split at h
    · have ih := fun y (z : chkE Γ a s y = true) => E_ok Γ c XR n a _ _ z X P W G hP tk
      exact ⟨pd_not (op_ok G h fun z => (ih _ z).1), ptd_not (ts_ok G h fun z => (ih _ z).2.1), fun z => nomatch z⟩
    · cases h
  | .bin o a b, s, x, h => fun X P W G hP tk => by
    unfold chkE at h
    split at h
    · obtain ⟨h, h3⟩ := and2 h
      obtain ⟨h1, h2⟩ := and2 h
      have e := of_decide_eq_true h1
      subst e
      exact both rfl rfl (pd_bin o (op_ok G h2 fun z => (E_ok Γ c XR n a _ _ z X P W G hP tk).1) (op_ok G h3 fun z => (E_ok Γ c XR n b _ _ z X P W G hP tk).1))
    · cases h
  | .rep a b, s, x, h => fun X P W G hP tk => by
    unfold chkE at h
    split at h
    · obtain ⟨h1, h2⟩ := and2 h
      exact both rfl rfl (pd_rep (E_ok Γ c XR n a _ _ h1 X P W G hP tk).1 (E_ok Γ c XR n b _ _ h2 X P W G hP tk).1)
    · cases h
  | .cmp o a b, s, x, h => fun X P W G hP tk => by
    unfold chkE at h
    split at h
    · obtain ⟨h, h4⟩ := and2 h
      obtain ⟨h, h3⟩ := and2 h
      obtain ⟨h1, h2⟩ := and2 h
      have e := of_decide_eq_true h1
      subst e
      have ka := op_ok G h3 fun z => (E_ok Γ c XR n a _ _ z X P W G hP tk).1
      have kb := op_ok G h4 fun z => (E_ok Γ c XR n b _ _ z X P W G hP tk).1
      exact ⟨pd_cmp G.units o (mark_of h2) ka kb, ptd_bool cmpF_bool (fun σ H Q q => cmp_imp o q) (pt_cmpR (op_cmp G.units o) ka kb (mark_of h2)), fun z => nomatch z⟩
    · cases h
  | .chain o1 o2 a b d, s, x, h => fun X P W G hP tk => by
    unfold chkE at h
    split at h
    · obtain ⟨h, h6⟩ := and2 h
      obtain ⟨h, h5⟩ := and2 h
      obtain ⟨h, h4⟩ := and2 h
      obtain ⟨h, h3⟩ := and2 h
      obtain ⟨h1, h2⟩ := and2 h
      have e1 := of_decide_eq_true h1
      have e2 := of_decide_eq_true h2
      subst e1 e2
      have ka := op_ok G h4 fun z => (E_ok Γ c XR n a _ _ z X P W G hP tk).1
      have kb := op_ok G h5 fun z => (E_ok Γ c XR n b _ _ z X P W G hP tk).1
      have kd := op_ok G h6 fun z => (E_ok Γ c XR n d _ _ z X P W G hP tk).1
      exact ⟨pd_chain G.units o1 o2 (mark_of h3) ka kb kd, ptd_bool chainF_bool (fun σ H Q q => chain_imp o1 o2 q) (pt_chain (op_cmp G.units o1) (op_cmp G.units o2) ka kb kd (mark_of h3)), fun z => nomatch z⟩
    · cases h
  | .andE a b, s, x, h => fun X P W G hP tk => by
    unfold chkE at h
    split at h
    · obtain ⟨h1, h2⟩ := and2 h
      have ka := E_ok Γ c XR n a _ _ h1 X P W G hP tk
      have kb := E_ok Γ c XR n b _ _ h2 X P W G hP tk
      exact ⟨pd_and ka.1 (pd_tail kb.1), ptd_and ka.2.1 kb.2.1, fun z => nomatch z⟩
    · cases h
  | .orE a b, s, x, h => fun X P W G hP tk => by
    unfold chkE at h
    split at h
    · obtain ⟨h1, h2⟩ := and2 h
      have ka := E_ok Γ c XR n a _ _ h1 X P W G hP tk
      have kb := E_ok Γ c XR n b _ _ h2 X P W G hP tk
      exact ⟨pd_or ka.1 (pd_tail kb.1), ptd_or ka.2.1 kb.2.1, fun z => nomatch z⟩
    · cases h
  | .ite t a b, s, x, h => fun X P W G hP tk => by
    unfold chkE at h
    split at h
    · obtain ⟨h, h3⟩ := and2 h
      obtain ⟨h1, h2⟩ := and2 h
      have kt := ts_ok G h1 fun z => (E_ok Γ c XR n t _ _ z X P W G hP tk).2.1
      have ka := E_ok Γ c XR n a _ _ h2 X P W G hP tk
      have kb := E_ok Γ c XR n b _ _ h3 X P W G hP tk
      exact ⟨pd_ite kt ka.1 kb.1, ptd_ite kt ka.2.1 kb.2.1, fun z => nomatch z⟩
    · cases h
  | .idx a b, s, x, h => fun X P W G hP tk => by
    unfold chkE at h
    split at h
    · obtain ⟨h, h3⟩ := and2 h
      obtain ⟨h1, h2⟩ := and2 h
      exact both rfl rfl (pd_idx (ix_of h1) (op_ok G h2 fun z => (E_ok Γ c XR n a _ _ z X P W G hP tk).1) (E_ok Γ c XR n b _ _ h3 X P W G hP tk).1)
    · cases h
  | .slice a lo hi, s, x, h => fun X P W G hP tk => by
    unfold chkE at h
    split at h
    · obtain ⟨h, h3⟩ := and2 h
      obtain ⟨h1, h2⟩ := and2 h
      exact both rfl rfl (pd_slice (op_ok G h1 fun z => (E_ok Γ c XR n a _ _ z X P W G hP tk).1) (pt_ok h2 fun y z => (E_ok Γ c XR n lo _ _ z X P W G hP tk).1) (pt_ok h3 fun y z => (E_ok Γ c XR n hi _ _ z X P W G hP tk).1))
    · cases h
  | .rev a, s, x, h => fun X P W G hP tk => by
    unfold chkE at h
    split at h
    · exact both rfl rfl (pd_rev (op_ok G h fun z => (E_ok Γ c XR n a _ _ z X P W G hP tk).1))
    · cases h
  | .abs_, s, x, h => fun X P W G hP tk => by
    unfold chkE at h
    cases h
  | .lst es, s, x, h => fun X P W G hP tk => by
    unfold chkE at h
    split at h
    · exact both rfl rfl (pd_lst (Es_ok Γ c XR n es _ _ h X P W G hP tk))
    · cases h
  | .tup es, s, x, h => fun X P W G hP tk => by
    unfold chkE at h
    split at h
    · exact both rfl rfl (pd_tup (Es_ok Γ c XR n es _ _ h X P W G hP tk))
    · cases h
  | .call f es, s, x, h => fun X P W G hP tk => by
    unfold chkE at h
    split at h
    · obtain ⟨h, h5⟩ := and2 h
      obtain ⟨h, h4⟩ := and2 h
      obtain ⟨h, h3⟩ := and2 h
      obtain ⟨h1, h2⟩ := and2 h
      obtain ⟨a, fd, ps, FO, hm, hk, hb⟩ := G.fn _ _ _ _ (of_decide_eq_true h3)
      obtain ⟨n1, n2⟩ := and2 (show (nstar _ && nstars _) = true from nstars_of es _ _ h4 h5)
      exact both rfl rfl (pd_call FO G.room (gl_of G h1) hm hk hb tk (Es_ok Γ c XR n es _ _ h5 X P W G hP tk) (plain_of h2).1 (star_of n1) (plain_args n2) (evEs_len es h4))
    · cases h
  | .callk f perm es, s, x, h => fun X P W G hP tk => by
    unfold chkE at h
    split at h
    · split at h
      · rename_i hk
        obtain ⟨h, h6⟩ := and2 h
        obtain ⟨h, h5⟩ := and2 h
        obtain ⟨h, h4⟩ := and2 h
        obtain ⟨h, h3⟩ := and2 h
        obtain ⟨h1, h2⟩ := and2 h
        obtain ⟨a, fd, ps, FO, hm, hkp, hb⟩ := G.kw _ _ _ _ (of_decide_eq_true h3)
        obtain ⟨k1, k2, k3⟩ := kw_back hk _ X.env
        exact both rfl rfl (pd_callk FO G.room (gl_of G h1) hm hkp hb tk (Ks_ok Γ c XR n es _ _ h4 h6 X P W G hP tk) (plain_of h2).1 k1 k2 k3 fun ρ ds ρ' e => by rw [evEs_len es h4 _ _ _ e, len_of es _ _ h6, List.length_map, kw_len hk])
      · cases h
    · cases h
  | .calls fs i es, s, x, h => fun X P W G hP tk => by
    unfold chkE at h
    split at h
    · obtain ⟨h, h6⟩ := and2 h
      obtain ⟨h, h5⟩ := and2 h
      obtain ⟨h, h4⟩ := and2 h
      obtain ⟨h, h3⟩ := and2 h
      obtain ⟨h1, h2⟩ := and2 h
      obtain ⟨as, hf, hl, ha⟩ := fns_ok G _ _ _ h2
      obtain ⟨n1, n2⟩ := and2 (show (nstar _ && nstars _) = true from nstars_of es _ _ h4 h6)
      exact both rfl rfl (pd_calls hf hl (by rw [← hl]; exact of_decide_eq_true h3) ha G.room tk (ix_of h1) (E_ok Γ c XR n i _ _ h5 X P W G hP tk).1 (Es_ok Γ c XR n es _ _ h6 X P W G hP tk) (star_of n1) (plain_args n2) (evEs_len es h4))
    · cases h
  | .call0 f, s, x, h => fun X P W G hP tk => by
    unfold chkE at h
    split at h
    · obtain ⟨h, h3⟩ := and2 h
      obtain ⟨h1, h2⟩ := and2 h
      obtain ⟨a, fd, ps, FO, hm, hk, hb⟩ := G.fn _ _ _ _ (of_decide_eq_true h3)
      exact both rfl rfl (pd_call0 FO G.room (gl_of G h1) hm hk hb (plain_of h2).1)
    · cases h
  | .callio f i es, s, x, h => fun X P W G hP tk => by
    unfold chkE at h
    split at h
    · obtain ⟨h, h6⟩ := and2 h
      obtain ⟨h, h5⟩ := and2 h
      obtain ⟨h, h4⟩ := and2 h
      obtain ⟨h, h3⟩ := and2 h
      obtain ⟨h1, h2⟩ := and2 h
      obtain ⟨a, fd, ps, FO, hm, hk, hb⟩ := G.fn _ _ _ _ (of_decide_eq_true h3)
      obtain ⟨k1, k2, k3, k4⟩ := nm_of G h4
      exact both rfl rfl (pd_callio FO G.room (gl_of G h1) hm hk hb k1 k2 k3 k4 tk (Es_ok Γ c XR n es _ _ h6 X P W G hP tk) (plain_of h2).1 rfl (plain_args (nstars_of es _ _ h5 h6)) fun ρ ds ρ' e => by rw [evEs_len es h5 _ _ _ e])
    · cases h
  | .callt f a es, s, x, h => fun X P W G hP tk => by
    unfold chkE at h
    split at h
    · obtain ⟨h, h7⟩ := and2 h
      obtain ⟨h, h6⟩ := and2 h
      obtain ⟨h, h5⟩ := and2 h
      obtain ⟨h, h4⟩ := and2 h
      obtain ⟨h, h3⟩ := and2 h
      obtain ⟨h1, h2⟩ := and2 h
      obtain ⟨b, fd, ps, FO, hm, hk, hb⟩ := G.fn _ _ _ _ (of_decide_eq_true h3)
      exact both rfl rfl (pd_callt FO G.room (gl_of G h1) hm hk hb tk (E_ok Γ c XR n a _ _ h6 X P W G hP tk).1 (Es_ok Γ c XR n es _ _ h7 X P W G hP tk) (plain_of h2).1 (star_of h4) (plain_args (nstars_of es _ _ h5 h7)) fun ρ ds ρ' e => by rw [evEs_len es h5 _ _ _ e])
    · cases h
  | .bi b es, s, x, h => fun X P W G hP tk => by
    unfold chkE at h
    split at h
    · obtain ⟨h, h5⟩ := and2 h
      obtain ⟨h, h4⟩ := and2 h
      obtain ⟨h, h3⟩ := and2 h
      obtain ⟨h1, h2⟩ := and2 h
      have e1 := of_decide_eq_true h1
      have e3 := of_decide_eq_true h3
      subst e1 e3
      obtain ⟨g1, g2⟩ := blt_of G h2
      obtain ⟨g3, g4⟩ := blt_of G h4
      obtain ⟨n1, n2⟩ := and2 (show (nstar _ && nstars _) = true from onstars es _ _ h5)
      exact both rfl rfl (pd_sset G.calm (by have := G.room.un; omega) (Os_ok Γ c XR n es _ _ h5 X P W G hP tk) (star_of n1) (plain_args n2) g1 g2 g3 g4)
    · obtain ⟨h, h3⟩ := and2 h
      obtain ⟨h1, h2⟩ := and2 h
      exact both rfl rfl (bi_ok G (of_decide_eq_true h1) h2 (onstars es _ _ h3) (Os_ok Γ c XR n es _ _ h3 X P W G hP tk))
    · cases h
  | .comp (.elt e), s, x, h => fun X P W G hP tk => by
    unfold chkE at h
    cases h
  | .comp (.cons t it ifs (.elt e)), s, x, h => fun X P W G hP tk => by
    unfold chkE at h
    split at h
    · rename_i elt tg iter ifs' scope pos
      obtain ⟨h, h6⟩ := and2 h
      obtain ⟨h, h5⟩ := and2 h
      obtain ⟨h, h4⟩ := and2 h
      obtain ⟨h, h3⟩ := and2 h
      obtain ⟨h1, h2⟩ := and2 h
      have bl := fun s1 H C cl fp => G.blk s1 H scope C cl fp
      have z := pd_lc1 (pos := pos) (P := P) (XR := XR) (W := W) (t := t) (vs := ownT t ++ []) (ops := opsOf it) (fI := evI c it) (fC := evC c ifs) (fE := evE c e) (ok := (opsOf it).all (fun i => quiets i ifs && quietG i (.elt e) && quietT i t)) G.calm G.nd (blk_of G h1) (own_snd _)
        (fun i hi => List.mem_append_left _ hi) (I_ok Γ c XR n it _ _ _ h3 X P W G hP tk)
        (fun s1 H C cl fp => tgt_ok ((bl s1 H C cl fp).io false) (.inl rfl) t _ h4) (fun s1 H C cl fp => Cs_ok Γ c XR n ifs _ _ h5 _ none WF (bl s1 H C cl fp) (.inl rfl) takes0)
        (fun s1 H C cl fp => (E_ok Γ c XR n e _ _ h6 _ none WF (bl s1 H C cl fp) (.inl rfl) takes0).1) (fun hq => by
          have := quiet_step (c := c) (ops := opsOf it) (t := t) (ifs := ifs) (g := .elt e) (vs := ownT t ++ []) (fun i => Iff.rfl) hq
          rw [evG_elt] at this
          exact this) (fold_of h2)
      refine ⟨z, ptd_dflt rfl z, fun _ i y py spos hy hyl hsw => ?_⟩
      exact ps_lc1 (pos := pos) (py := py) (spos := spos) (i := i) (y := y) (P := P) (XR := XR) (W := W) (t := t) (vs := ownT t ++ []) (ops := opsOf it) (fI := evI c it) (fC := evC c ifs) (fE := evE c e) (ok := (opsOf it).all (fun i => quiets i ifs && quietG i (.elt e) && quietT i t)) hy hyl hsw G.calm G.nd (blk_of G h1) (own_snd _)
        (fun i hi => List.mem_append_left _ hi) (I_ok Γ c XR n it _ _ _ h3 X P W G hP tk)
        (fun s1 H C cl fp => tgt_ok ((bl s1 H C cl fp).io false) (.inl rfl) t _ h4) (fun s1 H C cl fp => Cs_ok Γ c XR n ifs _ _ h5 _ none WF (bl s1 H C cl fp) (.inl rfl) takes0)
        (fun s1 H C cl fp => (E_ok Γ c XR n e _ _ h6 _ none WF (bl s1 H C cl fp) (.inl rfl) takes0).1) (fun hq => by
          have := quiet_step (c := c) (ops := opsOf it) (t := t) (ifs := ifs) (g := .elt e) (vs := ownT t ++ []) (fun i => Iff.rfl) hq
          rw [evG_elt] at this
          exact this) (fold_of h2)
    · cases h
  | .comp (.cons t it ifs (.cons t1 it1 ifs1 (.elt e))), s, x, h => fun X P W G hP tk => by
    unfold chkE at h
    split at h
    · rename_i elt tg iter ifs' tg1 iter1 ifs1' scope pos
      obtain ⟨h, h10⟩ := and2 h
      obtain ⟨h, h9⟩ := and2 h
      obtain ⟨h, h8⟩ := and2 h
      obtain ⟨h, h7⟩ := and2 h
      obtain ⟨h, h6⟩ := and2 h
      obtain ⟨h, h5⟩ := and2 h
      obtain ⟨h, h4⟩ := and2 h
      obtain ⟨h, h3⟩ := and2 h
      obtain ⟨h1, h2⟩ := and2 h
      have bl := fun s1 H C cl fp => G.blk s1 H scope C cl fp
      have z := pd_lc2 (pos := pos) (P := P) (XR := XR) (W := W) (t := t) (t1 := t1) (vs := ownT t ++ (ownT t1 ++ [])) (vs1 := ownT t1 ++ []) (ops := opsOf it) (ops1 := opsOf it1) (fI := evI c it) (fI1 := evI c it1) (fC := evC c ifs) (fC1 := evC c ifs1) (fE := evE c e)
        (ok := (opsOf it).all (fun i => quiets i ifs && quietG i (.cons t1 it1 ifs1 (.elt e)) && quietT i t)) (ok1 := (opsOf it1).all (fun i => quiets i ifs1 && quietG i (.elt e) && quietT i t1)) G.calm G.nd (blk_of G h1) (own_snd _)
        (fun i hi => List.mem_append_left _ hi) (fun i hi => List.mem_append_right _ hi) (fun i hi => List.mem_append_left _ hi) (I_ok Γ c XR n it _ _ _ h4 X P W G hP tk)
        (fun s1 H C cl fp => tgt_ok ((bl s1 H C cl fp).io false) (.inl rfl) t _ h5) (fun s1 H C cl fp => Cs_ok Γ c XR n ifs _ _ h6 _ none WF (bl s1 H C cl fp) (.inl rfl) takes0)
        (fun s1 H C cl fp => (E_ok Γ c XR n e _ _ h10 _ none WF (bl s1 H C cl fp) (.inl rfl) takes0).1)
        (fun s1 H C cl fp => I_ok Γ c XR n it1 _ _ _ h7 _ none WF (bl s1 H C cl fp) (.inl rfl) takes0)
        (fun s1 H C cl fp => tgt_ok ((bl s1 H C cl fp).io false) (.inl rfl) t1 _ h8) (fun s1 H C cl fp => Cs_ok Γ c XR n ifs1 _ _ h9 _ none WF (bl s1 H C cl fp) (.inl rfl) takes0)
        (fun hq => by
          have := quiet_step (c := c) (ops := opsOf it) (t := t) (ifs := ifs) (g := .cons t1 it1 ifs1 (.elt e)) (vs := ownT t ++ (ownT t1 ++ [])) (fun i => Iff.rfl) hq
          rw [evG_cons, evG_elt] at this
          exact this)
        (fun hq => by
          have := quiet_step (c := c) (ops := opsOf it1) (t := t1) (ifs := ifs1) (g := .elt e) (vs := ownT t1 ++ []) (fun i => Iff.rfl) hq
          rw [evG_elt] at this
          exact this) (fold_of h2) (fun env => fold_of h3)
      refine ⟨z, ptd_dflt rfl z, fun _ i y py spos hy hyl hsw => ?_⟩
      exact ps_lc2 (pos := pos) (py := py) (spos := spos) (i := i) (y := y) (P := P) (XR := XR) (W := W) (t := t) (t1 := t1) (vs := ownT t ++ (ownT t1 ++ [])) (vs1 := ownT t1 ++ []) (ops := opsOf it) (ops1 := opsOf it1) (fI := evI c it) (fI1 := evI c it1) (fC := evC c ifs) (fC1 := evC c ifs1) (fE := evE c e)
        (ok := (opsOf it).all (fun i => quiets i ifs && quietG i (.cons t1 it1 ifs1 (.elt e)) && quietT i t)) (ok1 := (opsOf it1).all (fun i => quiets i ifs1 && quietG i (.elt e) && quietT i t1)) hy hyl hsw G.calm G.nd (blk_of G h1) (own_snd _)
        (fun i hi => List.mem_append_left _ hi) (fun i hi => List.mem_append_right _ hi) (fun i hi => List.mem_append_left _ hi) (I_ok Γ c XR n it _ _ _ h4 X P W G hP tk)
        (fun s1 H C cl fp => tgt_ok ((bl s1 H C cl fp).io false) (.inl rfl) t _ h5) (fun s1 H C cl fp => Cs_ok Γ c XR n ifs _ _ h6 _ none WF (bl s1 H C cl fp) (.inl rfl) takes0)
        (fun s1 H C cl fp => (E_ok Γ c XR n e _ _ h10 _ none WF (bl s1 H C cl fp) (.inl rfl) takes0).1)
        (fun s1 H C cl fp => I_ok Γ c XR n it1 _ _ _ h7 _ none WF (bl s1 H C cl fp) (.inl rfl) takes0)
        (fun s1 H C cl fp => tgt_ok ((bl s1 H C cl fp).io false) (.inl rfl) t1 _ h8) (fun s1 H C cl fp => Cs_ok Γ c XR n ifs1 _ _ h9 _ none WF (bl s1 H C cl fp) (.inl rfl) takes0)
        (fun hq => by
          have := quiet_step (c := c) (ops := opsOf it) (t := t) (ifs := ifs) (g := .cons t1 it1 ifs1 (.elt e)) (vs := ownT t ++ (ownT t1 ++ [])) (fun i => Iff.rfl) hq
          rw [evG_cons, evG_elt] at this
          exact this)
        (fun hq => by
          have := quiet_step (c := c) (ops := opsOf it1) (t := t1) (ifs := ifs1) (g := .elt e) (vs := ownT t1 ++ []) (fun i => Iff.rfl) hq
          rw [evG_elt] at this
          exact this) (fold_of h2) (fun env => fold_of h3)
    · cases h
  | .comp (.cons t it ifs (.cons t1 it1 ifs1 (.cons _ _ _ _))), s, x, h => fun X P W G hP tk => by
    unfold chkE at h
    cases h
  | .app i a, s, x, h => fun X P W G hP tk => by
    unfold chkE at h
    split at h
    · obtain ⟨h, h5⟩ := and2 h
      obtain ⟨h, h4⟩ := and2 h
      obtain ⟨h, h3⟩ := and2 h
      obtain ⟨h1, h2⟩ := and2 h
      obtain ⟨k1, k2, k3, k4⟩ := nm_of G h2
      exact both rfl rfl (pd_app k1 k2 k3 k4 rfl h3 (of_decide_eq_true h1) (by rw [star_of h4]; rfl) (star_of h4) rfl (E_ok Γ c XR n a _ _ h5 X P W G hP tk).1)
    · cases h
  | .ext i a, s, x, h => fun X P W G hP tk => by
    unfold chkE at h
    split at h
    · obtain ⟨h, h5⟩ := and2 h
      obtain ⟨h, h4⟩ := and2 h
      obtain ⟨h, h3⟩ := and2 h
      obtain ⟨h1, h2⟩ := and2 h
      obtain ⟨k1, k2, k3, k4⟩ := nm_of G h2
      exact both rfl rfl (pd_ext k1 k2 k3 k4 rfl h3 (of_decide_eq_true h1) (by rw [star_of h4]; rfl) (star_of h4) rfl (op_ok G h5 fun z => (E_ok Γ c XR n a _ _ z X P W G hP tk).1))
    · cases h
  | .pop0 i, s, x, h => fun X P W G hP tk => by
    unfold chkE at h
    split at h
    · obtain ⟨h, h3⟩ := and2 h
      obtain ⟨h1, h2⟩ := and2 h
      obtain ⟨k1, k2, k3, k4⟩ := nm_of G h2
      exact both rfl rfl (pd_pop0 k1 k2 k3 k4 rfl h3 (of_decide_eq_true h1))
    · cases h
  | .pop1 i a, s, x, h => fun X P W G hP tk => by
    unfold chkE at h
    split at h
    · obtain ⟨h, h5⟩ := and2 h
      obtain ⟨h, h4⟩ := and2 h
      obtain ⟨h, h3⟩ := and2 h
      obtain ⟨h1, h2⟩ := and2 h
      obtain ⟨k1, k2, k3, k4⟩ := nm_of G h2
      exact both rfl rfl (pd_pop1 k1 k2 k3 k4 rfl h3 (of_decide_eq_true h1) (by rw [star_of h4]; rfl) (star_of h4) rfl (E_ok Γ c XR n a _ _ h5 X P W G hP tk).1)
    · cases h
  | .isin a ts, s, x, h => fun X P W G hP tk => by
    unfold chkE at h
    split at h
    · obtain ⟨h, h6⟩ := and2 h
      obtain ⟨h, h5⟩ := and2 h
      obtain ⟨h, h4⟩ := and2 h
      obtain ⟨h, h3⟩ := and2 h
      obtain ⟨h1, h2⟩ := and2 h
      have e := of_decide_eq_true h1
      subst e
      have e := of_decide_eq_true h5
      subst e
      obtain ⟨g1, g2⟩ := blt_of G h2
      obtain ⟨g3, g4⟩ := blt_of G h6
      exact both rfl rfl (pd_is1 _ g1 g2 g3 g4 (op_ok G h4 fun z => (E_ok Γ c XR n a _ _ z X P W G hP tk).1) (star_of h3) rfl rfl)
    · obtain ⟨h, h6⟩ := and2 h
      obtain ⟨h, h5⟩ := and2 h
      obtain ⟨h, h4⟩ := and2 h
      obtain ⟨h, h3⟩ := and2 h
      obtain ⟨h1, h2⟩ := and2 h
      have e := of_decide_eq_true h1
      subst e
      obtain ⟨g1, g2⟩ := blt_of G h2
      exact both rfl rfl (pd_isT ts (of_decide_eq_true h6) g1 g2 (op_ok G h4 fun z => (E_ok Γ c XR n a _ _ z X P W G hP tk).1) (tys_ok G ts _ h5) (star_of h3) rfl rfl)
    · cases h
  | .mkx y f true a, s, x, h => fun X P W G hP tk => by
    unfold chkE at h
    split at h
    · obtain ⟨h, h6⟩ := and2 h
      obtain ⟨h, h5⟩ := and2 h
      obtain ⟨h, h4⟩ := and2 h
      obtain ⟨h, h3⟩ := and2 h
      obtain ⟨h1, h2⟩ := and2 h
      have e := of_decide_eq_true h1
      subst e
      have e := of_decide_eq_true h4
      subst e
      exact both rfl rfl (pd_mkxk G.room1 (G.xv _ _ (of_decide_eq_true h5)).1 (gl_of G h2) (plain_of h3).1 (E_ok Γ c XR n a _ _ h6 X P W G hP tk).1)
    · cases h
  | .mkx y f false a, s, x, h => fun X P W G hP tk => by
    unfold chkE at h
    split at h
    · obtain ⟨h, h6⟩ := and2 h
      obtain ⟨h, h5⟩ := and2 h
      obtain ⟨h, h4⟩ := and2 h
      obtain ⟨h, h3⟩ := and2 h
      obtain ⟨h1, h2⟩ := and2 h
      have e := of_decide_eq_true h1
      subst e
      exact both rfl rfl (pd_mkx G.room1 (G.xv _ _ (of_decide_eq_true h5)).1 (gl_of G h2) (plain_of h3).1 (E_ok Γ c XR n a _ _ h6 X P W G hP tk).1 (star_of h4))
    · cases h
  | .mk0 y, s, x, h => fun X P W G hP tk => by
    unfold chkE at h
    split at h
    · obtain ⟨h, h4⟩ := and2 h
      obtain ⟨h, h3⟩ := and2 h
      obtain ⟨h1, h2⟩ := and2 h
      have e := of_decide_eq_true h1
      subst e
      exact both rfl rfl (pd_mk0 (G.x0 _ (of_decide_eq_true h4)) (gl_of G h2) (plain_of h3).1)
    · cases h
  | .attr a f tab, s, x, h => fun X P W G hP tk => by
    unfold chkE at h
    split at h
    · obtain ⟨h, h4⟩ := and2 h
      obtain ⟨h, h3⟩ := and2 h
      obtain ⟨h1, h2⟩ := and2 h
      have e := of_decide_eq_true h1
      subst e
      exact both rfl rfl (pd_attr (fun y hy => (G.xv _ _ (of_decide_eq_true (List.all_eq_true.mp h3 y hy))).2) (op_ok G h4 fun z => (E_ok Γ c XR n a _ _ z X P W G hP tk).1) (nsup_ok h2))
    · cases h
  | .isx a cs tab, s, x, h => fun X P W G hP tk => by
    unfold chkE at h
    split at h
    · obtain ⟨h, h7⟩ := and2 h
      obtain ⟨h, h6⟩ := and2 h
      obtain ⟨h, h5⟩ := and2 h
      obtain ⟨h, h4⟩ := and2 h
      obtain ⟨h, h3b⟩ := and2 h
      obtain ⟨h, h3⟩ := and2 h
      obtain ⟨h1, h2⟩ := and2 h
      have e := of_decide_eq_true h1
      subst e
      have e := of_decide_eq_true h3b
      subst e
      obtain ⟨g1, g2⟩ := blt_of G h2
      have hx := fun z hz => G.xis _ _ _ (of_decide_eq_true (List.all_eq_true.mp h5 z hz))
      obtain ⟨z0, hz0⟩ := ne_some h6
      exact both rfl rfl (pd_isx (hx z0 hz0).cl (fun z hz => ⟨(hx z hz).ec, (hx z hz).kit⟩) g1 g2 (gl_of G h4) (op_ok G h7 fun z => (E_ok Γ c XR n a _ _ z X P W G hP tk).1) (star_of h3) rfl rfl)
    · obtain ⟨h, h7⟩ := and2 h
      obtain ⟨h, h6⟩ := and2 h
      obtain ⟨h, h6c⟩ := and2 h
      obtain ⟨h, h6b⟩ := and2 h
      obtain ⟨h, h5⟩ := and2 h
      obtain ⟨h, h4⟩ := and2 h
      obtain ⟨h, h3⟩ := and2 h
      obtain ⟨h1, h2⟩ := and2 h
      have e := of_decide_eq_true h1
      subst e
      obtain ⟨g1, g2⟩ := blt_of G h2
      obtain ⟨z0, hz0⟩ := ne_some h6
      obtain ⟨vs, ws, v1, v2, v3, v4⟩ := clss_ok G hz0 h4
      have hcs : cs ≠ [] := fun q => by subst q; exact absurd h6c (by simp)
      have ec : ∀ z ∈ tab, PySem.W.kitAny X.K (.ref (He.ga X.K z.1)) ws = some z.2 ∧ ExcC X.K (He.ga X.K z.1) := fun z hz => by
        have := v4 z hz
        have e : z.2 = false := by simpa using List.all_eq_true.mp h5 z hz
        rw [e]
        exact ⟨this.1, this.2 hcs⟩
      exact both rfl rfl (pd_isxT (by rw [v1]; exact of_decide_eq_true h6b) v2 v3 (fun z hz => ⟨(ec z hz).2, (ec z hz).1⟩) g1 g2 (op_ok G h7 fun z => (E_ok Γ c XR n a _ _ z X P W G hP tk).1) (star_of h3) rfl rfl)
    · cases h
theorem Es_ok (Γ : Gm) (c : Calls) (XR : XRel) (n : Nat) : ∀ (es : Es) (s : Sc) (xs : List Expr), chkEs Γ es s xs = true → ∀ (X : Cx) (P : Option V) (W : WX), Good Γ c XR n s X → (P = none ∨ Γ.io = true) → Takes X W → PAd X P XR W xs (evEs c es)
  | .nil, s, xs, h => fun X P W G hP tk => by
    unfold chkEs at h
    split at h
    · exact pa_nild
    · cases h
  | .cons st e es, s, xs, h => fun X P W G hP tk => by
    unfold chkEs at h
    split at h
    · obtain ⟨h1, h2⟩ := and2 h
      have kr := Es_ok Γ c XR n es _ _ h2 X P W G hP tk
      cases st with
      | true =>
        rw [if_pos rfl] at h1
        split at h1
        · exact pa_stard rfl (E_ok Γ c XR n e _ _ h1 X P W G hP tk).1 kr
        · cases h1
      | false =>
        rw [if_neg Bool.false_ne_true] at h1
        obtain ⟨h3, h4⟩ := and2 h1
        exact pa_consd (star_of h3) (E_ok Γ c XR n e _ _ h4 X P W G hP tk).1 kr
    · cases h
theorem Ks_ok (Γ : Gm) (c : Calls) (XR : XRel) (n : Nat) : ∀ (es : Es) (s : Sc) (kws : List Keyword), plainEs es = true → chkEs Γ es s (kws.map (·.value)) = true → ∀ (X : Cx) (P : Option V) (W : WX), Good Γ c XR n s X → (P = none ∨ Γ.io = true) → Takes X W → PKd X P XR W kws (evEs c es)
  | .nil, s, [], _, h => fun X P W G hP tk => pk_nild
  | .nil, s, k :: r, _, h => by cases h
  | .cons st e es, s, [], _, h => by cases h
  | .cons st e es, s, ⟨a, v, kp⟩ :: r, hp, h => fun X P W G hP tk => by
    obtain ⟨h1, h2⟩ := and2 h
    obtain ⟨p1, p2⟩ := and2 (show (!st && plainEs es) = true from hp)
    cases st with
    | true => cases p1
    | false =>
      obtain ⟨h3, h4⟩ := and2 h1
      exact pk_consd (E_ok Γ c XR n e _ _ h4 X P W G hP tk).1 (Ks_ok Γ c XR n es _ r p2 h2 X P W G hP tk)
theorem Os_ok (Γ : Gm) (c : Calls) (XR : XRel) (n : Nat) : ∀ (es : Es) (s : Sc) (xs : List Expr), chkOs Γ es s xs = true → ∀ (X : Cx) (P : Option V) (W : WX), Good Γ c XR n s X → (P = none ∨ Γ.io = true) → Takes X W → POs X P XR W xs (evOs c es)
  | .nil, s, xs, h => fun X P W G hP tk => by
    unfold chkOs at h
    split at h
    · exact po_nil
    · cases h
  | .cons st e es, s, xs, h => fun X P W G hP tk => by
    unfold chkOs at h
    split at h
    · obtain ⟨h, h4⟩ := and2 h
      obtain ⟨h, h3⟩ := and2 h
      obtain ⟨h1, h2⟩ := and2 h
      cases st with
      | true => cases h1
      | false => exact po_cons (star_of h2) (op_ok G h3 fun z => (E_ok Γ c XR n e _ _ z X P W G hP tk).1) (Os_ok Γ c XR n es _ _ h4 X P W G hP tk)
    · cases h
theorem I_ok (Γ : Gm) (c : Calls) (XR : XRel) (n : Nat) : ∀ (it : It) (s : Sc) (tg x : Expr), chkI Γ it s tg x = true → ∀ (X : Cx) (P : Option V) (W : WX), Good Γ c XR n s X → (P = none ∨ Γ.io = true) → Takes X W → PId X P XR W tg x (opsOf it) (evI c it)
  | .of a, s, tg, x, h => fun X P W G hP tk => by
    unfold chkI at h
    exact pid_of (ops_in fun i hi => by subst hi; exact List.mem_cons_self) (op_ok G h fun z => (E_ok Γ c XR n a _ _ z X P W G hP tk).1)
  | .zip a b, s, tg, x, h => fun X P W G hP tk => by
    unfold chkI at h
    split at h
    · obtain ⟨h, h6⟩ := and2 h
      obtain ⟨h, h5⟩ := and2 h
      obtain ⟨h, h4⟩ := and2 h
      obtain ⟨h, h3⟩ := and2 h
      obtain ⟨h1, h2⟩ := and2 h
      have e := of_decide_eq_true h1
      subst e
      obtain ⟨g1, g2⟩ := blt_of G h2
      refine pid_zip g1 g2 (ops_in fun i hi => ?_) (ops_in fun i hi => ?_) (op_ok G h5 fun z => (E_ok Γ c XR n a _ _ z X P W G hP tk).1) (op_ok G h6 fun z => (E_ok Γ c XR n b _ _ z X P W G hP tk).1) (star_of h3) (star_of h4) (plain_args (by show (nstar _ && true) = true; rw [h4]; rfl))
      · subst hi; cases b <;> exact List.mem_cons_self
      · subst hi
        cases a <;> first | exact List.mem_cons_self | exact List.mem_cons_of_mem _ List.mem_cons_self
    · cases h
  | .enum a, s, tg, x, h => fun X P W G hP tk => by
    unfold chkI at h
    split at h
    · obtain ⟨h, h4⟩ := and2 h
      obtain ⟨h, h3⟩ := and2 h
      obtain ⟨h1, h2⟩ := and2 h
      have e := of_decide_eq_true h1
      subst e
      obtain ⟨g1, g2⟩ := blt_of G h2
      exact pid_enum g1 g2 (ops_in fun i hi => by subst hi; exact List.mem_cons_self) (op_ok G h4 fun z => (E_ok Γ c XR n a _ _ z X P W G hP tk).1) (star_of h3) (star_of h3)
    · cases h
  | .rng a, s, tg, x, h => fun X P W G hP tk => by
    unfold chkI at h
    split at h
    · obtain ⟨h, h4⟩ := and2 h
      obtain ⟨h, h3⟩ := and2 h
      obtain ⟨h1, h2⟩ := and2 h
      have e := of_decide_eq_true h1
      subst e
      obtain ⟨g1, g2⟩ := blt_of G h2
      exact pid_rng g1 g2 (E_ok Γ c XR n a _ _ h4 X P W G hP tk).1 (star_of h3) (star_of h3)
    · cases h
  | .rng2 a b, s, tg, x, h => fun X P W G hP tk => by
    unfold chkI at h
    split at h
    · obtain ⟨h, h6⟩ := and2 h
      obtain ⟨h, h5⟩ := and2 h
      obtain ⟨h, h4⟩ := and2 h
      obtain ⟨h, h3⟩ := and2 h
      obtain ⟨h1, h2⟩ := and2 h
      have e := of_decide_eq_true h1
      subst e
      obtain ⟨g1, g2⟩ := blt_of G h2
      exact pid_rng2 g1 g2 (E_ok Γ c XR n a _ _ h5 X P W G hP tk).1 (E_ok Γ c XR n b _ _ h6 X P W G hP tk).1 (star_of h3) (star_of h4) (by rw [star_of h3, star_of h4]; rfl) (star_of h4)
    · cases h
theorem Cs_ok (Γ : Gm) (c : Calls) (XR : XRel) (n : Nat) : ∀ (es : Es) (s : Sc) (xs : List Expr), chkCs Γ es s xs = true → ∀ (X : Cx) (P : Option V) (W : WX), Good Γ c XR n s X → (P = none ∨ Γ.io = true) → Takes X W → PTsd X P XR W xs (evC c es)
  | .nil, s, xs, h => fun X P W G hP tk => by
    unfold chkCs at h
    split at h
    · exact ptsd_nil
    · cases h
  | .cons st e .nil, s, xs, h => fun X P W G hP tk => by
    unfold chkCs at h
    split at h
    · exact ptsd_one (ts_ok G h fun z => (E_ok Γ c XR n e _ _ z X P W G hP tk).2.1)
    · cases h
  | .cons st e (.cons _ _ _), s, xs, h => fun X P W G hP tk => by
    unfold chkCs at h
    cases h
end
end Dl
end
section
set_option linter.all false
set_option maxRecDepth 100000
set_option maxHeartbeats 4000000
/-! DlTry3: clauses as data. -/
namespace Dl
open PySem PySem.Spec PyProof.Rows L2
/-- what a class of errors must say so that it can be caught: k its id, fld its field, bs the classes above it -/
structure CatOk (X : Cx) (XR : XRel) (k : Nat) (x : Str) (C : Addr) (fld : Option Str) (bs : List Str) : Prop where
  gl : X.mg x = some (.ref C)
  exm : ∀ F H cls d c xs, XR F H cls d c xs → PySem.W.exmOne X.K cls (.ref C) = some (Nat.beq k c)
  cl : ∀ F H cls d xs, XR F H cls d k xs → cls = .ref C ∧ (∀ f, fld = some f → ∃ dd v y, d = some dd ∧ xs = [y] ∧ H dd = some (.xd [(f, v)]) ∧ Dq X.K F v y ∧ F dd = some (.xd [(f, v)])) ∧ ∀ dd, d = some dd → ∃ fs, H dd = some (.xd fs)
  xf : ∀ f, fld = some f → XfC X.K C ∧ PySem.W.findIn X.K (.ref C) f = some none
  ec : ExcC X.K C
  is : ∀ b ∈ bs, b ≠ "__name__" ∧ (b == ("__debug__" : Str)) = false ∧ ∃ T, bootBuiltins b = some (.type T) ∧ PySem.W.kitOne X.K (.ref C) (.type T) = some true
section
variable {X : Cx} {P : Option V} {XR : XRel} {W : WX}
/-- the items of a clause's list -/
inductive ItOk (X : Cx) (sl : Option (Nat × Str)) (fld : Option Str) (bs : List Str) : List Expr → List HI → Prop
  | nil : ItOk X sl fld bs [] []
  | lit {d : D} {c : Const} {j : Nat} {p : Pos} {es : List Expr} {hs : List HI} : litB d c = true → ItOk X sl fld bs es hs → ItOk X sl fld bs (.Constant c j p :: es) (.lit d :: hs)
  | fld {i : Nat} {n f : Str} {p p2 : Pos} {es : List Expr} {hs : List HI} : sl = some (i, n) → fld = some f → ItOk X sl fld bs es hs → ItOk X sl fld bs (.Attribute (.Name n p) f p2 :: es) (.fld :: hs)
  | is {i : Nat} {n b : Str} {p p2 p3 pos : Pos} {es : List Expr} {hs : List HI} : sl = some (i, n) → b ∈ bs → Gl X b → X.mg b = none → Gl X "isinstance" → X.mg "isinstance" = none → ItOk X sl fld bs es hs → ItOk X sl fld bs (.Call (.Name "isinstance" p) [.Name n p2, .Name b p3] [] pos :: es) (.is :: hs)
/-- what is known of the error while its suite runs -/
structure ErrAt (X : Cx) (fld : Option Str) (C a : Addr) (sl : Option Nat) (cls : Value) (d : Option Addr) (F : Hp) (σ : L2.St) (H : Hp) (xs : List D) : Prop where
  sl : ∀ i, sl = some i → i < σ.length → σ[i]? = some (some (.ref a))
  cls : cls = .ref C
  fld : ∀ f, fld = some f → ∃ dd v y, d = some dd ∧ xs = [y] ∧ H dd = some (.xd [(f, v)]) ∧ Dq X.K F v y ∧ F dd = some (.xd [(f, v)])
  own : ∀ dd, d = some dd → ∃ fs, H dd = some (.xd fs)
  na : H a = none
theorem PA.impL {X : Cx} {e : List Expr} {t t' : TA} (h : PA X e t) (i : ∀ σ H Q, σ.length = X.N.length → t' σ H Q → t σ H Q) : PA X e t' := ⟨fun pos pins s σ H Q I q => h.run pos pins s σ H Q I (i σ H Q I.len q)⟩
def tIts (X : Cx) (fld : Option Str) (C a : Addr) (sl : Option Nat) (cls : Value) (d : Option Addr) (hs : List HI) : TA := fun σ H Q => ∃ F xs ds, ErrAt X fld C a sl cls d F σ H xs ∧ hvals xs hs = some ds ∧ ∀ vs, DqAll X.K F vs ds → Q vs H
theorem pe_lit {d : D} {c : Const} {j : Nat} {p : Pos} (h : litB d c = true) : ∃ v, (∀ (K : PySem.W.Frag) (F : Hp), Dq K F v d) ∧ ∀ X : Cx, PE X (.Constant c j p) (tC v) := by
  unfold litB at h
  split at h
  · exact ⟨.non, fun _ _ => .non, fun X => pe_non⟩
  · rename_i b b'
    have e : b = b' := by simpa using h
    subst e
    exact ⟨.bl b, fun _ _ => .bl b, fun X => pe_bl⟩
  · have e := of_decide_eq_true h
    subst e
    exact ⟨.int _, fun _ _ => .int _, fun X => pe_int⟩
  · have e := of_decide_eq_true h
    subst e
    exact ⟨.str _, fun _ _ => .str _, fun X => pe_str⟩
  · cases h
theorem pa_its {k : Nat} {x : Str} {C a : Addr} {fld : Option Str} {bs : List Str} {sl : Option (Nat × Str)} {oe : Obj} {cls : Value} {d : Option Addr} {pn : List (Addr × Obj)} (T : CatOk X XR k x C fld bs) (hz : Zc cls d oe) (hf : ∃ vs, oe.data = .fields vs)
    (hn : ∀ i n, sl = some (i, n) → X.N[i]? = some n ∧ Vis X.env.scope n ∧ (n == ("__debug__" : Str)) = false ∧ (n == ("__classdict__" : Str)) = false ∧ ∀ m, attributeBase (.Name n m) "" X.env (eval (.Name n m) X.env) = eval (.Name n m) X.env) :
    ∀ {es : List Expr} {hs : List HI}, ItOk X sl fld bs es hs → PA (X.suite a ((a, oe) :: pn)) es (tIts X fld C a (sl.map (·.1)) cls d hs)
  | _, _, .nil => PA.imp pa_nil fun σ H Q ⟨F, xs, ds, E, e, q⟩ => by cases e; exact q [] .nil
  | _, _, .lit hl r => by
    obtain ⟨v, hv, pe⟩ := pe_lit hl
    refine PA.imp (pa_cons (pe _) (pa_its T hz hf hn r) rfl) fun σ H Q ⟨F, xs, ds, E, e, q⟩ => ?_
    obtain ⟨y, e1, e2⟩ := Option.bind_eq_some_iff.mp e
    obtain ⟨ys, e3, e4⟩ := Option.map_eq_some_iff.mp e2
    cases e1
    subst e4
    exact ⟨F, xs, ys, E, e3, fun vs h => q (v :: vs) (.cons (hv _ _) h)⟩
  | _, _, .fld (i := i) (n := n) (f := f) hs hfl r => by
    obtain ⟨n1, n2, n3, n4, n5⟩ := hn i n hs
    obtain ⟨xf, no⟩ := T.xf f hfl
    refine PA.impL (pa_cons (pe_xf xf no hz hf (pe_var (i := i) n1 n2 n3 n4) rfl) (pa_its T hz hf hn r) rfl) fun σ H Q len ⟨F, xs, ds, E, e, q⟩ => ?_
    have hi : i < σ.length := by rw [len]; exact (List.getElem?_eq_some_iff.mp n1).1
    obtain ⟨y, e1, e2⟩ := Option.bind_eq_some_iff.mp e
    obtain ⟨ys, e3, e4⟩ := Option.map_eq_some_iff.mp e2
    subst e4
    obtain ⟨dd, v, y', d1, d2, d3, d4, _⟩ := E.fld f hfl
    subst d2
    cases e1
    refine ⟨.ref a, E.sl i (by rw [hs]; rfl) hi, rfl, E.cls, dd, _, v, d1, d3, by simp [List.lookup], F, [y], ys, E, e3, fun vs h => q (v :: vs) (.cons d4 h)⟩
  | _, _, .is (i := i) (n := n) (b := b) hs hb gb mb gi mi r => by
    obtain ⟨n1, n2, n3, n4, n5⟩ := hn i n hs
    obtain ⟨b1, b2, T', b3, b4⟩ := T.is b hb
    have boot : bootBuiltins ("isinstance" : Str) = some (.builtin "isinstance") := by decide +kernel
    by_cases hc : cls = .ref C
    · subst hc
      refine PA.impL (pa_cons (pe_callB (call_isD T.ec hz hf) gi mi boot (pa_cons (pe_var (i := i) n1 n2 n3 n4) (pa_cons (pe_bltn gb mb b3 (v := .ty T') rfl b1 b2) pa_nil rfl) rfl) (by decide) (by decide) rfl rfl) (pa_its T hz hf hn r) rfl) fun σ H Q len ⟨F, xs, ds, E, e, q⟩ => ?_
      have hi : i < σ.length := by rw [len]; exact (List.getElem?_eq_some_iff.mp n1).1
      obtain ⟨y, e1, e2⟩ := Option.bind_eq_some_iff.mp e
      obtain ⟨ys, e3, e4⟩ := Option.map_eq_some_iff.mp e2
      cases e1
      subst e4
      refine ⟨.ref a, E.sl i (by rw [hs]; rfl) hi, .ty T', .type T', true, rfl, fun u h => h, b4, E.own, F, xs, ys, E, e3, fun vs h => q (.bl true :: vs) (.cons (.bl true) h)⟩
    · refine ⟨fun pos pins s σ H Q I h => ?_⟩
      obtain ⟨F, xs, ds, E, _⟩ := h
      exact absurd E.cls hc
end
end Dl
end
section
set_option linter.all false
set_option maxRecDepth 100000
set_option maxHeartbeats 4000000
/-! DlTry4: the rule of try. -/
namespace Dl
open PySem PySem.Spec PyProof.Rows L2
section
variable {K : PySem.W.Frag} {P : Option V} {XR : XRel} {W : WX} {F F0 H H0 : Hp} {ρ ρ0 : Env} {σ σ0 : L2.St} {D : Ends}
/-- a slot of which nothing more is said -/
theorem Ok.unput {i : Nat} (o : Ok K P F ρ σ H) (σ' : L2.St) (hl : σ'.length = σ.length) (ho : ∀ j, j ≠ i → σ'[j]? = σ[j]?) (hp : P = none ∨ 0 ≠ i) : Ok K P F (setSl ρ i .un) σ' H ∧ Step F ρ σ H F (setSl ρ i .un) σ' H := by
  have back : ∀ (j : Nat) (s : Sl), (setSl ρ i .un)[j]? = some s → s ≠ .un → j ≠ i ∧ ρ[j]? = some s := fun j s q hs => by
    unfold setSl at q
    by_cases hj : i = j
    · subst hj
      rw [List.getElem?_set, if_pos rfl] at q
      split at q
      · cases q; exact absurd rfl hs
      · cases q
    · rw [List.getElem?_set_ne hj] at q
      exact ⟨Ne.symm hj, q⟩
  have own' : ∀ a, OwnAt (setSl ρ i .un) σ' a → OwnAt ρ σ a := fun a ⟨j, xs, q1, q2⟩ => by
    obtain ⟨hj, q⟩ := back j _ q1 (fun z => nomatch z)
    exact ⟨j, xs, q, by rw [← ho j hj]; exact q2⟩
  refine ⟨⟨o.sub, ?_, fun j d q => ?_, fun j xs q => ?_, fun j k xs ys a q1 q2 s1 s2 => ?_, fun v hv => ?_⟩, ⟨Same.refl _, fun _ _ h _ => h, fun _ h => .inl h, fun a h => .inl (own' a h), fun _ h => h⟩⟩
  · unfold setSl; rw [List.length_set, hl]; exact o.len
  · obtain ⟨hj, q⟩ := back j _ q (fun z => nomatch z)
    obtain ⟨v, h1, h2⟩ := o.fr j d q
    exact ⟨v, by rw [ho j hj]; exact h1, h2⟩
  · obtain ⟨hj, q⟩ := back j _ q (fun z => nomatch z)
    obtain ⟨a, vs, h1, h2⟩ := o.ow j xs q
    exact ⟨a, vs, by rw [ho j hj]; exact h1, h2⟩
  · obtain ⟨hj, q1⟩ := back j _ q1 (fun z => nomatch z)
    obtain ⟨hk, q2⟩ := back k _ q2 (fun z => nomatch z)
    exact o.inj j k xs ys a q1 q2 (by rw [← ho j hj]; exact s1) (by rw [← ho k hk]; exact s2)
  · rcases hp with z | z
    · rw [z] at hv; cases hv
    · rw [ho 0 z]; exact o.pin v hv
def slP (P : Option V) (sl : Option Nat) : Prop := ∀ i, sl = some i → P = none ∨ 0 ≠ i
/-- the error goes to its slot -/
theorem Ok.named {sl : Option Nat} {a : Addr} (o : Ok K P F ρ σ H) (hp : slP P sl) : Ok K P F (clrE sl ρ) (slOf sl a σ) H ∧ Step F ρ σ H F (clrE sl ρ) (slOf sl a σ) H := by
  cases sl with
  | none => exact ⟨o, Step.refl⟩
  | some i => exact o.unput _ (by show (σ.set i _).length = _; rw [List.length_set]) (fun j hj => by show (σ.set i _)[j]? = _; rw [List.getElem?_set_ne (Ne.symm hj)]) (hp i rfl)
/-- the outcome of a suite, ahead of its name's end -/
def suiteO (k : HK) (xs : List _root_.Dl.D) (ρ : Env) : Out := match k with
  | .set i his => optOut (hvals xs his) fun ds => if fits ds.length then .next (setSl ρ i (.fr (.list ds))) else .stuck
  | .setL i d => .next (setSl ρ i (.fr d))
  | .ret his => optOut (hvals xs his) fun ds => if fits ds.length then .ret (.fr (.list ds)) ρ else .stuck
  | .retL d => .ret (.fr d) ρ
  | .setx i x f => optOut xs.head? fun d => .next (setSl ρ i (.fr (excD x f d)))
/-- the error is tracked behind the suite -/
def upX (a : Addr) (cls : Value) (d : Option Addr) (D : Ends) : Ends := { nx := fun σ' H'' => ∀ H', H' a = none → H'' = upd H' a (ExX cls d a) → D.nx σ' H', rt := D.rt, bk := D.bk, ct := D.ct }
def endK (k : HK) (a : Addr) (cls : Value) (d : Option Addr) (D : Ends) : Ends := match k with
  | .setx _ _ _ => upX a cls d D
  | _ => D
theorem next_end {sl : Option Nat} {a : Addr} {cls : Value} {dd : Option Addr} {ρ2 : Env} (hp : slP P sl) (q : FinS K P XR W F0 ρ0 H0 σ0 (.next (clrE sl ρ2)) D) : FinS K P XR W F0 ρ0 H0 σ0 (.next ρ2) (endOf sl a cls dd D) := fun F' σ' H' o s => by
  cases sl with
  | none => exact q F' σ' H' o s
  | some i =>
    obtain ⟨o', s'⟩ := o.unput (i := i) (σ'.set i none) (by rw [List.length_set]) (fun j hj => by rw [List.getElem?_set_ne (Ne.symm hj)]) (hp i rfl)
    exact .inl (q F' _ H' o' (s.trans s'))
theorem ret_end {sl : Option Nat} {a : Addr} {cls : Value} {dd : Option Addr} {ρ2 : Env} {d : _root_.Dl.D} (hp : slP P sl) (q : FinS K P XR W F0 ρ0 H0 σ0 (.ret (.fr d) (clrE sl ρ2)) D) : FinS K P XR W F0 ρ0 H0 σ0 (.ret (.fr d) ρ2) (endOf sl a cls dd D) := fun u F' σ' H' o s r => by
  cases sl with
  | none => exact q u F' σ' H' o s r
  | some i =>
    obtain ⟨o', s'⟩ := o.unput (i := i) σ' rfl (fun j hj => rfl) (hp i rfl)
    exact q u F' σ' H' o' (s.trans s') r
theorem hand_end {a : Addr} {cls : Value} {dd : Option Addr} {h : Hd} {xs : List _root_.Dl.D} (hp : slP P h.sl) (q : FinS K P XR W F0 ρ0 H0 σ0 (handD h xs ρ) D) : FinS K P XR W F0 ρ0 H0 σ0 (suiteO h.k xs (clrE h.sl ρ)) (endK h.k a cls dd (endOf h.sl a cls dd D)) := by
  obtain ⟨c, sl, k⟩ := h
  cases k with
  | set i his =>
    obtain ⟨ds, e, q⟩ := FinS.opt (show FinS K P XR W F0 ρ0 H0 σ0 (optOut (hvals xs his) fun ds => if fits ds.length then .next (clrE sl (setSl (clrE sl ρ) i (.fr (.list ds)))) else .stuck) D from q)
    show FinS K P XR W F0 ρ0 H0 σ0 (optOut (hvals xs his) fun ds => if fits ds.length then .next (setSl (clrE sl ρ) i (.fr (.list ds))) else .stuck) (endOf sl a cls dd D)
    rw [e]
    show FinS K P XR W F0 ρ0 H0 σ0 (if fits ds.length then .next (setSl (clrE sl ρ) i (.fr (.list ds))) else .stuck) (endOf sl a cls dd D)
    have q : FinS K P XR W F0 ρ0 H0 σ0 (if fits ds.length then .next (clrE sl (setSl (clrE sl ρ) i (.fr (.list ds)))) else .stuck) D := q
    cases hf : fits ds.length with
    | true => rw [hf] at q; exact next_end hp q
    | false => rw [hf] at q; exact q.elim
  | setL i d => exact next_end (ρ2 := setSl (clrE sl ρ) i (.fr d)) hp q
  | ret his =>
    obtain ⟨ds, e, q⟩ := FinS.opt (show FinS K P XR W F0 ρ0 H0 σ0 (optOut (hvals xs his) fun ds => if fits ds.length then .ret (.fr (.list ds)) (clrE sl ρ) else .stuck) D from q)
    show FinS K P XR W F0 ρ0 H0 σ0 (optOut (hvals xs his) fun ds => if fits ds.length then .ret (.fr (.list ds)) (clrE sl ρ) else .stuck) (endOf sl a cls dd D)
    rw [e]
    show FinS K P XR W F0 ρ0 H0 σ0 (if fits ds.length then .ret (.fr (.list ds)) (clrE sl ρ) else .stuck) (endOf sl a cls dd D)
    have q : FinS K P XR W F0 ρ0 H0 σ0 (if fits ds.length then .ret (.fr (.list ds)) (clrE sl ρ) else .stuck) D := q
    have two : clrE sl (clrE sl ρ) = clrE sl ρ := by
      cases sl with
      | none => rfl
      | some j => show setSl (setSl ρ j .un) j .un = setSl ρ j .un; unfold setSl; rw [List.set_set]
    cases hf : fits ds.length with
    | true => rw [hf] at q; exact ret_end (ρ2 := clrE sl ρ) hp (by rw [two]; exact q)
    | false => rw [hf] at q; exact q.elim
  | retL d =>
    have two : clrE sl (clrE sl ρ) = clrE sl ρ := by
      cases sl with
      | none => rfl
      | some j => show setSl (setSl ρ j .un) j .un = setSl ρ j .un; unfold setSl; rw [List.set_set]
    exact ret_end (ρ2 := clrE sl ρ) hp (by rw [two]; exact q)
  | setx i x f =>
    cases sl with
    | none => exact q.elim
    | some j =>
      obtain ⟨d, e, q⟩ := FinS.opt (show FinS K P XR W F0 ρ0 H0 σ0 (optOut xs.head? fun d => .next (clrE (some j) (setSl (clrE (some j) ρ) i (.fr (excD x f d))))) D from q)
      show FinS K P XR W F0 ρ0 H0 σ0 (optOut xs.head? fun d => .next (setSl (clrE (some j) ρ) i (.fr (excD x f d)))) _
      rw [e]
      intro F' σ' H'' o s H' na he
      obtain ⟨o', s'⟩ := o.unput (i := j) (σ'.set j none) (by rw [List.length_set]) (fun l hl => by rw [List.getElem?_set_ne (Ne.symm hl)]) (hp j rfl)
      refine .inr ?_
      rw [← he]
      exact q F' _ H'' o' (s.trans s')
end
theorem suite_nox {K : PySem.W.Frag} {P : Option V} {XR : XRel} {W W' : WX} {F0 H0 : Hp} {ρ0 ρ : Env} {σ0 : L2.St} {D : Ends} {k : HK} {xs : List _root_.Dl.D} (q : FinS K P XR W F0 ρ0 H0 σ0 (suiteO k xs ρ) D) : FinS K P XR W' F0 ρ0 H0 σ0 (suiteO k xs ρ) D := by
  cases k with
  | set i his =>
    obtain ⟨ds, e, q1⟩ := FinS.opt q
    show FinS K P XR W' F0 ρ0 H0 σ0 (optOut (hvals xs his) _) D
    rw [e]
    show FinS K P XR W' F0 ρ0 H0 σ0 (if fits ds.length then .next (setSl ρ i (.fr (.list ds))) else .stuck) D
    cases hf : fits ds.length with
    | true => rw [hf] at q1; exact q1
    | false => rw [hf] at q1; exact q1.elim
  | setL i d => exact q
  | ret his =>
    obtain ⟨ds, e, q1⟩ := FinS.opt q
    show FinS K P XR W' F0 ρ0 H0 σ0 (optOut (hvals xs his) _) D
    rw [e]
    show FinS K P XR W' F0 ρ0 H0 σ0 (if fits ds.length then .ret (.fr (.list ds)) ρ else .stuck) D
    cases hf : fits ds.length with
    | true => rw [hf] at q1; exact q1
    | false => rw [hf] at q1; exact q1.elim
  | retL d => exact q
  | setx i x f =>
    obtain ⟨d, e, q1⟩ := FinS.opt q
    show FinS K P XR W' F0 ρ0 H0 σ0 (optOut xs.head? _) D
    rw [e]
    exact q1
/-- a suite's one statement -/
inductive SuOk (X : Cx) (P : Option V) (cn : Str) (sl : Option (Nat × Str)) (fld : Option Str) (bs : List Str) : Stmt → HK → Prop
  | set {i : Nat} {y : Str} {py lp sp : Pos} {es : List Expr} {his : List HI} : X.N[i]? = some y → Loc X.env.scope y → (X.fn y = true ∨ X.env.scope.names.lookup y = some .local) → (P = none ∨ 0 ≠ i) → ItOk X sl fld bs es his → SuOk X P cn sl fld bs (.Assign [.Name y py] (.List es lp) sp) (.set i his)
  | setL {i : Nat} {y : Str} {py p sp : Pos} {c : Const} {j : Nat} {d : D} : X.N[i]? = some y → Loc X.env.scope y → (X.fn y = true ∨ X.env.scope.names.lookup y = some .local) → (P = none ∨ 0 ≠ i) → litB d c = true → SuOk X P cn sl fld bs (.Assign [.Name y py] (.Constant c j p) sp) (.setL i d)
  | ret {lp sp : Pos} {es : List Expr} {his : List HI} : ItOk X sl fld bs es his → SuOk X P cn sl fld bs (.Return (some (.List es lp)) sp) (.ret his)
  | retL {p sp : Pos} {c : Const} {j : Nat} {d : D} : litB d c = true → SuOk X P cn sl fld bs (.Return (some (.Constant c j p)) sp) (.retL d)
  | setx {i j : Nat} {y n f : Str} {py p sp : Pos} : X.N[i]? = some y → Loc X.env.scope y → (X.fn y = true ∨ X.env.scope.names.lookup y = some .local) → (P = none ∨ 0 ≠ i) → sl = some (j, n) → fld = some f → X.mg cn = some (.ref (He.ga X.K cn)) → SuOk X P cn sl fld bs (.Assign [.Name y py] (.Name n p) sp) (.setx i cn f)
section
variable {X : Cx} {P : Option V} {XR : XRel} {W : WX}
def tSu (X : Cx) (P : Option V) (XR : XRel) (k : HK) (fld : Option Str) (C : Addr) (sl : Option Nat) (a : Addr) (cls : Value) (d : Option Addr) : TS := fun D σ H => ∃ F ρ xs, Ok X.K P F ρ σ H ∧ ErrAt X fld C a sl cls d F σ H xs ∧ FinS X.K P XR (fun _ _ _ _ => False) F ρ H σ (suiteO k xs ρ) (endK k a cls d D)
theorem lst_laid {K : PySem.W.Frag} {F H : Hp} {ρ : Env} {σ : L2.St} {vs : List V} {ds : List D} {p : Addr} (ok : Ok K P F ρ σ H) (hp : H p = none) (hv : DqAll K F vs ds) : ∃ F', Ok K P F' ρ σ (upd H p (.lst vs)) ∧ Step F ρ σ H F' ρ σ (upd H p (.lst vs)) ∧ Dq K F' (.ref p) (.list ds) := by
  obtain ⟨o1, s1, eF, _⟩ := ok.laid (u := .lst vs) hp
  exact ⟨_, o1, s1, .lst (.inl (.inl upd_same)) (DqAll.ext eF hv)⟩
theorem PSs.impL {X : Cx} {ss : List Stmt} {t t' : TS} (h : PSs X ss t) (i : ∀ D σ H, σ.length = X.N.length → t' D σ H → t D σ H) : PSs X ss t' := ⟨fun pins s σ H D I q => h.run pins s σ H D I (i D σ H I.len q)⟩
theorem suite_ok {k : Nat} {x : Str} {C a : Addr} {fld : Option Str} {bs : List Str} {sl : Option (Nat × Str)} {oe : Obj} {cls : Value} {d : Option Addr} {pn : List (Addr × Obj)} {st : Stmt} {hk : HK} (nd : X.N.Nodup) (T : CatOk X XR k x C fld bs) (hz : Zc cls d oe) (hf : ∃ vs, oe.data = .fields vs)
    (hn : ∀ i n, sl = some (i, n) → X.N[i]? = some n ∧ Vis X.env.scope n ∧ (n == ("__debug__" : Str)) = false ∧ (n == ("__classdict__" : Str)) = false ∧ ∀ m, attributeBase (.Name n m) "" X.env (eval (.Name n m) X.env) = eval (.Name n m) X.env) (hs : SuOk X P x sl fld bs st hk) :
    PSs (X.suite a ((a, oe) :: pn)) [st] (tSu X P XR hk fld C (sl.map (·.1)) a cls d) := by
  cases hs with
  | set h1 h2 h3 h4 it =>
    refine PSs.imp (pss_one (ps_set (X := X.suite a ((a, oe) :: pn)) nd h1 h2 (pe_lst (pa_its T hz hf hn it)) rfl h3)) fun D σ H ⟨F, ρ, xs, ok, E, q⟩ => ?_
    obtain ⟨ds, e, q⟩ := FinS.opt q
    refine ⟨F, xs, ds, E, e, fun vs hv => ?_⟩
    cases hfit : fits ds.length with
    | false => rw [hfit] at q; exact q.elim
    | true =>
      rw [hfit] at q
      refine ⟨by rw [hv.length]; exact fits_le hfit, fun p hp => ?_⟩
      obtain ⟨F1, o1, s1, dl⟩ := lst_laid ok hp hv
      obtain ⟨o2, s2⟩ := o1.put (i := _) dl h4
      exact q F1 _ _ o2 (s1.trans s2)
  | setL h1 h2 h3 h4 hl =>
    obtain ⟨v, hv, pe⟩ := pe_lit hl
    refine PSs.imp (pss_one (ps_set (X := X.suite a ((a, oe) :: pn)) nd h1 h2 (pe _) rfl h3)) fun D σ H ⟨F, ρ, xs, ok, E, q⟩ => ?_
    obtain ⟨o2, s2⟩ := ok.put (i := _) (hv X.K F) h4
    exact q F _ _ o2 s2
  | ret it =>
    refine PSs.imp (pss_one (ps_ret (X := X.suite a ((a, oe) :: pn)) (pe_lst (pa_its T hz hf hn it)))) fun D σ H ⟨F, ρ, xs, ok, E, q⟩ => ?_
    obtain ⟨ds, e, q⟩ := FinS.opt q
    refine ⟨F, xs, ds, E, e, fun vs hv => ?_⟩
    cases hfit : fits ds.length with
    | false => rw [hfit] at q; exact q.elim
    | true =>
      rw [hfit] at q
      refine ⟨by rw [hv.length]; exact fits_le hfit, fun p hp => ?_⟩
      obtain ⟨F1, o1, s1, dl⟩ := lst_laid ok hp hv
      exact q _ F1 _ _ o1 s1 dl
  | retL hl =>
    obtain ⟨v, hv, pe⟩ := pe_lit hl
    exact PSs.imp (pss_one (ps_ret (X := X.suite a ((a, oe) :: pn)) (pe _))) fun D σ H ⟨F, ρ, xs, ok, E, q⟩ => q _ F _ _ ok Step.refl (hv X.K F)
  | setx h1 h2 h3 h4 h5 h6 h7 =>
    obtain ⟨n1, n2, n3, n4, n5⟩ := hn _ _ h5
    refine PSs.impL (pss_one (ps_set (X := X.suite a ((a, oe) :: pn)) nd h1 h2 (pe_var n1 n2 n3 n4) rfl h3)) fun D σ H len ⟨F, ρ, xs, ok, E, q⟩ => ?_
    obtain ⟨dv, e, q⟩ := FinS.opt q
    obtain ⟨dd, v, y, e1, e2, e3, e4, e5⟩ := E.fld _ h6
    subst e1 e2
    have ecls := E.cls
    subst ecls
    cases e
    have eC : C = He.ga X.K x := by
      have z := T.gl.symm.trans h7
      cases z; rfl
    subst eC
    obtain ⟨o1, s1, eF, _⟩ := ok.laid (u := ExX (.ref (He.ga X.K x)) (some dd) a) E.na
    have ne : dd ≠ a := fun z => by rw [z, E.na] at e3; cases e3
    have dq : Dq X.K (upd F a (ExX (.ref (He.ga X.K x)) (some dd) a)) (.ref a) (excD x _ dv) := Dq.ex1 upd_same (by rw [upd_ne ne]; exact e5) (Dq.ext eF e4)
    obtain ⟨o2, s2⟩ := o1.put (i := _) dq h4
    refine ⟨.ref a, E.sl _ (by rw [h5]; rfl) (by rw [len]; exact (List.getElem?_eq_some_iff.mp n1).1), ?_⟩
    exact q _ _ _ o2 (s1.trans s2) H E.na rfl
/-- the clauses and what they do -/
inductive HdsD (X : Cx) (P : Option V) (XR : XRel) : List ExceptHandler → List Hd → Prop
  | nil : HdsD X P XR [] []
  | cons {x : Str} {C : Addr} {nm : Option Str} {np pos' : Pos} {st : Stmt} {h : Hd} {sl : Option (Nat × Str)} {fld : Option Str} {bs : List Str} {hds : List ExceptHandler} {hs : List Hd} : Names X x (.ref C) → CatOk X XR h.c x C fld bs → NameOk X nm h.sl → slP P h.sl → h.sl = sl.map (·.1) →
      (∀ i n, sl = some (i, n) → X.N[i]? = some n ∧ Vis X.env.scope n ∧ (n == ("__debug__" : Str)) = false ∧ (n == ("__classdict__" : Str)) = false ∧ ∀ m, attributeBase (.Name n m) "" X.env (eval (.Name n m) X.env) = eval (.Name n m) X.env) →
      SuOk X P x sl fld bs st h.k → HdsD X P XR hds hs → HdsD X P XR (.ExceptHandler (some (.Name x np)) nm [st] pos' :: hds) (h :: hs)
theorem hds_ok (nd : X.N.Nodup) : ∀ {hds : List ExceptHandler} {hs : List Hd}, HdsD X P XR hds hs → ∃ l, ClsOk X hds l ∧ ∀ (F0 : Hp) (ρ0 : Env) (H0 : Hp) (σ0 : L2.St) (D : Ends) (k : Nat) (xs : List _root_.Dl.D) (ρ : Env), FinS X.K P XR W F0 ρ0 H0 σ0 (catchD hs k xs ρ) D →
    ∀ (cls : Value) (d : Option Addr) (F : Hp) (σ : L2.St) (H : Hp), Ok X.K P F ρ σ H → Step F0 ρ0 σ0 H0 F ρ σ H → XR F H cls d k xs → wCl X.K W D l cls d σ H
  | _, _, .nil => ⟨[], .nil, fun F0 ρ0 H0 σ0 D k xs ρ q cls d F σ H o s r => q cls d F σ H o s r⟩
  | _, _, .cons (C := C) (h := h) (fld := fld) hn hc hno hp hsl hv hsu r => by
    obtain ⟨l, c1, c2⟩ := hds_ok nd r
    refine ⟨_, .cons hn hno (fun a oe cls d pn hz hf => suite_ok nd hc hz hf hv hsu) c1, fun F0 ρ0 H0 σ0 D k xs ρ q cls d F σ H o s xr => ?_⟩
    refine ⟨_, hc.exm F H cls d k xs xr, fun hb a na => ?_, fun hb => ?_⟩
    · have e : h.c = k := Nat.eq_of_beq_eq_true hb
      have q1 : FinS X.K P XR W F0 ρ0 H0 σ0 (if Nat.beq h.c k then handD h xs ρ else catchD _ k xs ρ) D := q
      rw [hb, if_pos rfl] at q1
      subst e
      have q2 := hand_end (a := a) (cls := cls) (dd := d) hp q1
      obtain ⟨o2, s2⟩ := o.named (a := a) hp
      obtain ⟨e1, e2, e3⟩ := hc.cl F H cls d xs xr
      rw [← hsl]
      refine ⟨F, clrE h.sl ρ, xs, o2, ⟨fun i hi hlen => ?_, e1, e2, e3, na⟩, suite_nox (FinS.shift (s.trans s2) q2)⟩
      rw [hi] at hlen ⊢
      show (σ.set i (some (.ref a)))[i]? = _
      have hlen : i < (σ.set i (some (.ref a))).length := hlen
      rw [List.length_set] at hlen
      rw [List.getElem?_set_self hlen]
    · have q : FinS X.K P XR W F0 ρ0 H0 σ0 (if Nat.beq h.c k then handD h xs ρ else catchD _ k xs ρ) D := q
      rw [hb, if_neg (by simp)] at q
      exact c2 F0 ρ0 H0 σ0 D k xs ρ q cls d F σ H o s xr
/-- try: body, except .. -/
theorem psd_try {body : List Stmt} {h₀ : ExceptHandler} {hds : List ExceptHandler} {hs : List Hd} {fb : Env → Out} {pos : Pos} (hex : X.ex = []) (hst : X.stack = X.env :: X.outer) (hfr : X.env.frame = some X.env.locals) (nd : X.N.Nodup) (tk : Takes X W)
    (hb : ∀ (W' : WX) (pn : List (Addr × Obj)) (xe : Value → Shared → Prop), Takes (X.tr pn xe) W' → PassesOwn (model X.prog X.w) X.A X.env xe → PSsd (X.tr pn xe) P XR W' body fb) (hh : HdsD X P XR (h₀ :: hds) hs) :
    PSd X P XR W (.Try body (h₀ :: hds) [] [] pos) (fun ρ => match fb ρ with
      | .exc k xs ρ' => catchD hs k xs ρ'
      | o => o) := by
  obtain ⟨l, c1, c2⟩ := hds_ok (W := W) nd hh
  refine PS.imp (ps_try_cl (tb := fun W' => tS X.K P XR W' fb) hex hst hfr nd tk hb c1) fun D σ H ⟨F, ρ, ok, q⟩ => ⟨F, ρ, ok, ?_⟩
  cases e : fb ρ with
  | exc k xs ρ' =>
    simp only [e] at q
    exact fun cls d F' σ' H' o s xr => c2 F ρ H σ D k xs ρ' q cls d F' σ' H' o s xr
  | next ρ' => simp only [e] at q; exact q
  | brk ρ' => simp only [e] at q; exact q
  | cont ρ' => simp only [e] at q; exact q
  | ret v ρ' => simp only [e] at q; exact q
  | stuck => simp only [e] at q; exact q
end
end Dl
end
section
set_option linter.all false
set_option maxRecDepth 100000
set_option maxHeartbeats 16000000
/-! DlChS: the check of statements; it is right. -/
namespace Dl
open PySem PySem.Spec PyProof.Rows L2
def ncomp : Expr → Bool
  | .ListComp _ _ _ _ => false
  | .SetComp _ _ _ _ => false
  | .DictComp _ _ _ _ _ => false
  | _ => true
def ntup : Expr → Bool
  | .Tuple _ _ _ => false
  | _ => true
/-- whether a comprehension is stored by itself -/
def swapB (s : Sc) (x : Expr) (t : Str) (py : Pos) : Bool := match x with
  | .ListComp _ _ sc p => decide (s.vis.names.lookup t = some .local) && py.line == p.line && !(sc.names.any fun (n, k) => n == t && (k == .local || k == .cell))
  | _ => false
/-- a plain value to a plain name -/
def swS (sc : Scope) (ts vs : List Expr) : Option (Option (List Str)) :=
  if (!(ts.length == 2 || ts.length == 3) || vs.length != ts.length) then some none else
  if (vs.any fun | .Starred .. => true | _ => false) then none else
  let line := (ts.head?.map (·.pos.line)).getD 0
  let names := ts.filterMap fun
    | .Name id pos => if sc.names.lookup id == some .local && pos.line == line then some id else none
    | _ => none
  if names.length != ts.length || names.eraseDups.length != names.length then some none else
  if vs.all (foldedForSure 8) then some none else
  if vs.all (constantsAlone 8) then none else some (some names)
theorem swS_ok {sc : Scope} {ts vs : List Expr} {k k2 : Nat} {p p2 : Pos} {env : PySem.Env} {r : Option (List Str)} (hs : env.scope = sc) (hk : sc.kind = .function) (h : swS sc ts vs = some r) : swappedStores [.Tuple ts k p] (.Tuple vs k2 p2) env = pure r := by
  have hb : env.blockKind = .function := by unfold Env.blockKind; rw [hs, hk]; rfl
  have hkk : ∀ id, env.kindOf id = sc.names.lookup id := fun id => by unfold Env.kindOf; rw [hs]
  unfold swS at h
  unfold swappedStores
  simp only [hb, hkk]
  have e0 : (ScopeKind.function != ScopeKind.function) = false := rfl
  rw [e0, Bool.or_false]
  split at h
  · rename_i h1
    rw [if_pos h1]
    cases h
    rfl
  · rename_i h1
    rw [if_neg h1]
    split at h
    · cases h
    · rename_i h2
      refine Eq.trans (if_neg h2) ?_
      dsimp only at h
      split at h
      · rename_i h3
        refine Eq.trans (if_pos h3) ?_
        cases h
        rfl
      · rename_i h3
        refine Eq.trans (if_neg h3) ?_
        split at h
        · rename_i h4
          refine Eq.trans (if_pos h4) ?_
          cases h
          rfl
        · rename_i h4
          refine Eq.trans (if_neg h4) ?_
          split at h
          · cases h
          · rename_i h5
            refine Eq.trans (if_neg h5) ?_
            cases h
            rfl

def isFn (s : Sc) : Bool := match s.vis.kind with
  | .function => true
  | _ => false
def swNone (s : Sc) (es : List Expr) (x : Expr) : Bool := match x with
  | .Tuple vs _ _ => (match swS s.vis es vs with
    | some none => true
    | _ => false)
  | _ => true
def tgtB (Γ : Gm) (s : Sc) (t : T) (tg x : Expr) : Bool := isFn s && (isLC x || ncomp x) && (match t, tg with
  | .nm i, .Name y _ => tgB Γ s i y
  | .tp ts, .Tuple es _ _ => chkTs Γ s ts es && swNone s es x
  | _, _ => false)
def chkVs (Γ : Gm) : List (Nat × Bool) → Es → Sc → List Expr → Bool
  | [], .nil, _, [] => true
  | _ :: is, .cons st e es, s, x :: xs => !st && nstar x && chkE Γ e s x && chkVs Γ is es s xs
  | _, _, _, _ => false
def namesB (Γ : Gm) (s : Sc) : List (Nat × Bool) → List Expr → Bool
  | [], [] => true
  | i :: is, .Name y _ :: es => tgB Γ s i.1 y && namesB Γ s is es
  | _, _ => false
def locB (s : Sc) (x : Str) : Bool := decide (s.vis.names.lookup x = some .local)
def parB (Γ : Gm) (s : Sc) (is : List (Nat × Bool)) (ts vs : List Expr) : Bool := match swS s.vis ts vs, ts, vs, is with
  | some none, _, _, is => decide (is.length ≤ 16777216)
  | some (some ns), [.Name x _, .Name y _], [_, _], [i, j] => decide (ns = [x, y]) && locB s x && locB s y && Nat.beq i.1 j.1 == false
  | some (some ns), [.Name x _, .Name y _, .Name z _], [_, _, _], [i, j, l] => decide (ns = [x, y, z]) && locB s x && locB s y && locB s z && Nat.beq i.1 j.1 == false && Nat.beq i.1 l.1 == false && Nat.beq j.1 l.1 == false
  | _, _, _, _ => false
def nameB (Γ : Gm) (s : Sc) (nm : Option Str) (sl : Option Nat) : Bool := match nm, sl with
  | none, none => true
  | some n, some i => decide (Γ.N[i]? = some n) && locB s n && plainB n && (!Γ.io || Nat.beq 0 i == false)
  | _, _ => false
def itB (Γ : Gm) (s : Sc) (nm : Option Str) (fld : Option Str) (bs : List Str) : List HI → List Expr → Bool
  | [], w => w.isEmpty
  | .lit d :: hs, w => (match w with
    | .Constant c _ _ :: es => litB d c && itB Γ s nm fld bs hs es
    | _ => false)
  | .fld :: hs, w => (match w with
    | .Attribute (.Name n _) f _ :: es => decide (nm = some n) && decide (fld = some f) && itB Γ s nm fld bs hs es
    | _ => false)
  | .is :: hs, w => (match w with
    | .Call (.Name g _) [.Name n _, .Name b _] [] _ :: es => decide (nm = some n) && decide (g = ("isinstance" : Str)) && bltB Γ s g && decide (b ∈ bs) && bltB Γ s b && itB Γ s nm fld bs hs es
    | _ => false)
def suB (Γ : Gm) (s : Sc) (cn : Str) (nm : Option Str) (fld : Option Str) (bs : List Str) : HK → Stmt → Bool
  | .set i his, .Assign [.Name y _] (.List es _) _ => tgB Γ s i y && itB Γ s nm fld bs his es
  | .setL i d, .Assign [.Name y _] (.Constant c _ _) _ => tgB Γ s i y && litB d c
  | .ret his, .Return (some (.List es _)) _ => itB Γ s nm fld bs his es
  | .retL d, .Return (some (.Constant c _ _)) _ => litB d c
  | .setx i x f, .Assign [.Name y _] (.Name n _) _ => tgB Γ s i y && decide (nm = some n) && decide (fld = some f) && decide (x = cn) && decide ((x, f) ∈ Γ.xv)
  | _, _ => false
def hdsB (Γ : Gm) (s : Sc) : List Hd → List ExceptHandler → Bool
  | [], w => w.isEmpty
  | h :: hs, w => (match w with
    | .ExceptHandler (some (.Name x _)) nm [st] _ :: r => (match Γ.exc h.c with
      | some gn => decide (gn.1 = x) && glB s x && plainB x && nameB Γ s nm h.sl && suB Γ s x nm (Γ.xfld h.c) (Γ.xbase h.c) h.k st && hdsB Γ s hs r
      | none => false)
    | _ => false)
mutual
def chkS (Γ : Gm) : S → Sc → Stmt → Bool
  | .tryS b hs, s, w => (match w with
    | .Try body (h₀ :: hds) [] [] _ => chkSs Γ b s body && hdsB Γ s hs (h₀ :: hds)
    | _ => false)
  | .set t e, s, w => (match w with
    | .Assign [tg] x _ => tgtB Γ s t tg x && chkE Γ e s x
    | _ => false)
  | .setf t e, s, w => (match w with
    | .Assign [tg] x _ => tgtB Γ s t tg x && chkE Γ e s x
    | _ => false)
  | .par is es, s, w => (match w with
    | .Assign [.Tuple ts _ _] (.Tuple vs _ _) _ => isFn s && chkVs Γ is es s vs && namesB Γ s is ts && parB Γ s is ts vs
    | _ => false)
  | .sub i k e, s, w => (match w with
    | .Assign [.Subscript (.Name x _) y _] z _ => nmB Γ s i x && nslice y && (isLC z || ncomp z) && chkE Γ e s z && chkE Γ k s y
    | _ => false)
  | .ex e, s, w => (match w with
    | .Expr x _ => ncomp x && chkE Γ e s x
    | _ => false)
  | .ifS t a b, s, w => (match w with
    | .If x ys zs _ => opC Γ s t (chkE Γ t s) x && chkSs Γ a s ys && chkSs Γ b s zs
    | _ => false)
  | .forS t it b, s, w => (match w with
    | .For tg iter ys [] _ => (opsOf it).isEmpty && nset iter && chkI Γ it s tg iter && chkT Γ s t tg && chkSs Γ b s ys
    | _ => false)
  | .whileS t b, s, w => (match w with
    | .While x ys [] _ => opC Γ s t (chkE Γ t s) x && chkSs Γ b s ys
    | _ => false)
  | .ret e, s, w => (match w with
    | .Return (some x) _ => chkE Γ e s x
    | _ => false)
  | .retf e, s, w => (match w with
    | .Return (some x) _ => chkE Γ e s x
    | _ => false)
  | .retN, _, w => (match w with
    | .Return none _ => true
    | _ => false)
  | .raise k es, s, w => (match w with
    | .Raise (some (.Call (.Name g _) (x :: xs) [] _)) none _ => decide (Γ.exc k = some (g, lenEs es)) && glB s g && plainB g && plainEs es && chkEs Γ es s (x :: xs)
    | _ => false)
  | .pass, _, w => (match w with
    | .Pass _ => true
    | _ => false)
  | .brk, _, w => (match w with
    | .Break _ => true
    | _ => false)
  | .cont, _, w => (match w with
    | .Continue _ => true
    | _ => false)
def chkSs (Γ : Gm) : Ss → Sc → List Stmt → Bool
  | .nil, _, w => w.isEmpty
  | .cons a as, s, w => (match w with
    | st :: sts => chkS Γ a s st && chkSs Γ as s sts
    | [] => false)
end
/-- an exception made -/
def tMk (K : PySem.W.Frag) (P : Option V) (XR : XRel) (W : WX) (k : Nat) (h : Env → R (List D × Env)) : L2.St → Hp → XK → Prop := fun σ H Q => ∃ F ρ, Ok K P F ρ σ H ∧ Fin K P XR W F ρ H σ (fun _ _ F' H' _ (p : Value × Option Addr) ds => XR F' H' p.1 p.2 k ds) (h ρ) (fun p H' => Q p.1 p.2 H')
/-- the classes of exceptions, wherever they are made -/
def ExcB (Γ : Gm) (XR : XRel) (X : Cx) : Prop := ∀ k g np, Γ.exc k = some (g, np) → Gl X g → (g == ("__debug__" : Str)) = false → ∀ (P : Option V) (W : WX) (x : Expr) (es : List Expr) (h : Env → R (List D × Env)) (p pos : Pos), Takes X W → nstars (x :: es) = true → (∀ ρ ds ρ', h ρ = .ok (ds, ρ') → ds.length = np) → PAd X P XR W (x :: es) h → PMk X (.Call (.Name g p) (x :: es) [] pos) (tMk X.K P XR W k h)
structure GoodS (Γ : Gm) (c : Calls) (XR : XRel) (n : Nat) (s : Sc) (X : Cx) : Prop where
  g : Good Γ c XR n s X
  exc : ∀ X' : Cx, X'.prog = X.prog → X'.w = X.w → X'.K = X.K → X'.mg = X.mg → X'.base = X.base → X'.A = X.A → X'.calm = true → ExcB Γ XR X'
  cat : ∀ k g np, Γ.exc k = some (g, np) → ∃ C, CatOk X XR k g C (Γ.xfld k) (Γ.xbase k)
  stk : X.stack = X.env :: X.outer
  frm : X.env.frame = some X.env.locals
  ex : X.ex = []
theorem CatOk.tr {X : Cx} {XR : XRel} {k : Nat} {x : Str} {C : Addr} {fld : Option Str} {bs : List Str} {pn : List (Addr × Obj)} {xe : Value → Shared → Prop} (T : CatOk X XR k x C fld bs) : CatOk (X.tr pn xe) XR k x C fld bs := ⟨T.gl, T.exm, T.cl, T.xf, T.ec, T.is⟩
theorem GoodS.tr {Γ : Gm} {c : Calls} {XR : XRel} {n : Nat} {s : Sc} {X : Cx} (G : GoodS Γ c XR n s X) (pn : List (Addr × Obj)) (xe : Value → Shared → Prop) : GoodS Γ c XR n s (X.tr pn xe) where
  g := ⟨G.g.sc, G.g.N, G.g.nd, G.g.calm, G.g.room, G.g.cell, G.g.blt, G.g.con, G.g.fn, G.g.kw, G.g.room1, fun x f h => ⟨⟨(G.g.xv x f h).1.mg, (G.g.xv x f h).1.ex⟩, (G.g.xv x f h).2⟩, fun x h => ⟨(G.g.x0 x h).mg, (G.g.x0 x h).ex, (G.g.x0 x h).kp⟩, fun x c b h => ⟨(G.g.xis x c b h).ec, ⟨(G.g.xis x c b h).cl.cl, (G.g.xis x c b h).cl.rel, (G.g.xis x c b h).cl.at_, (G.g.xis x c b h).cl.dn, (G.g.xis x c b h).cl.db⟩, (G.g.xis x c b h).kit⟩⟩
  exc := G.exc
  cat := fun k g np h => by
    obtain ⟨C, T⟩ := G.cat k g np h
    exact ⟨C, T.tr⟩
  stk := G.stk
  frm := G.frm
  ex := G.ex
section
variable {Γ : Gm} {c : Calls} {XR : XRel} {n : Nat} {s : Sc} {X : Cx} {P : Option V} {W : WX} {x : Expr} {f : Env → R (Vl × Env)}
theorem fn_of' (g : Good Γ c XR n s X) (h : isFn s = true) : s.vis.kind = .function := by
  unfold isFn at h
  split at h
  · assumption
  · cases h
theorem blockFn (g : Good Γ c XR n s X) (h : isFn s = true) : X.env.blockKind = .function := by
  unfold Env.blockKind
  rw [g.sc, fn_of' g h]
  rfl
theorem swap_name (g : Good Γ c XR n s X) (hf : isFn s = true) (hl : isLC x = true) {t : Str} {py : Pos} {ln : Nat} : swapsWith x (some (.Name t py)) ln X.env = pure (swapB s x t py) := by
  cases x with
  | ListComp elt gens sc p =>
    show (pure (X.env.blockKind == .function && X.env.kindOf t == some .local && py.line == p.line && !(sc.names.any fun (n, k) => n == t && (k == .local || k == .cell))) : Sem Bool) = _
    rw [blockFn g hf]
    have e : X.env.kindOf t = s.vis.names.lookup t := by unfold Env.kindOf; rw [g.sc]
    rw [e]
    have e2 : (s.vis.names.lookup t == some NameKind.local) = decide (s.vis.names.lookup t = some .local) := by
      by_cases h : s.vis.names.lookup t = some .local
      · rw [h]; rfl
      · rw [decide_eq_false h]; simpa using h
    rw [e2]
    rfl
  | _ => cases hl
theorem swap_other (hl : ncomp x = true) {t : Option Expr} {ln : Nat} {env : PySem.Env} : swapsWith x t ln env = pure false := by
  cases x <;> first | rfl | cases hl
theorem swap_tup (hl : (isLC x || ncomp x) = true) {es : List Expr} {k : Nat} {p : Pos} {ln : Nat} {env : PySem.Env} : swapsWithSole [.Tuple es k p] x ln env = pure false := by
  cases x <;> first | rfl | cases hl
theorem swap_sub (hl : (isLC x || ncomp x) = true) {a b : Expr} {p : Pos} {ln : Nat} {env : PySem.Env} : swapsWithSole [.Subscript a b p] x ln env = pure false := by
  cases x <;> first | rfl | cases hl
theorem tg_of (g : Good Γ c XR n s X) (hP : P = none ∨ Γ.io = true) {i : Nat} {y : Str} (h : tgB Γ s i y = true) : X.N[i]? = some y ∧ Loc X.env.scope y ∧ (X.fn y = true ∨ X.env.scope.names.lookup y = some .local) ∧ (P = none ∨ 0 ≠ i) := by
  obtain ⟨h1, h2⟩ := and2 h
  obtain ⟨h3, h4⟩ := and2 h1
  have hp : P = none ∨ 0 ≠ i := by
    rcases hP with z | z
    · exact .inl z
    · rw [z] at h2
      exact .inr (beq_no (by simpa using h2))
  refine ⟨by rw [g.N]; exact of_decide_eq_true h3, ?_⟩
  rcases Bool.or_eq_true_iff.mp h4 with z | z
  · have z := of_decide_eq_true z
    exact ⟨.inl (by rw [g.sc]; exact z), .inr (by rw [g.sc]; exact z), hp⟩
  · obtain ⟨z1, z2⟩ := and2 z
    exact ⟨.inr (by rw [g.sc]; exact of_decide_eq_true z1), .inl (g.cell y (of_decide_eq_true z2)), hp⟩
theorem name_ps (g : Good Γ c XR n s X) (hP : P = none ∨ Γ.io = true) (tk : Takes X W) (hf : isFn s = true) (hl : (isLC x || ncomp x) = true) {i : Nat} {y : Str} {py spos : Pos} (h : tgB Γ s i y = true) (ih : HoldE Γ c XR n s x f) : PS X (.Assign [.Name y py] x spos) (tAsg (tE X.K P XR W f) (gName i)) := by
  obtain ⟨h1, h2, h3, h4⟩ := tg_of g hP h
  obtain ⟨k1, k2, k3⟩ := ih X P W g hP tk
  cases hc : isLC x with
  | true =>
    have sw := swap_name g hf hc (t := y) (py := py) (ln := spos.line)
    cases hb : swapB s x y py with
    | true =>
      rw [hb] at sw
      have hlk : X.env.scope.names.lookup y = some .local := by
        rw [g.sc]
        cases x with
        | ListComp elt gens sc p =>
          obtain ⟨z, _⟩ := and2 hb
          obtain ⟨z, _⟩ := and2 z
          exact of_decide_eq_true z
        | _ => cases hc
      exact k3 hc i y py spos h1 hlk sw
    | false =>
      rw [hb] at sw
      exact ps_set g.nd h1 h2 k1 sw h3
  | false =>
    rw [hc, Bool.false_or] at hl
    exact ps_set g.nd h1 h2 k1 (swap_other hl) h3
theorem sw_none (g : Good Γ c XR n s X) (hf : isFn s = true) {es : List Expr} {k : Nat} {p : Pos} (h : swNone s es x = true) : swappedStores [.Tuple es k p] x X.env = pure none := by
  cases x with
  | Tuple vs k2 p2 =>
    have h : (match swS s.vis es vs with
      | some none => true
      | _ => false) = true := h
    split at h
    · exact swS_ok g.sc (fn_of' g hf) ‹_›
    · cases h
  | _ => rfl
theorem vss_ok (g : Good Γ c XR n s X) (hP : P = none ∨ Γ.io = true) (tk : Takes X W) : ∀ (is : List (Nat × Bool)) (es : Es) (xs : List Expr), chkVs Γ is es s xs = true → PVss X P XR W xs (evVs c is es) ∧ is.length = xs.length
  | [], .nil, [], _ => ⟨pv_nil, rfl⟩
  | [], .nil, _ :: _, h => by cases h
  | [], .cons _ _ _, _, h => by cases h
  | _ :: _, .nil, _, h => by cases h
  | _ :: _, .cons _ _ _, [], h => by cases h
  | i :: is, .cons st e es, x :: xs, h => by
    obtain ⟨h, h4⟩ := and2 h
    obtain ⟨h, h3⟩ := and2 h
    obtain ⟨h1, h2⟩ := and2 h
    obtain ⟨r1, r2⟩ := vss_ok g hP tk is es xs h4
    cases st with
    | true => cases h1
    | false => exact ⟨pv_cons i.2 (star_of h2) (E_ok Γ c XR n e s x h3 X P W g hP tk).1 r1, by rw [List.length_cons, List.length_cons, r2]⟩
theorem names_ok (g : Good Γ c XR n s X) (hP : P = none ∨ Γ.io = true) : ∀ (is : List (Nat × Bool)) (es : List Expr), namesB Γ s is es = true → PGs X es (gNames (is.map (·.1))) ∧ (assignEach es X.env).findIdx? (·.1) = none ∧ is.length = es.length ∧ ∀ i ∈ is, P = none ∨ 0 ≠ i.1
  | [], [], _ => ⟨pgs_names0, rfl, rfl, fun _ h => nomatch h⟩
  | [], _ :: _, h => by cases h
  | _ :: _, [], h => by cases h
  | i :: is, e :: es, h => by
    cases e with
    | Name y p =>
      obtain ⟨h1, h2⟩ := and2 h
      obtain ⟨r1, r2, r3, r4⟩ := names_ok g hP is es h2
      obtain ⟨k1, k2, k3, k4⟩ := tg_of g hP h1
      refine ⟨pgs_names g.nd k1 k2 k3 r1 rfl, ?_, by rw [List.length_cons, List.length_cons, r3], fun j hj => ?_⟩
      · show List.findIdx? _ ((false, _) :: assignEach es X.env) = none
        rw [List.findIdx?_cons, r2]
        rfl
      · rcases List.mem_cons.mp hj with z | z
        · rw [z]; exact k4
        · exact r4 j z
    | _ => cases h
theorem tVss_mono {K : PySem.W.Frag} {fs : Env → R (List Vl × Env)} {σ : L2.St} {H : Hp} {Q Q' : List V → Hp → Prop} (h : tVss K P XR W fs σ H Q) (m : ∀ v H', Q v H' → Q' v H') : tVss K P XR W fs σ H Q' := by
  obtain ⟨F, ρ, o, q⟩ := h
  exact ⟨F, ρ, o, Fin.mono q m⟩
theorem psd_raise {e : Expr} {k : Nat} {h : Env → R (List D × Env)} {pos : Pos} (hc : X.calm = true) (tk : Takes X W) (he : PMk X e (tMk X.K P XR W k h)) : PSd X P XR W (.Raise (some e) none pos) (fun ρ => (h ρ).out fun r => .exc k r.1 r.2) := PS.imp (ps_raise hc tk he) fun D σ H ⟨F, ρ, ok, q⟩ => by
  refine ⟨F, ρ, ok, ?_⟩
  have q : FinS X.K P XR W F ρ H σ ((h ρ).out fun r => .exc k r.1 r.2) D := q
  cases e : h ρ with
  | ok a => rw [e] at q; exact fun p F' H' o s r => q p.1 p.2 F' σ H' o s r
  | exc c xs ρ' => rw [e] at q; exact fun cls d F' H' o s r => q cls d F' σ H' o s r
  | stuck => rw [e] at q; exact q
theorem par_ok (g : Good Γ c XR n s X) (hP : P = none ∨ Γ.io = true) (tk : Takes X W) {is : List (Nat × Bool)} {es : Es} {ts vs : List Expr} {k k2 : Nat} {p p2 pos : Pos} (hf : isFn s = true) (h1 : chkVs Γ is es s vs = true) (h2 : namesB Γ s is ts = true) (h3 : parB Γ s is ts vs = true) :
    PSd X P XR W (.Assign [.Tuple ts k p] (.Tuple vs k2 p2) pos) (fun ρ => (evVs c is es ρ).out fun r => optOut (storeVs is r.1 r.2) .next) := by
  obtain ⟨v1, v2⟩ := vss_ok g hP tk is es vs h1
  obtain ⟨n1, n2, n3, n4⟩ := names_ok g hP is ts h2
  have hn : (assignEach ts X.env).length = is.length := by rw [assignEach_len, n3]
  unfold parB at h3
  split at h3
  · rename_i e
    refine psd_par n4 (ps_asg (pe_tup v1) (pg_tup g.calm n1 hn n2) rfl (swS_ok g.sc (fn_of' g hf) e) rfl) fun D σ H q => ?_
    refine tVss_mono q fun us H1 ⟨z1, z2, _⟩ => ?_
    exact ⟨by rw [z1, sizeLine_eq]; exact of_decide_eq_true h3, fun q hq => ⟨q, us, rfl, .inl (.inl upd_same), z1, by rw [z1, List.length_map], z2 q hq⟩⟩
  · rename_i ns x px y py a b i j e
    obtain ⟨h3, g4⟩ := and2 h3
    obtain ⟨h3, g3⟩ := and2 h3
    obtain ⟨g1, g2⟩ := and2 h3
    have en := of_decide_eq_true g1
    subst en
    obtain ⟨m1, m2⟩ := and2 h2
    obtain ⟨m2, _⟩ := and2 m2
    have lk : ∀ {y : Str}, locB s y = true → X.env.scope.names.lookup y = some .local := fun h => by rw [g.sc]; exact of_decide_eq_true h
    refine psd_par n4 (ps_par g.calm g.nd (tg_of g hP m1).1 (tg_of g hP m2).1 (beq_no g4) (lk g2) (lk g3) v1 (swS_ok g.sc (fn_of' g hf) e) rfl) fun D σ H q => ?_
    refine tVss_mono q fun us H1 ⟨z1, _, z3⟩ => ?_
    match us, z1, z3 with
    | [u, v], _, z3 => exact ⟨u, v, rfl, z3⟩
  · rename_i ns x px y py z pz a b d i j l e
    obtain ⟨h3, g7⟩ := and2 h3
    obtain ⟨h3, g6⟩ := and2 h3
    obtain ⟨h3, g5⟩ := and2 h3
    obtain ⟨h3, g4⟩ := and2 h3
    obtain ⟨h3, g3⟩ := and2 h3
    obtain ⟨g1, g2⟩ := and2 h3
    have en := of_decide_eq_true g1
    subst en
    obtain ⟨m1, m2⟩ := and2 h2
    obtain ⟨m2, m3⟩ := and2 m2
    obtain ⟨m3, _⟩ := and2 m3
    have lk : ∀ {y : Str}, locB s y = true → X.env.scope.names.lookup y = some .local := fun h => by rw [g.sc]; exact of_decide_eq_true h
    refine psd_par n4 (ps_par3 g.calm g.nd (tg_of g hP m1).1 (tg_of g hP m2).1 (tg_of g hP m3).1 (beq_no g5) (beq_no g6) (beq_no g7) (lk g2) (lk g3) (lk g4) v1 (swS_ok g.sc (fn_of' g hf) e) rfl) fun D σ H q => ?_
    refine tVss_mono q fun us H1 ⟨z1, _, z3⟩ => ?_
    match us, z1, z3 with
    | [u, v, w], _, z3 => exact ⟨u, v, w, rfl, z3⟩
  · cases h3
theorem it_ok (G : GoodS Γ c XR n s X) {nm : Option Str} {sl : Option (Nat × Str)} {fld : Option Str} {bs : List Str} (hsl : ∀ m, nm = some m → ∃ i, sl = some (i, m)) : ∀ (hs : List HI) (es : List Expr), itB Γ s nm fld bs hs es = true → ItOk X sl fld bs es hs
  | [], es, h => by
    unfold itB at h
    rw [List.isEmpty_iff.mp h]
    exact .nil
  | .lit d :: hs, w, h => by
    unfold itB at h
    split at h
    · obtain ⟨h1, h2⟩ := and2 h
      exact .lit h1 (it_ok G hsl hs _ h2)
    · cases h
  | .fld :: hs, w, h => by
    unfold itB at h
    split at h
    · obtain ⟨h, h3⟩ := and2 h
      obtain ⟨h1, h2⟩ := and2 h
      obtain ⟨i, hi⟩ := hsl _ (of_decide_eq_true h1)
      exact .fld hi (of_decide_eq_true h2) (it_ok G hsl hs _ h3)
    · cases h
  | .is :: hs, w, h => by
    unfold itB at h
    split at h
    · obtain ⟨h, h6⟩ := and2 h
      obtain ⟨h, h5⟩ := and2 h
      obtain ⟨h, h4⟩ := and2 h
      obtain ⟨h, h3⟩ := and2 h
      obtain ⟨h1, h2⟩ := and2 h
      obtain ⟨i, hi⟩ := hsl _ (of_decide_eq_true h1)
      have e2 := of_decide_eq_true h2
      subst e2
      obtain ⟨g1, g2⟩ := blt_of G.g h3
      obtain ⟨b1, b2⟩ := blt_of G.g h5
      exact .is hi (of_decide_eq_true h4) b1 b2 g1 g2 (it_ok G hsl hs _ h6)
    · cases h
theorem su_ok (G : GoodS Γ c XR n s X) (hP : P = none ∨ Γ.io = true) {nm : Option Str} {sl : Option (Nat × Str)} {fld : Option Str} {bs : List Str} (hsl : ∀ m, nm = some m → ∃ i, sl = some (i, m)) {cn : Str} {k : HK} {st : Stmt} (h : suB Γ s cn nm fld bs k st = true) : SuOk X P cn sl fld bs st k := by
  unfold suB at h
  split at h
  · obtain ⟨h1, h2⟩ := and2 h
    obtain ⟨k1, k2, k3, k4⟩ := tg_of G.g hP h1
    exact .set k1 k2 k3 k4 (it_ok G hsl _ _ h2)
  · obtain ⟨h1, h2⟩ := and2 h
    obtain ⟨k1, k2, k3, k4⟩ := tg_of G.g hP h1
    exact .setL k1 k2 k3 k4 h2
  · exact .ret (it_ok G hsl _ _ h)
  · exact .retL h
  · obtain ⟨h, h5⟩ := and2 h
    obtain ⟨h, h4⟩ := and2 h
    obtain ⟨h, h3⟩ := and2 h
    obtain ⟨h1, h2⟩ := and2 h
    obtain ⟨k1, k2, k3, k4⟩ := tg_of G.g hP h1
    obtain ⟨i, hi⟩ := hsl _ (of_decide_eq_true h2)
    have e := of_decide_eq_true h4
    subst e
    exact .setx k1 k2 k3 k4 hi (of_decide_eq_true h3) (G.g.xv _ _ (of_decide_eq_true h5)).1.mg
  · cases h
theorem name_ok (G : GoodS Γ c XR n s X) (hP : P = none ∨ Γ.io = true) {nm : Option Str} {sl : Option Nat} (h : nameB Γ s nm sl = true) : NameOk X nm sl ∧ slP P sl ∧ ∃ q : Option (Nat × Str), sl = q.map (·.1) ∧ (∀ m, nm = some m → ∃ i, q = some (i, m)) ∧
    (∀ i n, q = some (i, n) → X.N[i]? = some n ∧ Vis X.env.scope n ∧ (n == ("__debug__" : Str)) = false ∧ (n == ("__classdict__" : Str)) = false ∧ ∀ m, attributeBase (.Name n m) "" X.env (eval (.Name n m) X.env) = eval (.Name n m) X.env) := by
  cases nm with
  | none =>
    cases sl with
    | none => exact ⟨trivial, fun i h => (nomatch h), none, rfl, fun m h => (nomatch h), fun i n h => (nomatch h)⟩
    | some i => cases h
  | some n =>
    cases sl with
    | none => cases h
    | some i =>
      obtain ⟨h, h4⟩ := and2 (show (decide (Γ.N[i]? = some n) && locB s n && plainB n && (!Γ.io || Nat.beq 0 i == false)) = true from h)
      obtain ⟨h, h3⟩ := and2 h
      obtain ⟨h1, h2⟩ := and2 h
      have lk : s.vis.names.lookup n = some .local := of_decide_eq_true h2
      have lk2 : X.env.scope.names.lookup n = some .local := by rw [G.g.sc]; exact lk
      have k1 : X.N[i]? = some n := by rw [G.g.N]; exact of_decide_eq_true h1
      refine ⟨⟨k1, lk2⟩, fun j hj => ?_, some (i, n), rfl, fun m hm => ⟨i, by cases hm; rfl⟩, fun j m hm => ?_⟩
      · cases hj
        rcases hP with z | z
        · exact .inl z
        · rw [z] at h4
          exact .inr (beq_no (by simpa using h4))
      · cases hm
        exact ⟨k1, .inl lk2, (plain_of h3).1, (plain_of h3).2, fun m => rfl⟩
theorem hds_of (G : GoodS Γ c XR n s X) (hP : P = none ∨ Γ.io = true) : ∀ (hs : List Hd) (hds : List ExceptHandler), hdsB Γ s hs hds = true → HdsD X P XR hds hs
  | [], w, h => by
    unfold hdsB at h
    rw [List.isEmpty_iff.mp h]
    exact .nil
  | h :: hs, w, hh => by
    unfold hdsB at hh
    split at hh
    · split at hh
      · rename_i gn hx
        obtain ⟨hh, h6⟩ := and2 hh
        obtain ⟨hh, h5⟩ := and2 hh
        obtain ⟨hh, h4⟩ := and2 hh
        obtain ⟨hh, h3⟩ := and2 hh
        obtain ⟨h1, h2⟩ := and2 hh
        have e1 := of_decide_eq_true h1
        subst e1
        obtain ⟨C, T⟩ := G.cat _ _ _ hx
        obtain ⟨n1, n2, q, n3, n4, n5⟩ := name_ok G hP h4
        exact .cons ⟨gl_of G.g h2, (plain_of h3).1, .inl T.gl⟩ T n1 n2 n3 n5 (su_ok G hP n4 h5) (hds_of G hP _ _ h6)
      · cases hh
    · cases hh
end
end Dl
end
section
set_option linter.all false
set_option maxRecDepth 100000
set_option maxHeartbeats 16000000
/-! DlStO: what is checked holds: statements. -/
namespace Dl
open PySem PySem.Spec PyProof.Rows L2
section
variable {X : Cx} {P : Option V} {XR : XRel} {W : WX} {st : Stmt} {sts : List Stmt} {f g : Env → Out}
theorem PSd.congr (h : PSd X P XR W st f) (e : f = g) : PSd X P XR W st g := e ▸ h
end
mutual
theorem S_ok (Γ : Gm) (c : Calls) (XR : XRel) (n : Nat) (fu : Nat) : ∀ (a : S) (s : Sc) (w : Stmt), chkS Γ a s w = true → ∀ (X : Cx) (P : Option V) (W : WX), GoodS Γ c XR n s X → (P = none ∨ Γ.io = true) → Takes X W → PassesOwn (model X.prog X.w) X.A X.env X.xe → PSd X P XR W w (evS c fu a)
  | .tryS b hs, s, w, h => fun X P W G hP tk hp => by
    unfold chkS at h
    split at h
    · obtain ⟨h1, h2⟩ := and2 h
      exact psd_try G.ex G.stk G.frm G.g.nd tk (fun W' pn xe tk' hp' => Ss_ok Γ c XR n fu b s _ h1 (X.tr pn xe) P W' (G.tr pn xe) hP tk' hp') (hds_of G hP _ _ h2)
    · cases h
  | .set t e, s, w, h => fun X P W G hP tk hp => by
    unfold chkS at h
    split at h
    · obtain ⟨ha, h2⟩ := and2 h
      obtain ⟨hb, h3⟩ := and2 ha
      obtain ⟨h0, hl⟩ := and2 hb
      have ih := E_ok Γ c XR n e s _ h2
      split at h3
      · exact asg_v (fun _ _ _ q => q) (name_ps G.g hP tk h0 hl h3 ih) (tg_of G.g hP h3).2.2.2
      · obtain ⟨h4, h5⟩ := and2 h3
        exact psd_tgt (ih X P W G.g hP tk).1 (tgt_ok G.g hP (.tp _) (.Tuple _ _ _) h4) (swap_tup hl) (sw_none G.g h0 h5) rfl
      · cases h3
    · cases h
  | .setf t e, s, w, h => fun X P W G hP tk hp => by
    unfold chkS at h
    split at h
    · obtain ⟨ha, h2⟩ := and2 h
      obtain ⟨hb, h3⟩ := and2 ha
      obtain ⟨h0, hl⟩ := and2 hb
      have ih := E_ok Γ c XR n e s _ h2
      split at h3
      · exact asg_f (fun _ _ _ q => q) (name_ps G.g hP tk h0 hl h3 ih) (tg_of G.g hP h3).2.2.2
      · obtain ⟨h4, h5⟩ := and2 h3
        exact psd_tgt (ih X P W G.g hP tk).1 (tgt_ok G.g hP (.tp _) (.Tuple _ _ _) h4) (swap_tup hl) (sw_none G.g h0 h5) rfl
      · cases h3
    · cases h
  | .par is es, s, w, h => fun X P W G hP tk hp => by
    unfold chkS at h
    split at h
    · obtain ⟨h, h4⟩ := and2 h
      obtain ⟨h, h3⟩ := and2 h
      obtain ⟨h1, h2⟩ := and2 h
      exact par_ok G.g hP tk h1 h2 h3 h4
    · cases h
  | .sub i k e, s, w, h => fun X P W G hP tk hp => by
    unfold chkS at h
    split at h
    · rename_i x p y tp z pos
      obtain ⟨h, h5⟩ := and2 h
      obtain ⟨h, h4⟩ := and2 h
      obtain ⟨h, h3⟩ := and2 h
      obtain ⟨h1, h2⟩ := and2 h
      obtain ⟨k1, k2, k3, k4⟩ := nm_of G.g h1
      refine psd_sub k1 k2 k3 k4 (E_ok Γ c XR n e s _ h4 X P W G.g hP tk).1 (E_ok Γ c XR n k s _ h5 X P W G.g hP tk).1 (fun v => ?_) (swap_sub h3) ?_ rfl
      · cases y <;> first | rfl | cases h2
      · cases z <;> rfl
    · cases h
  | .ex e, s, w, h => fun X P W G hP tk hp => by
    unfold chkS at h
    split at h
    · obtain ⟨h1, h2⟩ := and2 h
      exact psd_ex (E_ok Γ c XR n e s _ h2 X P W G.g hP tk).1 (swap_other h1)
    · cases h
  | .ifS t a b, s, w, h => fun X P W G hP tk hp => by
    unfold chkS at h
    split at h
    · obtain ⟨h, h3⟩ := and2 h
      obtain ⟨h1, h2⟩ := and2 h
      exact psd_if (ts_ok G.g h1 fun z => (E_ok Γ c XR n t _ _ z X P W G.g hP tk).2.1) (Ss_ok Γ c XR n fu a s _ h2 X P W G hP tk hp) (Ss_ok Γ c XR n fu b s _ h3 X P W G hP tk hp)
    · cases h
  | .forS t it b, s, w, h => fun X P W G hP tk hp => by
    unfold chkS at h
    split at h
    · obtain ⟨h, h5⟩ := and2 h
      obtain ⟨h, h4⟩ := and2 h
      obtain ⟨h, h3⟩ := and2 h
      obtain ⟨h1, h2⟩ := and2 h
      have e : opsOf it = [] := List.isEmpty_iff.mp h1
      have hi := I_ok Γ c XR n it s _ _ h3 X P W G.g hP tk
      rw [e] at hi
      have z := fun pos => psd_for (pos := pos) (tt := t) hp G.g.calm hi (tgt_ok G.g hP t _ h4) (Ss_ok Γ c XR n fu b s _ h5 X P W G hP tk hp) (fold_of h2)
      refine PSd.congr (z _) ?_
      funext ρ
      show _ = evS c fu (.forS t it b) ρ
      unfold evS
      rw [e]
    · cases h
  | .whileS t b, s, w, h => fun X P W G hP tk hp => by
    unfold chkS at h
    split at h
    · obtain ⟨h1, h2⟩ := and2 h
      exact psd_while fu hp (ts_ok G.g h1 fun z => (E_ok Γ c XR n t _ _ z X P W G.g hP tk).2.1) (Ss_ok Γ c XR n fu b s _ h2 X P W G hP tk hp)
    · cases h
  | .ret e, s, w, h => fun X P W G hP tk hp => by
    unfold chkS at h
    split at h
    · exact psd_ret (E_ok Γ c XR n e s _ h X P W G.g hP tk).1
    · cases h
  | .retf e, s, w, h => fun X P W G hP tk hp => by
    unfold chkS at h
    split at h
    · exact psd_retf (E_ok Γ c XR n e s _ h X P W G.g hP tk).1
    · cases h
  | .retN, s, w, h => fun X P W G hP tk hp => by
    unfold chkS at h
    split at h
    · exact psd_retN
    · cases h
  | .raise k es, s, w, h => fun X P W G hP tk hp => by
    unfold chkS at h
    split at h
    · obtain ⟨h, h5⟩ := and2 h
      obtain ⟨h, h4⟩ := and2 h
      obtain ⟨h, h3⟩ := and2 h
      obtain ⟨h1, h2⟩ := and2 h
      exact psd_raise G.g.calm tk (G.exc X rfl rfl rfl rfl rfl rfl G.g.calm _ _ _ (of_decide_eq_true h1) (gl_of G.g h2) (plain_of h3).1 P W _ _ _ _ _ tk (nstars_of es _ _ h4 h5) (evEs_len es h4) (Es_ok Γ c XR n es _ _ h5 X P W G.g hP tk))
    · cases h
  | .pass, s, w, h => fun X P W G hP tk hp => by
    unfold chkS at h
    split at h
    · exact psd_pass
    · cases h
  | .brk, s, w, h => fun X P W G hP tk hp => by
    unfold chkS at h
    split at h
    · exact psd_brk
    · cases h
  | .cont, s, w, h => fun X P W G hP tk hp => by
    unfold chkS at h
    split at h
    · exact psd_cont
    · cases h
theorem Ss_ok (Γ : Gm) (c : Calls) (XR : XRel) (n : Nat) (fu : Nat) : ∀ (as : Ss) (s : Sc) (ws : List Stmt), chkSs Γ as s ws = true → ∀ (X : Cx) (P : Option V) (W : WX), GoodS Γ c XR n s X → (P = none ∨ Γ.io = true) → Takes X W → PassesOwn (model X.prog X.w) X.A X.env X.xe → PSsd X P XR W ws (evSs c fu as)
  | .nil, s, ws, h => fun X P W G hP tk hp => by
    unfold chkSs at h
    have e : ws = [] := List.isEmpty_iff.mp h
    subst e
    exact pssd_nil
  | .cons a as, s, ws, h => fun X P W G hP tk hp => by
    unfold chkSs at h
    split at h
    · obtain ⟨h1, h2⟩ := and2 h
      exact pssd_cons (S_ok Γ c XR n fu a s _ h1 X P W G hP tk hp) (Ss_ok Γ c XR n fu as s _ h2 X P W G hP tk hp)
    · cases h
end
end Dl
end
section
set_option linter.all false
set_option maxRecDepth 100000
set_option maxHeartbeats 16000000
/-! DlFun: a def by its body. -/
namespace Dl
open PySem PySem.Spec PyProof.Rows L2
theorem map_fr_at {ds : List D} {j : Nat} {s : Sl} (h : (ds.map Sl.fr)[j]? = some s) : ∃ d, ds[j]? = some d ∧ s = .fr d := by
  rw [List.getElem?_map] at h
  obtain ⟨d, h1, h2⟩ := Option.map_eq_some_iff.mp h
  exact ⟨d, h1, h2.symm⟩
theorem start_at {N : List Str} {vs : List V} {i : Nat} {v : V} (h : vs[i]? = some v) : (L2.start N vs)[i]? = some (some v) := by
  have hi : i < vs.length := (List.getElem?_eq_some_iff.mp h).1
  unfold L2.start
  rw [List.getElem?_append_left (by rw [List.length_map]; exact hi), List.getElem?_map, h]
  rfl
theorem start_len {N : List Str} {vs : List V} (hl : vs.length ≤ N.length) : (L2.start N vs).length = N.length := by
  unfold L2.start
  rw [List.length_append, List.length_map, List.length_replicate]
  omega
/-- the slots at the entry: what is no box is known to all -/
theorem entry_at {d : FDef} {ds : List D} {io : Option (List D)} {j : Nat} {s : Sl} (h : (entry d ds io)[j]? = some s) :
    (∃ xs, io = some xs ∧ j = 0 ∧ s = .ow xs) ∨ (∃ e, s = .fr e ∧ ds[j - (if io.isSome then 1 else 0)]? = some e ∧ (io.isSome = true → 0 < j)) ∨ s = .un := by
  unfold entry at h
  have key : ∀ {j : Nat}, (ds.map Sl.fr ++ List.replicate (d.ns - d.np) Sl.un)[j]? = some s → (∃ e, s = .fr e ∧ ds[j]? = some e) ∨ s = .un := fun {j} h => by
    by_cases hj : j < (ds.map Sl.fr).length
    · rw [List.getElem?_append_left hj] at h
      obtain ⟨e, h1, h2⟩ := map_fr_at h
      exact .inl ⟨e, h2, h1⟩
    · rw [List.getElem?_append_right (by omega), List.getElem?_replicate] at h
      split at h
      · cases h; exact .inr rfl
      · cases h
  cases io with
  | none =>
    rcases key (show (ds.map Sl.fr ++ List.replicate (d.ns - d.np) Sl.un)[j]? = some s from h) with ⟨e, h1, h2⟩ | h1
    · exact .inr (.inl ⟨e, h1, h2, fun z => nomatch z⟩)
    · exact .inr (.inr h1)
  | some xs =>
    have h : (Sl.ow xs :: (ds.map Sl.fr ++ List.replicate (d.ns - d.np) Sl.un))[j]? = some s := h
    cases j with
    | zero => simp at h; exact .inl ⟨xs, rfl, rfl, h.symm⟩
    | succ j =>
      rcases key (by simpa using h) with ⟨e, h1, h2⟩ | h1
      · exact .inr (.inl ⟨e, h1, h2, fun _ => Nat.succ_pos _⟩)
      · exact .inr (.inr h1)
theorem entry_len {d : FDef} {ds : List D} {io : Option (List D)} (h : (if io.isSome then 1 else 0) + ds.length = d.np) (hn : d.np ≤ d.ns) : (entry d ds io).length = d.ns := by
  unfold entry
  cases io with
  | none =>
    rw [List.length_append, List.length_append, List.length_map, List.length_replicate]
    simp at h ⊢
    omega
  | some xs =>
    rw [List.length_append, List.length_append, List.length_map, List.length_replicate]
    simp at h ⊢
    omega
section
variable {K : PySem.W.Frag} {F H : Hp} {N : List Str} {vs r : List V} {ds : List D} {d : FDef}
theorem entry_ok0 (sF : Same F H) (dv : DqAll K F vs ds) (hN : N.length = d.ns) (hl : vs.length = d.np) (hn : d.np ≤ d.ns) : Ok K none F (entry d ds none) (L2.start N vs) H where
  sub := sF
  len := by rw [entry_len (by simp; rw [← dv.length, hl]) hn, start_len (by omega), hN]
  fr := fun i e q => by
    rcases entry_at q with ⟨_, z, _⟩ | ⟨e', h1, h2, _⟩ | z
    · cases z
    · cases h1
      obtain ⟨v, k1, k2⟩ := dv.get (i := i) (by simpa using h2)
      exact ⟨v, start_at k1, k2⟩
    · cases z
  ow := fun i xs q => by
    rcases entry_at q with ⟨_, z, _⟩ | ⟨e', h1, _⟩ | z
    · cases z
    · cases h1
    · cases z
  inj := fun i j xs ys a q1 q2 s1 s2 => by
    rcases entry_at q1 with ⟨_, z, _⟩ | ⟨e', h1, _⟩ | z
    · cases z
    · cases h1
    · cases z
  pin := fun _ h => nomatch h
theorem entry_own0 {a : Addr} : ¬ OwnAt (entry d ds none) (L2.start N vs) a := fun ⟨i, xs, q, _⟩ => by
  rcases entry_at q with ⟨_, z, _⟩ | ⟨e', h1, _⟩ | z
  · cases z
  · cases h1
  · cases z
theorem entry_ok1 {b : Addr} {vs0 : List V} {xs0 : List D} (sF : Same F H) (hF : F b = none) (hH : H b = some (.lst vs0)) (d0 : DqAll K F vs0 xs0) (dv : DqAll K F r ds) (hN : N.length = d.ns) (hl : r.length + 1 = d.np) (hn : d.np ≤ d.ns) :
    Ok K (some (.ref b)) F (entry d ds (some xs0)) (L2.start N (.ref b :: r)) H where
  sub := sF
  len := by rw [entry_len (by simp; rw [← dv.length]; omega) hn, start_len (by simp; omega), hN]
  fr := fun i e q => by
    rcases entry_at q with ⟨_, _, _, z⟩ | ⟨e', h1, h2, h3⟩ | z
    · cases z
    · cases h1
      have hi := h3 rfl
      obtain ⟨j, rfl⟩ : ∃ j, i = j + 1 := ⟨i - 1, by omega⟩
      obtain ⟨v, k1, k2⟩ := dv.get (i := j) (by simpa using h2)
      exact ⟨v, start_at (by simpa using k1), k2⟩
    · cases z
  ow := fun i xs q => by
    rcases entry_at q with ⟨ys, z, rfl, z2⟩ | ⟨e', h1, _⟩ | z
    · cases z
      cases z2
      exact ⟨b, vs0, start_at (by simp), hF, hH, d0⟩
    · cases h1
    · cases z
  inj := fun i j xs ys a q1 q2 s1 s2 => by
    rcases entry_at q1 with ⟨_, _, z1, _⟩ | ⟨e', h1, _⟩ | z
    · rcases entry_at q2 with ⟨_, _, z2, _⟩ | ⟨e', h1, _⟩ | z
      · rw [z1, z2]
      · cases h1
      · cases z
    · cases h1
    · cases z
  pin := fun v h => by cases h; exact start_at (by simp)
theorem entry_own1 {a b : Addr} {xs0 : List D} (h : OwnAt (entry d ds (some xs0)) (L2.start N (.ref b :: r)) a) : a = b := by
  obtain ⟨i, xs, q, q2⟩ := h
  rcases entry_at q with ⟨_, _, rfl, _⟩ | ⟨e', h1, _⟩ | z
  · rw [start_at (v := .ref b) (by simp)] at q2
    cases q2
    rfl
  · cases h1
  · cases z
end

/-- what a def's body may lean on -/
structure DefsOk (Γ : Gm) (P : Program) (w : World) (K : PySem.W.Frag) (mg : Str → Option Value) (base : Heap) (XR : XRel) (n : Nat) (c : Calls) : Prop where
  blt : ∀ x ∈ Γ.blt, mg x = none
  con : ∀ x d, Γ.con x d = true → ∃ u v, mg x = some u ∧ RelV v u ∧ ∀ F, Dq K F v d
  fn : ∀ f g np io, Γ.fn f = some (g, np, io) → ∃ a fd ps, FnOk P w K mg base (L2.CX P w) n a fd ps (spF K XR np (c f) io) ∧ mg g = some (.ref a) ∧ PySem.W.keepIn K (.ref a) = true ∧ L2.Binds K fd ps []
  exc : ∀ X : Cx, X.prog = P → X.w = w → X.K = K → X.mg = mg → X.base = base → X.calm = true → Room 1 X.A → ExcB Γ XR X
  cat : ∀ X : Cx, X.K = K → X.mg = mg → ∀ k g np, Γ.exc k = some (g, np) → ∃ C, CatOk X XR k g C (Γ.xfld k) (Γ.xbase k)
  kw : ∀ f g ks perm, (f, g, ks, perm) ∈ Γ.kw → ∃ a fd ps, FnOk P w K mg base (L2.CX P w) n a fd ps (spF K XR perm.length (c f) false) ∧ mg g = some (.ref a) ∧ PySem.W.keepIn K (.ref a) = true ∧ KwB K fd ps ks perm
  xv : ∀ X : Cx, X.prog = P → X.K = K → X.mg = mg → ∀ x f, (x, f) ∈ Γ.xv → Xv1 X x f ∧ XfOk X.K x f
  x0 : ∀ X : Cx, X.K = K → X.mg = mg → ∀ x ∈ Γ.x0, Xv0 X x
  xis : ∀ X : Cx, X.K = K → X.mg = mg → ∀ x c b, (x, c, b) ∈ Γ.xis → XisOk X x c b
theorem runD_some {Φ : Defs} {n id : Nat} {d : FDef} (h : Φ id = some d) {as : List D} {io : Option (List D)} (h1 : io.isSome = d.io) (h2 : (if d.io then 1 else 0) + as.length = d.np) : runD Φ (n + 1) id as io = endsF d (evSs (runD Φ n) loops d.body (entry d as io)) := by
  show (match Φ id with
    | some d => if (io.isSome == d.io) && Nat.beq ((if d.io then 1 else 0) + as.length) d.np then endsF d (evSs (runD Φ n) loops d.body (entry d as io)) else .stuck
    | none => .stuck) = _
  rw [h]
  show (if ((io.isSome == d.io) && Nat.beq ((if d.io then 1 else 0) + as.length) d.np) = true then _ else _) = _
  rw [if_pos]
  rw [h1, h2, Nat.beq_refl]
  simp
section
variable {Γ : Gm} {Φ : Defs} {id n m : Nat} {d : FDef} {P : Program} {w : World} {K : PySem.W.Frag} {mg : Str → Option Value} {base : Heap} {XR : XRel} {x qual : Str} {params : Arguments} {body : List Stmt} {scope : Scope} {f : Addr} {fd : FuncData} {N ps : List Str}
/-- a def by its body -/
theorem def_ok (hΦ : Φ id = some d) (hN : Γ.N = N) (Fd : FunD K x qual params body scope [] [] f fd) (S : FnScope N ps scope) (hio : Γ.io = d.io) (hps : ps.length = d.np) (hns : N.length = d.ns) (hle : d.np ≤ d.ns) (hchk : chkSs Γ d.body ⟨scope, scope⟩ body = true)
    (hd : DefsOk Γ P w K mg base XR m (runD Φ n)) (hm : 1 ≤ m) : FnOk P w K mg base (L2.CX P w) (m + 1) f fd ps (spF K XR d.np (runD Φ (n + 1) id) d.io) := by
  refine Fd.ok S (fun vs H Q E h => by rw [hps]; exact spF_len h) fun cdv A outer s H vs Q E hr hsp => ?_
  have good : GoodS Γ (runD Φ n) XR m ⟨scope, scope⟩ (cxOf (L2.CX P w) P w K mg base N qual scope f cdv A outer s H E) :=
    ⟨⟨rfl, hN.symm, S.nd, rfl, hr, fun _ _ => rfl, hd.blt, hd.con, hd.fn, hd.kw, hr.mono hm, hd.xv _ rfl rfl rfl, hd.x0 _ rfl rfl, hd.xis _ rfl rfl⟩, fun X' e1 e2 e3 e4 e5 e6 e7 => hd.exc X' e1 e2 e3 e4 e5 e7 (by rw [e6]; exact hr.mono hm), hd.cat _ rfl rfl, rfl, rfl, rfl⟩
  have tk : Takes (cxOf (L2.CX P w) P w K mg base N qual scope f cdv A outer s H E) (fun cls d _ H => E cls d H) := takes_of rfl rfl rfl rfl
  have hp : PassesOwn (model P w) (cxOf (L2.CX P w) P w K mg base N qual scope f cdv A outer s H E).A (cxOf (L2.CX P w) P w K mg base N qual scope f cdv A outer s H E).env (cxOf (L2.CX P w) P w K mg base N qual scope f cdv A outer s H E).xe := passes_of (K := fun e s'' => L2.CX P w outer H s E e s'') rfl
  cases hb : d.io with
  | false =>
    rw [hb] at hsp
    obtain ⟨hl, F, ds, sF, dv, hg⟩ := hsp
    have z := Ss_ok Γ (runD Φ n) XR m loops d.body ⟨scope, scope⟩ body hchk _ none _ good (.inl rfl) tk hp
    refine ⟨_, z, F, entry d ds none, entry_ok0 sF dv hns hl hle, ?_⟩
    rw [runD_some hΦ (by rw [hb]; rfl) (by rw [hb, ← dv.length, hl]; simp)] at hg
    have af : ∀ {F' H' : Hp} {ρ' : Env} {σ' : L2.St}, Ok K none F' ρ' σ' H' → Step F (entry d ds none) (L2.start N vs) H F' ρ' σ' H' → After (fun _ => False) F H F' H' := fun o s => ⟨o.sub, s.ex, fun a u h _ => s.keep a u h entry_own0, fun a h => (s.new a h).elim .inl fun h => h.elim (fun h => absurd h entry_own0) fun h => .inr (.inr h), s.there⟩
    cases e : evSs (runD Φ n) loops d.body (entry d ds none) with
    | next ρ' =>
      rw [e] at hg
      simp only [endsF, hb] at hg
      exact fun F' σ' H' o s => hg .non F' H' (af o s) .non
    | ret v ρ' =>
      rw [e] at hg
      simp only [endsF, hb] at hg
      intro u F' σ' H' o s r
      refine hg u F' H' (af o s) ?_
      cases v with
      | fr d => exact r
      | ow xs =>
        obtain ⟨p, us, h1, h2, h3, h4, _, h6⟩ := r
        exact ⟨p, us, h1, h2, h3, h4, h6.elim (fun h => absurd h entry_own0) fun h => h⟩
    | exc k xs ρ' =>
      rw [e] at hg
      simp only [endsF, hb] at hg
      exact fun cls dd F' σ' H' o s r => hg cls dd F' H' (af o s) r
    | brk ρ' => rw [e] at hg; exact hg.elim
    | cont ρ' => rw [e] at hg; exact hg.elim
    | stuck => rw [e] at hg; exact hg.elim
  | true =>
    rw [hb] at hsp
    obtain ⟨hl, F, ds, b, vs0, xs0, r, rfl, sF, hF, hH, d0, dv, hg⟩ := hsp
    have z := Ss_ok Γ (runD Φ n) XR m loops d.body ⟨scope, scope⟩ body hchk _ (some (.ref b)) _ good (.inr (by rw [hio, hb])) tk hp
    refine ⟨_, z, F, entry d ds (some xs0), entry_ok1 sF hF hH d0 dv hns hl hle, ?_⟩
    rw [runD_some hΦ (by rw [hb]; rfl) (by rw [hb, ← dv.length, ← hl]; simp; omega)] at hg
    have af : ∀ {F' H' : Hp} {ρ' : Env} {σ' : L2.St}, Ok K (some (.ref b)) F' ρ' σ' H' → Step F (entry d ds (some xs0)) (L2.start N (.ref b :: r)) H F' ρ' σ' H' → After (fun a => a = b) F H F' H' := fun o s => ⟨o.sub, s.ex, fun a u h n => s.keep a u h fun z => n (entry_own1 z), fun a h => (s.new a h).elim .inl fun h => h.elim (fun h => .inr (.inl (entry_own1 h))) fun h => .inr (.inr h), s.there⟩
    have box : ∀ {F' H' : Hp} {ρ' : Env} {σ' : L2.St} {ys : List D}, Ok K (some (.ref b)) F' ρ' σ' H' → ρ'[0]? = some (.ow ys) → ∃ vs1, F' b = none ∧ H' b = some (.lst vs1) ∧ DqAll K F' vs1 ys ∧ OwnAt ρ' σ' b := fun {F' H' ρ' σ' ys} o h => by
      obtain ⟨a, us, h1, h2, h3, h4⟩ := o.ow 0 ys h
      have hp := o.pin _ rfl
      rw [h1] at hp
      cases hp
      exact ⟨us, h2, h3, h4, 0, ys, h, h1⟩
    cases e : evSs (runD Φ n) loops d.body (entry d ds (some xs0)) with
    | next ρ' =>
      rw [e] at hg
      simp only [endsF, hb, if_true] at hg
      split at hg
      · rename_i v ys heq
        split at heq
        · rename_i h0
          cases heq
          intro F' σ' H' o s
          obtain ⟨vs1, k1, k2, k3, _⟩ := box o h0
          exact hg .non vs1 F' H' (af o s) k1 k2 k3 .non
        · cases heq
      · exact hg.elim
    | ret v ρ' =>
      rw [e] at hg
      simp only [endsF, hb, if_true] at hg
      split at hg
      · rename_i v' ys heq
        split at heq
        · rename_i h0
          cases heq
          intro u F' σ' H' o s rr
          obtain ⟨vs1, k1, k2, k3, k4⟩ := box o h0
          refine hg u vs1 F' H' (af o s) k1 k2 k3 ?_
          cases v with
          | fr d => exact rr
          | ow xs =>
            obtain ⟨p, us, h1, h2, h3, h4, h5, h6⟩ := rr
            refine ⟨p, us, h1, h2, h3, h4, h6.elim (fun h => ?_) fun h => h⟩
            have e := entry_own1 h
            subst e
            exact absurd k4 h5
        · cases heq
      · exact hg.elim
    | exc k xs ρ' =>
      rw [e] at hg
      simp only [endsF, hb, if_true] at hg
    | brk ρ' => rw [e] at hg; exact hg.elim
    | cont ρ' => rw [e] at hg; exact hg.elim
    | stuck => rw [e] at hg; exact hg.elim
end
end Dl
end
section
set_option linter.all false
set_option maxRecDepth 100000
set_option maxHeartbeats 4000000
/-! DlTab: all defs of a law at once. -/
namespace Dl
open PySem PySem.Spec PyProof.Rows L2
mutual
/-- equal data, decided -/
def eqPD : D → D → Bool
  | .none, .none => true
  | .bool a, .bool b => a == b
  | .int a, .int b => decide (a = b)
  | .str a, .str b => decide (a = b)
  | .list xs, .list ys => eqPL xs ys
  | .tuple xs, .tuple ys => eqPL xs ys
  | _, _ => false
def eqPL : List D → List D → Bool
  | [], [] => true
  | x :: xs, y :: ys => eqPD x y && eqPL xs ys
  | _, _ => false
end
def gmOf (tab : List (Nat × FDef)) (info : List (Nat × Str × List Str)) (consts : List (Str × D)) (excs : List (Nat × Str × Nat)) (blt : List Str) (kw : List (Nat × Str × List Str × List Nat)) (xf : List (Nat × Option Str × List Str)) (id : Nat) (xv : List (Str × Str) := []) (x0 : List Str := []) (xis : List (Str × Str × Bool) := []) : Gm where
  N := ((info.lookup id).map (·.2)).getD []
  fn := fun f => match info.lookup f, tab.lookup f with
    | some i, some d => some (i.1, d.np, d.io)
    | _, _ => none
  con := fun x d => match consts.lookup x with
    | some e => eqPD e d
    | none => false
  blt := blt
  exc := fun k => excs.lookup k
  io := ((tab.lookup id).map (·.io)).getD false
  kw := kw
  xv := xv
  x0 := x0
  xis := xis
  xfld := fun k => ((xf.lookup k).map (·.1)).getD none
  xbase := fun k => ((xf.lookup k).map (·.2)).getD []
def builtinsAll : List Str := ["len", "tuple", "list", "all", "any", "sum", "abs", "int", "min", "max", "sorted", "set", "range", "zip", "enumerate", "isinstance", "str", "bool", "LookupError", "ValueError"]
def defsOf (p : Program) : List (Str × Scope × List Stmt) := p.main.body.filterMap fun st => match st with
  | .FunctionDef name _ body _ _ _ scope _ _ _ => some (name, scope, body)
  | _ => none
/-- which defs of the table are told rightly -/
def tableCheck (p : Program) (tab : List (Nat × FDef)) (info : List (Nat × Str × List Str)) (consts : List (Str × D)) (excs : List (Nat × Str × Nat)) (kw : List (Nat × Str × List Str × List Nat)) (xf : List (Nat × Option Str × List Str)) (xv : List (Str × Str) := []) (x0 : List Str := []) (xis : List (Str × Str × Bool) := []) : List (String × Bool) := tab.map fun (id, d) =>
  match info.lookup id with
  | some (name, N) => (match (defsOf p).lookup name with
    | some (sc, body) => (String.mk (name.cps.toList.map Char.ofNat), chkSs (gmOf tab info consts excs builtinsAll kw xf id xv x0 xis) d.body ⟨sc, sc⟩ body)
    | none => ("?", false))
  | none => ("??", false)
end Dl
end
section
set_option linter.all false
set_option maxRecDepth 100000
set_option maxHeartbeats 4000000
/-! DlHead: what the head tells: defs by names, own exceptions. -/
namespace Dl
open PySem PySem.Spec PyProof.Rows L2 He
/-- more of the classes of exceptions: one without an __init__, whether one's instances are instances of another one, of a built-in one -/
inductive Xz where
  | cls0 (x : Str) (B newId initId : String) (tl : List Value)
  | own (x c : Str) (b : Bool)
  | blt (x c : Str) (T : String) (b : Bool)
/-- an own class of exceptions with an __init__(me, fld) -/
structure XcD where
  x : Str
  id : Nat
  B : String
  newId : String
  initId : String
  tl : List Value
  bs : List (Str × String)
  me : Str
  fld : Str
  name : Str
  qual : Str
  params : Arguments
  body : List Stmt
  scope : Scope
  file : Str
  zs : List Xz := []
abbrev XcW : Type := Option (Str × Str × Arguments × FuncBody × Scope × Addr × Addr × Value)
def XcD.val (d : XcD) : XcW := some (d.name, d.qual, d.params, .stmts d.body, d.scope, mainGlobals, builtinsNs, .none)
def XcD.fI (K : PySem.W.Frag) (d : XcD) : Addr := ma K (ga K d.x) "__init__"
def XcD.obs (K : PySem.W.Frag) (d : XcD) : XcW := match K.lookup (d.fI K) with
  | some ⟨_, _, .func fd, _⟩ => some (fd.name, fd.qualname, fd.params, fd.body, fd.scope, fd.globals, fd.builtins, fd.defaults)
  | _ => none
def fileB (K : PySem.W.Frag) (file : Str) (cd : Value) : Bool := match cd with
  | .ref a => (match K.lookup a with
    | some ⟨_, _, .fields vs, _⟩ => (match (vs[2]? : Option Value) with
      | some (.str f _) => file == f
      | _ => false)
    | _ => false)
  | _ => false
def clsCellB (K : PySem.W.Frag) (C : Addr) (cl : List (Str × Addr)) : Bool := match cl with
  | [(n, cc)] => decide (n = ("__class__" : Str)) && (match K.lookup cc with
    | some ⟨_, _, .cell (some (.ref D)), _⟩ => decide (D = C)
    | _ => false)
  | _ => false
def clsB (K : PySem.W.Frag) (C : Addr) (tl : List Value) (newId : String) : Bool := match K.lookup C with
  | some ⟨.type "type", _, .cls cd, sl⟩ => (match sl.toList with
    | [_, _, _, _, some (.builtin n), _] => decide (cd.mro = .ref C :: tl) && n == newId && !cd.hasDel && cd.hasDict
    | _ => false)
  | _ => false
def excB (K : PySem.W.Frag) (C : Addr) : Bool := eqO (PySem.W.findIn K (.ref C) "__getattribute__") (some (some (.builtin "BaseException.__getattribute__"))) && (eqO (PySem.W.findIn K (.ref C) "__getattr__") (some none) && (decide (PySem.W.subIn K (.ref C) (.type "BaseException") = some true) && (PySem.W.hasDictIn K C &&
  (eqO (PySem.W.findIn K (.ref C) "__class__") (some (some (.builtin "object.__class__"))) && (eqO (PySem.W.specialIn K (.builtin "object.__class__") "__get__") (some (some (.builtin "getset_descriptor.__get__"))) && (decide (PySem.W.takesIn K (.builtin "object.__class__") = some true) && decide (PySem.W.mroIn K C (.type "object") = some true)))))))
def Xz.ok (K : PySem.W.Frag) : Xz → Bool
  | .cls0 x _ newId _ tl => PySem.W.excIn K (ga K x) tl newId && (PySem.W.keepIn K (.ref (ga K x)) && (eqO (PySem.W.nsIn K mainGlobals x) (some (some (.ref (ga K x)))) && excB K (ga K x)))
  | .own x c b => excB K (ga K x) && (eqO (PySem.W.nsIn K mainGlobals c) (some (some (.ref (ga K c)))) && decide (PySem.W.kitOne K (.ref (ga K x)) (.ref (ga K c)) = some b))
  | .blt x c T b => excB K (ga K x) && (eqO (PySem.W.nsIn K mainGlobals c) (some none) && decide (PySem.W.kitOne K (.ref (ga K x)) (.type T) = some b))
def XcD.ok (K : PySem.W.Frag) (d : XcD) : Bool := d.zs.all (fun z => z.ok K) && (clsB K (ga K d.x) d.tl d.newId && ((match K.lookup (d.fI K) with
  | some ⟨_, _, .func fd, _⟩ => PySem.W.codeIn K fd.code d.qual && (fileB K d.file fd.code && clsCellB K (ga K d.x) fd.closure)
  | _ => false) && (eqO (PySem.W.findIn K (.ref (ga K d.x)) d.fld) (some none) && (eqO (PySem.W.findIn K (.ref (ga K d.x)) "__setattr__") (some (some (.builtin "object.__setattr__"))) && (eqO (PySem.W.nsIn K cStatics "thirdparty.any") (some none) &&
  (decide (PySem.W.typeIn K (.ref (d.fI K)) = some (.type "function")) && (eqO (PySem.W.findIn K (.ref (ga K d.x)) "__init__") (some (some (.ref (d.fI K)))) && (decide (PySem.W.subIn K (.ref (ga K d.x)) (.type "BaseException") = some true) && (decide (PySem.W.typeIn K (.ref (ga K d.x)) = some (.type "type")) &&
  (PySem.W.keepIn K (.ref (ga K d.x)) && (excB K (ga K d.x) && (eqO (PySem.W.nsIn K mainGlobals d.x) (some (some (.ref (ga K d.x)))) && d.bs.all fun b => decide (PySem.W.kitOne K (.ref (ga K d.x)) (.type b.2) = some true)))))))))))))
/-- which class of which -/
def pairsB (K : PySem.W.Frag) (xs : List XcD) : Bool := xs.all fun d => xs.all fun e => decide (PySem.W.exmOne K (.ref (ga K d.x)) (.ref (ga K e.x)) = some (Nat.beq e.id d.id))
/-! ### the Hook -/
def asX (g : Addr → Option Obj) : Nat → List Addr
  | 0 => [mainGlobals, cStatics]
  | n + 1 => growD g (asX g n)
abbrev AlX : Type := Bool × List FnW × List XcW
def obsX (fa : List Fa) (fn : List DefD) (xs : List XcD) (K : PySem.W.Frag) : AlX := ((fa.all fun f => f.ok K) && ((fn.all fun d => d.ok K) && ((xs.all fun d => d.ok K) && pairsB K xs)), fn.map fun d => fnW K d.at_, xs.map fun d => d.obs K)
def valX (fn : List DefD) (xs : List XcD) : AlX := (true, fn.map DefD.val, xs.map XcD.val)
def SaysX (fa : List Fa) (fn : List DefD) (xs : List XcD) (K : PySem.W.Frag) : Prop := obsX fa fn xs K = valX fn xs
def obsXG (n : Nat) (fa : List Fa) (fn : List DefD) (xs : List XcD) (g : Addr → Option Obj) : AlX := obsX fa fn xs (frG g (asX g n))
def hookX (n : Nat) (fa : List Fa) (fn : List DefD) (xs : List XcD) : PySem.W.Hook where
  α := AlX
  obs := fun s => obsXG n fa fn xs s.heap.get?
  val := fun _ => valX fn xs
  says := fun _ h => ∃ K : PySem.W.Frag, K.In h ∧ SaysX fa fn xs K
  of := fun _ _ e => ⟨_, frG_in, e⟩
  keeps := fun _ _ _ ⟨K, hK, c⟩ k => ⟨K, PySem.W.Frag.In.keeps hK k, c⟩
theorem obsXG_eq {n : Nat} {fa : List Fa} {fn : List DefD} {xs : List XcD} {g : Addr → Option Obj} {s : Shared} (h : ∀ a, g a = s.heap.get? a) : obsXG n fa fn xs g = (hookX n fa fn xs).obs s := by
  have e : g = s.heap.get? := funext h
  rw [e]
  rfl
section
variable {fa : List Fa} {fn : List DefD} {xs : List XcD} {K : PySem.W.Frag}
theorem SaysX.fact (c : SaysX fa fn xs K) {f : Fa} (h : f ∈ fa) : f.ok K = true := by
  have c1 := (ba (show ((fa.all fun f => f.ok K) && ((fn.all fun d => d.ok K) && ((xs.all fun d => d.ok K) && pairsB K xs))) = true from congrArg (fun z : AlX => z.1) c)).1
  exact List.all_eq_true.mp c1 f h
theorem SaysX.def_ (c : SaysX fa fn xs K) {d : DefD} (h : d ∈ fn) : ∃ fd, FunD K d.name d.qual d.params d.body d.scope (d.dvs K) (d.kws K) (fAd K d.at_) fd := by
  have c2 := (ba (ba (show ((fa.all fun f => f.ok K) && ((fn.all fun d => d.ok K) && ((xs.all fun d => d.ok K) && pairsB K xs))) = true from congrArg (fun z : AlX => z.1) c)).2).1
  have e : fn.map (fun d => fnW K d.at_) = fn.map DefD.val := congrArg (fun z : AlX => z.2.1) c
  obtain ⟨i, hi⟩ := List.getElem?_of_mem h
  have e2 : (fn.map fun d => fnW K d.at_)[i]? = (fn.map DefD.val)[i]? := by rw [e]
  rw [List.getElem?_map, List.getElem?_map, hi] at e2
  exact DefD.funD (Option.some.inj e2) (List.all_eq_true.mp c2 d h)
theorem SaysX.pair (c : SaysX fa fn xs K) {d e : XcD} (hd : d ∈ xs) (he : e ∈ xs) : PySem.W.exmOne K (.ref (ga K d.x)) (.ref (ga K e.x)) = some (Nat.beq e.id d.id) := by
  have c2 := (ba (ba (ba (show ((fa.all fun f => f.ok K) && ((fn.all fun d => d.ok K) && ((xs.all fun d => d.ok K) && pairsB K xs))) = true from congrArg (fun z : AlX => z.1) c)).2).2).2
  exact of_decide_eq_true (List.all_eq_true.mp (List.all_eq_true.mp c2 d hd) e he)
/-- what the text says of that __init__ -/
structure XcT (P : Program) (d : XcD) : Prop where
  T : ExB d.B d.newId d.initId d.tl
  body : ∃ p0 p1 p2 p3 p4 p5 p6 p7 p8 p9, d.body = initBody d.me d.fld p0 p1 p2 p3 p4 p5 p6 p7 p8 p9 ∧ (p2.endLine == p4.line) = true
  par : ∃ ar, (d.params.posonlyargs ++ d.params.args).head? = some ar ∧ ar.arg = d.me
  sc : d.scope.names.lookup ("super" : Str) = some .globalImplicit ∧ d.scope.names.lookup ("__class__" : Str) = some .free ∧ d.scope.names.lookup d.me = some .local ∧ d.scope.names.lookup d.fld = some .local ∧ (∀ y ∈ d.scope.names, y.2 ≠ .cell) ∧ d.scope.isCoroutine = false ∧ d.scope.isGenerator = false ∧ d.scope.kind = .function
  ne : d.me ≠ d.fld
  dx : (d.fld == ("__debug__" : Str)) = false
  ds : (d.me == ("__debug__" : Str)) = false
  file : P.main.file = d.file
  top : (P.main.scope.names.lookup ("super" : Str)).isSome = false
  bind : ∀ (kV doc pm : Value) (an : Option Addr) (cdv ct : Value) (cc : Addr) (us : List Value), us.length = 2 → bindArgs (PySem.W.ksFn d.name d.qual d.params d.body d.scope .none kV doc pm an cdv ct cc) ⟨us, []⟩ = pure ([d.me, d.fld].zip us)
  bindk : ∀ (kV doc pm : Value) (an : Option Addr) (cdv ct : Value) (cc : Addr) (self u : Value), bindArgs (PySem.W.ksFn d.name d.qual d.params d.body d.scope .none kV doc pm an cdv ct cc) ⟨[self], [(d.fld, u)]⟩ = pure [(d.me, self), (d.fld, u)]
theorem clsB_ok {C : Addr} {tl : List Value} {newId : String} (h : clsB K C tl newId = true) : ∃ nm q N bs sn sub ab col dd k0 k1 k2 k3 k5, K.lookup C = some (excClassObj nm q C N bs tl true sn sub ab col dd k0 k1 k2 k3 k5 newId) := by
  unfold clsB at h
  split at h
  · rename_i dd cd sl ho
    split at h
    · rename_i k0 k1 k2 k3 n k5 hs
      simp only [Bool.and_eq_true, beq_iff_eq, Bool.not_eq_true', decide_eq_true_eq] at h
      obtain ⟨⟨⟨h1, rfl⟩, h2⟩, h3⟩ := h
      obtain ⟨nm, bs, mro, ns, qn, hd, sn, sub, ab, col, del⟩ := cd
      dsimp only at h1 h2 h3
      subst h1 h2 h3
      have hsl : sl = #[k0, k1, k2, k3, some (.builtin n), k5] := by
        obtain ⟨l⟩ := sl
        simp only at hs
        rw [hs]
      subst hsl
      exact ⟨nm, qn, ns, bs, sn, sub, ab, col, dd, k0, k1, k2, k3, k5, ho⟩
    · cases h
  · cases h
theorem fileB_ok {file : Str} {cd : Value} (h : fileB K file cd = true) : ∃ cda ccl cdd vs ccs f tf, cd = .ref cda ∧ K.lookup cda = some ⟨ccl, cdd, .fields vs, ccs⟩ ∧ (vs[2]? : Option Value) = some (.str f tf) ∧ (file == f) = true := by
  unfold fileB at h
  split at h
  · split at h
    · split at h
      · exact ⟨_, _, _, _, _, _, _, rfl, by assumption, by assumption, h⟩
      · cases h
    · cases h
  · cases h
theorem clsCellB_ok {C : Addr} {cl : List (Str × Addr)} (h : clsCellB K C cl = true) : ∃ cc c cd csl, cl = [(("__class__" : Str), cc)] ∧ K.lookup cc = some ⟨c, cd, .cell (some (.ref C)), csl⟩ := by
  unfold clsCellB at h
  split at h
  · obtain ⟨h1, h2⟩ := ba h
    have e := of_decide_eq_true h1
    subst e
    split at h2
    · have e2 := of_decide_eq_true h2
      subst e2
      exact ⟨_, _, _, _, rfl, by assumption⟩
    · cases h2
  · cases h
theorem SaysX.exi {P : Program} {mg : Str → Option Value} (c : SaysX fa fn xs K) {d : XcD} (h : d ∈ xs) (T : XcT P d) (mgs : mg "super" = none) : ∃ fd, ExI P K mg d.newId d.tl (ga K d.x) (d.fI K) d.me d.fld d.qual fd := by
  have c1 := (ba (ba (ba (show ((fa.all fun f => f.ok K) && ((fn.all fun d => d.ok K) && ((xs.all fun d => d.ok K) && pairsB K xs))) = true from congrArg (fun z : AlX => z.1) c)).2).2).1
  have e : xs.map (fun d => d.obs K) = xs.map XcD.val := congrArg (fun z : AlX => z.2.2) c
  obtain ⟨i, hi⟩ := List.getElem?_of_mem h
  have e2 : (xs.map fun d => d.obs K)[i]? = (xs.map XcD.val)[i]? := by rw [e]
  rw [List.getElem?_map, List.getElem?_map, hi] at e2
  have e2 : d.obs K = d.val := Option.some.inj e2
  have k := (ba (List.all_eq_true.mp c1 d h)).2
  obtain ⟨k1, k⟩ := ba k
  obtain ⟨k2, k⟩ := ba k
  obtain ⟨k3, k⟩ := ba k
  obtain ⟨k4, k⟩ := ba k
  obtain ⟨k5, k⟩ := ba k
  obtain ⟨k6, k⟩ := ba k
  obtain ⟨k7, k⟩ := ba k
  obtain ⟨k8, k⟩ := ba k
  obtain ⟨k9, k⟩ := ba k
  obtain ⟨k10, k⟩ := ba k
  unfold XcD.obs at e2
  split at e2
  · rename_i oc od fd osl hl
    rw [hl] at k2
    obtain ⟨m1, m2⟩ := ba k2
    obtain ⟨m2, m3⟩ := ba m2
    obtain ⟨n1, n2, n3, n4, n5, n6, n7, n8, n9, n10, n11, n12, n13, n14, n15⟩ := fd
    have e3 : (some (n1, n2, n3, n4, n5, n6, n15, n8) : XcW) = some (d.name, d.qual, d.params, .stmts d.body, d.scope, mainGlobals, builtinsNs, .none) := e2
    simp only [Option.some.injEq, Prod.mk.injEq] at e3
    obtain ⟨h1, h2, h3, h4, h5, h6, h8, h9⟩ := e3
    subst h1 h2 h3 h4 h5 h6 h8 h9
    obtain ⟨cda, ccl, cdd, vs, ccs, f, tf, rfl, lcda, hvs, hfl⟩ := fileB_ok (show fileB K d.file n13 = true from m2)
    obtain ⟨cc, cl, cld, csl, rfl, lcc⟩ := clsCellB_ok (show clsCellB K (ga K d.x) n7 = true from m3)
    obtain ⟨p0, p1, p2, p3, p4, p5, p6, p7, p8, p9, hb, hline⟩ := T.body
    obtain ⟨ar, ha1, ha2⟩ := T.par
    refine ⟨_, ⟨clsB_ok k1, ⟨d.name, d.params, d.scope, .none, n9, n10, n11, n12, cda, n14, cc, oc, od, osl, p0, p1, p2, p3, p4, p5, p6, p7, p8, p9, ar, rfl, ?_, m1, ⟨ccl, cdd, vs, ccs, f, tf, lcda, hvs, by rw [T.file]; exact hfl⟩, ⟨cl, cld, csl, lcc⟩, ha1, ha2, hline, T.sc⟩, T.ne, T.dx, T.ds, eqO_ok k3, eqO_ok k4, eqO_ok k5, T.top, mgs, ?_, ?_, of_decide_eq_true k6, eqO_ok k7, of_decide_eq_true k8, of_decide_eq_true k9, k10⟩⟩
    · rw [← hb]; exact hl
    · rw [← hb]
      exact L2.Binds.all fun us hu => T.bind n9 n10 n11 n12 _ n14 cc us hu
    · rw [← hb]
      exact fun s self u => BindsTo.of_eq (T.bindk n9 n10 n11 n12 _ n14 cc self u)
  · cases e2
theorem SaysX.cat {XR : XRel} {X : Cx} (c : SaysX fa fn xs X.K) {d : XcD} (h : d ∈ xs) (hg : X.mg d.x = some (.ref (ga X.K d.x))) (hb : ∀ b ∈ d.bs, b.1 ≠ "__name__" ∧ (b.1 == ("__debug__" : Str)) = false ∧ bootBuiltins b.1 = some (.type b.2))
    (hx : ∀ F H cls dd k ys, XR F H cls dd k ys → ∃ e ∈ xs, e.id = k ∧ cls = .ref (ga X.K e.x)) (hcl : ∀ F H cls dd ys, XR F H cls dd d.id ys → cls = .ref (ga X.K d.x) ∧ ∃ a v y, dd = some a ∧ ys = [y] ∧ H a = some (.xd [(d.fld, v)]) ∧ Dq X.K F v y ∧ F a = some (.xd [(d.fld, v)])) :
    CatOk X XR d.id d.x (ga X.K d.x) (some d.fld) (d.bs.map (·.1)) := by
  have c1 := (ba (ba (ba (show ((fa.all fun f => f.ok X.K) && ((fn.all fun d => d.ok X.K) && ((xs.all fun d => d.ok X.K) && pairsB X.K xs))) = true from congrArg (fun z : AlX => z.1) c)).2).2).1
  have k := (ba (List.all_eq_true.mp c1 d h)).2
  obtain ⟨k1, k⟩ := ba k
  obtain ⟨k2, k⟩ := ba k
  obtain ⟨k3, k⟩ := ba k
  obtain ⟨k4, k⟩ := ba k
  obtain ⟨k5, k⟩ := ba k
  obtain ⟨k6, k⟩ := ba k
  obtain ⟨k7, k⟩ := ba k
  obtain ⟨k8, k⟩ := ba k
  obtain ⟨k9, k⟩ := ba k
  obtain ⟨k10, k⟩ := ba k
  obtain ⟨k11, k⟩ := ba k
  obtain ⟨k12, k13⟩ := ba k
  obtain ⟨x1, x⟩ := ba k11
  obtain ⟨x2, x⟩ := ba x
  obtain ⟨x3, x⟩ := ba x
  obtain ⟨x4, x⟩ := ba x
  obtain ⟨x5, x⟩ := ba x
  obtain ⟨x6, x⟩ := ba x
  obtain ⟨x7, x8⟩ := ba x
  refine ⟨hg, fun F H cls dd k ys r => ?_, fun F H cls dd ys r => ?_, fun f hf => ?_, ⟨eqO_ok x1, eqO_ok x2, of_decide_eq_true x3, x4, eqO_ok x5, eqO_ok x6, of_decide_eq_true x7, of_decide_eq_true x8⟩, fun b hbm => ?_⟩
  · obtain ⟨e, he, rfl, rfl⟩ := hx F H cls dd k ys r
    exact c.pair he h
  · obtain ⟨e1, a, v, y, e2, e3, e4, e5⟩ := hcl F H cls dd ys r
    refine ⟨e1, fun f hf => ?_, fun z hz => ?_⟩
    · cases hf
      exact ⟨a, v, y, e2, e3, e4, e5⟩
    · rw [e2] at hz
      cases hz
      exact ⟨_, e4⟩
  · cases hf
    exact ⟨⟨eqO_ok x1, eqO_ok x2, of_decide_eq_true x3, x4⟩, eqO_ok k3⟩
  · obtain ⟨b', hb', rfl⟩ := List.mem_map.mp hbm
    obtain ⟨h1, h2, h3⟩ := hb b' hb'
    exact ⟨h1, h2, b'.2, h3, of_decide_eq_true (List.all_eq_true.mp k13 b' hb')⟩
theorem excB_ok {C : Addr} (h : excB K C = true) : ExcC K C ∧ XfC K C := by
  obtain ⟨x1, x⟩ := ba h
  obtain ⟨x2, x⟩ := ba x
  obtain ⟨x3, x⟩ := ba x
  obtain ⟨x4, x⟩ := ba x
  obtain ⟨x5, x⟩ := ba x
  obtain ⟨x6, x⟩ := ba x
  obtain ⟨x7, x8⟩ := ba x
  exact ⟨⟨eqO_ok x1, eqO_ok x2, of_decide_eq_true x3, x4, eqO_ok x5, eqO_ok x6, of_decide_eq_true x7, of_decide_eq_true x8⟩, ⟨eqO_ok x1, eqO_ok x2, of_decide_eq_true x3, x4⟩⟩
theorem SaysX.dok (c : SaysX fa fn xs K) {d : XcD} (h : d ∈ xs) : d.ok K = true :=
  List.all_eq_true.mp (ba (ba (ba (show ((fa.all fun f => f.ok K) && ((fn.all fun d => d.ok K) && ((xs.all fun d => d.ok K) && pairsB K xs))) = true from congrArg (fun z : AlX => z.1) c)).2).2).1 d h
theorem SaysX.xz (c : SaysX fa fn xs K) {d : XcD} (h : d ∈ xs) {z : Xz} (hz : z ∈ d.zs) : z.ok K = true := List.all_eq_true.mp (ba (c.dok h)).1 z hz
theorem SaysX.xf (c : SaysX fa fn xs K) {d : XcD} (h : d ∈ xs) : XfOk K d.x d.fld := by
  have k := (ba (c.dok h)).2
  obtain ⟨k1, k⟩ := ba k
  obtain ⟨k2, k⟩ := ba k
  obtain ⟨k3, k⟩ := ba k
  obtain ⟨k4, k⟩ := ba k
  obtain ⟨k5, k⟩ := ba k
  obtain ⟨k6, k⟩ := ba k
  obtain ⟨k7, k⟩ := ba k
  obtain ⟨k8, k⟩ := ba k
  obtain ⟨k9, k⟩ := ba k
  obtain ⟨k10, k⟩ := ba k
  obtain ⟨k11, k⟩ := ba k
  exact ⟨(excB_ok k11).2, eqO_ok k3⟩
end
end Dl
end
section
set_option linter.all false
set_option maxRecDepth 100000
set_option maxHeartbeats 4000000
/-! DlDefs: all defs of a law keep what the evaluator says. -/
namespace Dl
open PySem PySem.Spec PyProof.Rows L2 He
/-! ### the errors -/
def XRof (K : PySem.W.Frag) (xs : List XcD) : XRel := fun F H cls d k ys => ∃ e ∈ xs, e.id = k ∧ cls = .ref (ga K e.x) ∧ ∃ a v y, d = some a ∧ ys = [y] ∧ H a = some (.xd [(e.fld, v)]) ∧ Dq K F v y ∧ F a = some (.xd [(e.fld, v)])
theorem tmk_imp {K : PySem.W.Frag} {P : Option V} {XR : XRel} {W : WX} {k : Nat} {C : Addr} {f : Str} {h : Env → R (List D × Env)} (hl : ∀ ρ ds ρ', h ρ = .ok (ds, ρ') → ds.length = 1) (hx : ∀ F H a v y, H a = some (.xd [(f, v)]) → Dq K F v y → F a = some (.xd [(f, v)]) → XR F H (.ref C) (some a) k [y]) (σ : L2.St) (H : Hp) (Q : XK)
    (q : tMk K P XR W k h σ H Q) : tMkI C f (tVs K P XR W h) σ H Q := by
  obtain ⟨F, ρ, ok, q⟩ := q
  refine ⟨F, ρ, ok, ?_⟩
  cases e : h ρ with
  | ok a =>
    rw [e] at q
    intro vs F' H' o s r
    have r : DqAll K F' vs a.1 := r
    have l1 : a.1.length = 1 := hl ρ a.1 a.2 e
    obtain ⟨y, hy⟩ := List.length_eq_one_iff.mp l1
    rw [hy] at r
    cases r with
    | cons d1 r2 =>
      cases r2
      rename_i v
      refine ⟨v, rfl, fun dd hd => ?_⟩
      obtain ⟨o1, s1, eF, _⟩ := o.laid (u := .xd [(f, v)]) hd
      refine q (.ref C, some dd) _ _ o1 (s.trans s1) ?_
      show XR _ (upd H' dd (.xd [(f, v)])) (.ref C) (some dd) k a.1
      rw [hy]
      exact hx _ _ dd v y upd_same (Dq.ext eF d1) upd_same
  | exc c xs ρ' => rw [e] at q; exact q
  | stuck => rw [e] at q; exact q
theorem excB_of {Γ : Gm} {fa : List Fa} {fn : List DefD} {xs : List XcD} {K : PySem.W.Frag} {P : Program} {mg : Str → Option Value} (c : SaysX fa fn xs K) (ht : ∀ d ∈ xs, XcT P d) (mgs : mg "super" = none) (hm : ∀ d ∈ xs, mg d.x = some (.ref (ga K d.x))) (hex : ∀ k g np, Γ.exc k = some (g, np) → ∃ d ∈ xs, d.id = k ∧ d.x = g ∧ np = 1)
    (X : Cx) (e1 : X.prog = P) (e2 : X.K = K) (e3 : X.mg = mg) (hr : Room 1 X.A) : ExcB Γ (XRof K xs) X := by
  intro k g np hk hg hdb P' W x es h p pos tk hns hlen ha
  obtain ⟨d, hd, rfl, rfl, rfl⟩ := hex k g np hk
  subst e1 e2 e3
  obtain ⟨fd, G⟩ := c.exi hd (ht d hd) mgs
  obtain ⟨n1, n2⟩ := and2 (show (nstar _ && nstars _) = true from hns)
  have z := pmk_i hr (ht d hd).T G hg (hm d hd) ha hdb (star_of n1) (plain_args (pos := pos) n2) (p := p)
  exact fun pins s σ H Q I q => z pins s σ H Q I (tmk_imp hlen (fun F H a v y h1 h2 h3 => ⟨d, hd, rfl, rfl, a, v, y, rfl, rfl, h1, h2, h3⟩) σ H Q q)
/-! ### the table -/
def freesOf (fa : List Fa) : List Str := fa.filterMap fun f => match f with
  | .free x => some x
  | _ => none
def conOf (fa : List Fa) (x : Str) (d : D) : Bool := fa.any fun f => match f, d with
  | .int y i, .int j => decide (y = x) && decide (i = j)
  | .str y z, .str u => decide (y = x) && decide (z = u)
  | _, _ => false
def Tb.zl (xs : List XcD) : List Xz := xs.flatMap (·.zs)
def x0Of (zs : List Xz) : List Str := zs.filterMap fun z => match z with
  | .cls0 x .. => some x
  | _ => none
def xisOf (zs : List Xz) : List (Str × Str × Bool) := zs.filterMap fun z => match z with
  | .own x c b => some (x, c, b)
  | .blt x c _ b => some (x, c, b)
  | _ => none
/-- what is known of these by themselves -/
def XzT : Xz → Prop
  | .cls0 _ B newId initId tl => ExB B newId initId tl
  | .own _ c _ => c ≠ "__name__" ∧ (c == ("__debug__" : Str)) = false
  | .blt _ c T _ => bootBuiltins c = some (.type T) ∧ c ≠ "__name__" ∧ (c == ("__debug__" : Str)) = false
/-- a law's table -/
structure Tb where
  tab : List (Nat × FDef)
  info : List (Nat × Str × List Str)
  fa : List Fa
  fn : List DefD
  xs : List XcD
  kw : List (Nat × Str × List Str × List Nat)
def Tb.Φ (t : Tb) : Defs := fun f => t.tab.lookup f
def Tb.gm (t : Tb) (id : Nat) : Gm where
  N := ((t.info.lookup id).map (·.2)).getD []
  fn := fun f => match t.info.lookup f, t.tab.lookup f with
    | some i, some d => some (i.1, d.np, d.io)
    | _, _ => none
  con := conOf t.fa
  blt := freesOf t.fa
  exc := fun k => ((t.xs.find? fun d => Nat.beq d.id k)).map fun d => (d.x, 1)
  io := ((t.tab.lookup id).map (·.io)).getD false
  xv := t.xs.map fun d => (d.x, d.fld)
  x0 := x0Of (Tb.zl t.xs)
  xis := xisOf (Tb.zl t.xs)
  kw := t.kw
  xfld := fun k => ((t.xs.find? fun d => Nat.beq d.id k)).map fun d => d.fld
  xbase := fun k => ((t.xs.find? fun d => Nat.beq d.id k).map fun d => d.bs.map (·.1)).getD []
def AllR {α : Type} (Q : α → Prop) : List α → Prop
  | [] => True
  | x :: r => Q x ∧ AllR Q r
theorem AllR.mem {α : Type} {Q : α → Prop} : ∀ {l : List α}, AllR Q l → ∀ x ∈ l, Q x
  | _ :: _, h, x, hx => (List.mem_cons.mp hx).elim (fun e => by rw [e]; exact h.1) (AllR.mem h.2 x)
/-- what must be seen of one def -/
structure RowOk (t : Tb) (id : Nat) (d : FDef) (D : DefD) (x : Str) (N ps : List Str) : Prop where
  mem : D ∈ t.fn
  info : t.info.lookup id = some (x, N)
  at_ : D.at_ = (x, none)
  dfl : D.dfl = []
  kwd : D.kwd = []
  sc : FnScope N ps D.scope
  np : ps.length = d.np
  ns : N.length = d.ns
  le : d.np ≤ d.ns
  io : ((t.tab.lookup id).map (·.io)).getD false = d.io
  chk : chkSs (t.gm id) d.body ⟨D.scope, D.scope⟩ D.body = true
  bind : ∀ (kV doc pm : Value) (an : Option Addr) (cdv ct : Value) (us : List Value), us.length = ps.length → bindArgs (PySem.W.fnOf D.name D.qual D.params D.body D.scope .none kV doc pm an cdv ct) ⟨us, []⟩ = pure (ps.zip us)
  kw : AllR (fun r => r.2.1 = x ∧ r.2.2.2.length = d.np ∧ d.io = false ∧ ∀ (kV doc pm : Value) (an : Option Addr) (cdv ct : Value) (ws us : List Value), ws.length = r.2.2.1.length → pickL r.2.2.2 ws = some us → bindArgs (PySem.W.fnOf D.name D.qual D.params D.body D.scope .none kV doc pm an cdv ct) ⟨[], r.2.2.1.zip ws⟩ = pure (ps.zip us)) (t.kw.filter fun r => Nat.beq r.1 id)
def Row (t : Tb) (p : Nat × FDef) : Prop := ∃ D x N ps, RowOk t p.1 p.2 D x N ps
theorem lookup_in {α : Type} {k : Nat} {v : α} : ∀ {l : List (Nat × α)}, l.lookup k = some v → (k, v) ∈ l
  | [], h => by cases h
  | (a, b) :: r, h => by
    by_cases e : k = a
    · subst e
      simp [List.lookup] at h
      subst h
      exact List.mem_cons_self
    · have : (k == a) = false := by simpa using e
      simp only [List.lookup, this] at h
      exact List.mem_cons_of_mem _ (lookup_in h)
/-- what the law's own text gives -/
structure TbOk (P : Program) (t : Tb) : Prop where
  rows : AllR (Row t) t.tab
  glo : AllR (fun D => ∃ i : Nat, t.fa[i]? = some (.glo D.at_.1)) t.fn
  kws : AllR (fun r => ∃ d, t.tab.lookup r.1 = some d) t.kw
  xt : AllR (XcT P) t.xs
  xg : AllR (fun d => ∃ i : Nat, t.fa[i]? = some (.glo d.x)) t.xs
  sup : t.xs = [] ∨ ∃ i : Nat, t.fa[i]? = some (.free ("super" : Str))
  ids : (t.xs.map (·.id)).Nodup
  xz : AllR XzT (Tb.zl t.xs)
  xb : AllR (fun d : XcD => AllR (fun b : Str × String => b.1 ≠ "__name__" ∧ (b.1 == ("__debug__" : Str)) = false ∧ bootBuiltins b.1 = some (.type b.2)) d.bs) t.xs
theorem ids_one {α : Type} {f : α → Nat} : ∀ {l : List α}, (l.map f).Nodup → ∀ x ∈ l, ∀ y ∈ l, f x = f y → x = y
  | a :: r, h, x, hx, y, hy, e => by
    obtain ⟨h1, h2⟩ := List.nodup_cons.mp (show (f a :: r.map f).Nodup from h)
    rcases List.mem_cons.mp hx with z | z
    · rcases List.mem_cons.mp hy with u | u
      · rw [z, u]
      · subst z
        exact (h1 (List.mem_map.mpr ⟨y, u, e.symm⟩)).elim
    · rcases List.mem_cons.mp hy with u | u
      · subst u
        exact (h1 (List.mem_map.mpr ⟨x, z, e⟩)).elim
      · exact ids_one h2 x z y u e
section
variable {P : Program} {w : World} {t : Tb} {K : PySem.W.Frag} {mg : Str → Option Value} {base : Heap}
theorem find_of {t : Tb} {k : Nat} {d : XcD} (h : t.xs.find? (fun d => Nat.beq d.id k) = some d) : d ∈ t.xs ∧ d.id = k := ⟨List.mem_of_find?_eq_some h, by have := List.find?_some h; exact Nat.eq_of_beq_eq_true this⟩
theorem defsOk_of (T : TbOk P t) (c : SaysX t.fa t.fn t.xs K) (KX : K.In base) (G : base.Ns mainGlobals mg) {n : Nat} {m : Nat}
    (ih : ∀ id d, t.tab.lookup id = some d → ∀ D x N ps, RowOk t id d D x N ps → ∀ fd, FunD K D.name D.qual D.params D.body D.scope [] [] (fAd K D.at_) fd → FnOk P w K mg base (L2.CX P w) m (fAd K D.at_) fd ps (spF K (XRof K t.xs) d.np (runD t.Φ n id) d.io)) (id : Nat) :
    DefsOk (t.gm id) P w K mg base (XRof K t.xs) m (runD t.Φ n) := by
  have glo : ∀ {x : Str}, .glo x ∈ t.fa → mg x = some (.ref (ga K x)) := fun h => glo_ok KX G (c.fact h)
  have get : ∀ {f : Nat} {d : FDef}, t.tab.lookup f = some d → ∃ D x N ps fd, RowOk t f d D x N ps ∧ FunD K D.name D.qual D.params D.body D.scope [] [] (fAd K D.at_) fd ∧ mg x = some (.ref (fAd K D.at_)) ∧ t.info.lookup f = some (x, N) := fun {f d} h => by
    obtain ⟨D, x, N, ps, R⟩ := AllR.mem T.rows _ (lookup_in h)
    obtain ⟨fd, F⟩ := c.def_ R.mem
    have e1 : D.dvs K = [] := by unfold DefD.dvs; rw [R.dfl]; rfl
    have e2 : D.kws K = [] := by unfold DefD.kws; rw [R.kwd]; rfl
    rw [e1, e2] at F
    refine ⟨D, x, N, ps, fd, R, F, ?_, R.info⟩
    have g := glo (by obtain ⟨i, hi⟩ := AllR.mem T.glo D R.mem; exact List.mem_of_getElem? hi)
    rw [R.at_] at g ⊢
    exact g
  have exq : ∀ k g np, (t.gm id).exc k = some (g, np) → ∃ d ∈ t.xs, d.id = k ∧ d.x = g ∧ np = 1 ∧ t.xs.find? (fun d => Nat.beq d.id k) = some d := fun k g np h => by
    obtain ⟨d, h1, h2⟩ := Option.map_eq_some_iff.mp (show (t.xs.find? fun d => Nat.beq d.id k).map (fun d => (d.x, 1)) = some (g, np) from h)
    obtain ⟨h3, h4⟩ := find_of h1
    cases h2
    exact ⟨d, h3, h4, rfl, rfl, h1⟩
  refine ⟨fun x hx => ?_, fun x d h => ?_, fun f g np io h => ?_, fun X e1 e2 e3 e4 e5 e6 hr => ?_, fun X e1 e2 k g np h => ?_, fun f g ks perm h => ?_, fun X e1 e2 e3 x f h => ?_, fun X e1 e2 x h => ?_, fun X e1 e2 x c' b h => ?_⟩
  · obtain ⟨f, h1, h2⟩ := List.mem_filterMap.mp (show x ∈ freesOf t.fa from hx)
    cases f with
    | free y => cases h2; exact free_ok KX G (c.fact h1)
    | _ => cases h2
  · obtain ⟨f, h1, h2⟩ := List.any_eq_true.mp (show conOf t.fa x d = true from h)
    cases f with
    | int y i =>
      cases d with
      | int j =>
        obtain ⟨h3, h4⟩ := and2 h2
        have h3 := of_decide_eq_true h3
        have h4 := of_decide_eq_true h4
        subst h3 h4
        obtain ⟨tk, e⟩ := He.int_ok KX G (c.fact h1)
        exact ⟨_, .int i, e, ⟨tk, rfl⟩, fun F => .int i⟩
      | _ => cases h2
    | str y z =>
      cases d with
      | str u =>
        obtain ⟨h3, h4⟩ := and2 h2
        have h3 := of_decide_eq_true h3
        have h4 := of_decide_eq_true h4
        subst h3 h4
        obtain ⟨tk, e⟩ := He.str_ok KX G (c.fact h1)
        exact ⟨_, .str z, e, ⟨tk, rfl⟩, fun F => .str z⟩
      | _ => cases h2
    | _ => cases d <;> cases h2
  · have h : (match t.info.lookup f, t.tab.lookup f with
      | some i, some d => some (i.1, d.np, d.io)
      | _, _ => none) = some (g, np, io) := h
    cases hd : t.tab.lookup f with
    | none => rw [hd] at h; cases hi : t.info.lookup f <;> rw [hi] at h <;> cases h
    | some d =>
      obtain ⟨D, x, N, ps, fd, R, F, hm, hi⟩ := get hd
      rw [hi, hd] at h
      cases h
      exact ⟨_, fd, ps, ih f d hd D x N ps R fd F, hm, F.kp, FunD.bindsN F fun kV doc pm an cdv ct us hu => R.bind kV doc pm an cdv ct us hu⟩
  · by_cases hx : t.xs = []
    · intro k g np h
      obtain ⟨d, h1, _⟩ := exq k g np h
      rw [hx] at h1
      cases h1
    · exact excB_of c (AllR.mem T.xt) (free_ok KX G (c.fact (by
        rcases T.sup with z | ⟨i, hi⟩
        · exact absurd z hx
        · exact List.mem_of_getElem? hi))) (fun d hd => glo (by obtain ⟨i, hi⟩ := AllR.mem T.xg d hd; exact List.mem_of_getElem? hi)) (fun k g np h => by
        obtain ⟨d, h1, h2, h3, h4, _⟩ := exq k g np h
        exact ⟨d, h1, h2, h3, h4⟩) X e1 e3 e4 hr
  · obtain ⟨d, h1, rfl, rfl, rfl, h5⟩ := exq k g np h
    subst e1 e2
    have z := SaysX.cat (XR := XRof X.K t.xs) c h1 (glo (by obtain ⟨i, hi⟩ := AllR.mem T.xg d h1; exact List.mem_of_getElem? hi)) (fun b hb => AllR.mem (AllR.mem T.xb d h1) b hb) (fun F H cls dd k ys r => by
        obtain ⟨e, he, h6, h7, _⟩ := r
        exact ⟨e, he, h6, h7⟩) fun F H cls dd ys r => by
      obtain ⟨e, he, h6, h7, a, v, y, h8, h9, h10, h11⟩ := r
      have ee := ids_one T.ids e he d h1 h6
      subst ee
      exact ⟨h7, a, v, y, h8, h9, h10, h11⟩
    refine ⟨ga X.K d.x, ?_⟩
    have x1 : (t.gm id).xfld d.id = some d.fld := by show (t.xs.find? _).map _ = _; rw [h5]; rfl
    have x2 : (t.gm id).xbase d.id = d.bs.map (·.1) := by show ((t.xs.find? _).map _).getD [] = _; rw [h5]; rfl
    rw [x1, x2]
    exact z
  · have h : (f, g, ks, perm) ∈ t.kw := h
    obtain ⟨d, hd⟩ := AllR.mem T.kws _ h
    obtain ⟨D, x, N, ps, fd, R, F, hm, hi⟩ := get hd
    obtain ⟨k1, k2, k3, k4⟩ := AllR.mem R.kw _ (List.mem_filter.mpr ⟨h, Nat.beq_refl f⟩)
    have k1 : g = x := k1
    have k2 : perm.length = d.np := k2
    subst k1
    have z := ih f d hd D g N ps R fd F
    rw [k3, ← k2] at z
    refine ⟨_, fd, ps, z, hm, F.kp, fun s ws us X hl hp => ?_⟩
    obtain ⟨oc, od, dV, kV, doc, pm, an, cdv, ct, osl, rfl, lk, hcd, hD, _⟩ := F.ex
    rcases hD with ⟨_, rfl⟩ | ⟨e, _⟩
    · exact BindsTo.of_eq (k4 kV doc pm an cdv ct ws us hl hp)
    · exact absurd rfl e
  · obtain ⟨d, hd, e⟩ := List.mem_map.mp (show (x, f) ∈ t.xs.map fun d => (d.x, d.fld) from h)
    cases e
    subst e1 e2 e3
    have hm := glo (by obtain ⟨i, hi⟩ := AllR.mem T.xg d hd; exact List.mem_of_getElem? hi)
    have sup : X.mg "super" = none := free_ok KX G (c.fact (by
      rcases T.sup with z | ⟨i, hi⟩
      · rw [z] at hd; cases hd
      · exact List.mem_of_getElem? hi))
    obtain ⟨fd, E⟩ := c.exi hd (AllR.mem T.xt d hd) sup
    exact ⟨⟨hm, _, _, _, _, _, _, _, _, (AllR.mem T.xt d hd).T, E⟩, c.xf hd⟩
  · subst e1 e2
    obtain ⟨z, hz, e⟩ := List.mem_filterMap.mp (show x ∈ x0Of (Tb.zl t.xs) from h)
    obtain ⟨d, hd, hzd⟩ := List.mem_flatMap.mp hz
    have ok := c.xz hd hzd
    have xt := AllR.mem T.xz z hz
    cases z with
    | cls0 y B newId initId tl =>
      cases e
      obtain ⟨k1, k⟩ := ba ok
      obtain ⟨k2, k⟩ := ba k
      obtain ⟨k3, k4⟩ := ba k
      exact ⟨glo_ok KX G k3, ⟨B, newId, initId, tl, xt, k1⟩, k2⟩
    | _ => cases e
  · subst e1 e2
    obtain ⟨z, hz, e⟩ := List.mem_filterMap.mp (show (x, c', b) ∈ xisOf (Tb.zl t.xs) from h)
    obtain ⟨d, hd, hzd⟩ := List.mem_flatMap.mp hz
    have ok := c.xz hd hzd
    have xt := AllR.mem T.xz z hz
    cases z with
    | cls0 y B newId initId tl => cases e
    | own y c2 b2 =>
      cases e
      obtain ⟨k1, k⟩ := ba ok
      obtain ⟨k2, k3⟩ := ba k
      have hm := glo_ok KX G k2
      have ev : cvO X c' = .ref (ga X.K c') := by unfold cvO; rw [hm]
      obtain ⟨n1, n2⟩ := xt
      exact ⟨(excB_ok k1).1, by rw [ev]; exact ⟨.own _, rfl, .inl hm, n1, n2⟩, by rw [ev]; exact of_decide_eq_true k3⟩
    | blt y c2 T2 b2 =>
      cases e
      obtain ⟨k1, k⟩ := ba ok
      obtain ⟨k2, k3⟩ := ba k
      have hm := free_ok KX G k2
      obtain ⟨n0, n1, n2⟩ := xt
      have ev : cvO X c' = .type T2 := by unfold cvO; rw [hm, n0]; rfl
      exact ⟨(excB_ok k1).1, by rw [ev]; exact ⟨.ty _, rfl, .inr ⟨hm, n0⟩, n1, n2⟩, by rw [ev]; exact of_decide_eq_true k3⟩
theorem all_defs (T : TbOk P t) (c : SaysX t.fa t.fn t.xs K) (KX : K.In base) (G : base.Ns mainGlobals mg) : ∀ n id d, t.tab.lookup id = some d → ∀ D x N ps, RowOk t id d D x N ps → ∀ fd, FunD K D.name D.qual D.params D.body D.scope [] [] (fAd K D.at_) fd →
    FnOk P w K mg base (L2.CX P w) (n + 1) (fAd K D.at_) fd ps (spF K (XRof K t.xs) d.np (runD t.Φ n id) d.io)
  | 0, id, d, h, D, x, N, ps, R, fd, F => by
    refine ⟨fun vs H Q E z => by rw [R.np]; exact spF_len z, fun A outer s H args us vs Q E hr e0 hb hv z => ?_⟩
    cases hio : d.io with
    | false => rw [hio] at z; obtain ⟨_, _, _, _, _, z⟩ := z; exact z.elim
    | true => rw [hio] at z; obtain ⟨_, _, _, _, _, _, _, _, _, _, _, _, _, z⟩ := z; exact z.elim
  | n + 1, id, d, h, D, x, N, ps, R, fd, F => by
    have hd := defsOk_of (w := w) T c KX G (fun id d h D x N ps R fd F => all_defs T c KX G n id d h D x N ps R fd F) id
    exact def_ok (Γ := t.gm id) (Φ := t.Φ) (id := id) h (by show ((t.info.lookup id).map (·.2)).getD [] = N; rw [R.info]; rfl) F R.sc R.io R.np R.ns R.le R.chk hd (Nat.succ_le_succ (Nat.zero_le _))
theorem fn_cx {CX CX' : CXT} {k : Nat} {f : Addr} {fd : FuncData} {ps : List Str} {sp : Sp} (h : ∀ o H s E e s', CX o H s E e s' → CX' o H s E e s') (F : FnOk P w K mg base CX k f fd ps sp) : FnOk P w K mg base CX' k f fd ps sp :=
  ⟨F.len, fun A outer s H args us vs Q E hr e0 hb hv hs => codeAny_mono (F.run A outer s H args us vs Q E hr e0 hb hv hs) fun r s' z => by
    cases r with
    | error e => exact h _ _ _ _ _ _ z
    | ok fl => cases fl <;> exact z⟩
/-- a law's end -/
theorem tb_walk {l : PySem.W.OpenLaw} {q : Program} {loose : List Str} {XP : (Str → Option Value) → Heap → Prop} {dR : DefRec} {t : Tb} (T : TbOk l.prog t) (hn : l.most = some 63) {id n : Nat} {d : FDef} {D : DefD} {x px : Str} {N : List Str} (hd : t.tab.lookup id = some d) (R : RowOk t id d D x N [px]) (hio : d.io = false)
    (hdf : dR.params.defaults = []) (hname : dR.name = x) (hr : Room (n + 1) callerA)
    (plain : ∀ ns : List Int, ns.length ≤ 63 → runD t.Φ n id [.list (ns.map .int)] none = .ok (.fr (.bool true)) none) :
    PySem.W.WalkO q loose XP (fun _ h => ∃ K : PySem.W.Frag, K.In h ∧ SaysX t.fa t.fn t.xs K) l.row.toRowW dR [] (fun f vs => PySem.call f vs) := by
  refine walk_ofE (l := l) (n := 63) (k := n + 1) (x := px) (CX := fun o H s E e s' => ∃ w, L2.CX l.prog w o H s E e s') hn (by rw [sizeLine_eq]; decide) hdf hr ?F ?C
  case F =>
    intro w mg fa h Y G hmg
    obtain ⟨K, KX, c⟩ := Y
    obtain ⟨fd, F⟩ := c.def_ R.mem
    have e1 : D.dvs K = [] := by unfold DefD.dvs; rw [R.dfl]; rfl
    have e2 : D.kws K = [] := by unfold DefD.kws; rw [R.kwd]; rfl
    rw [e1, e2] at F
    have g := glo_ok KX G (c.fact (by obtain ⟨i, hi⟩ := AllR.mem T.glo D R.mem; exact List.mem_of_getElem? hi))
    have ef : fAd K D.at_ = fa := by
      rw [R.at_] at g ⊢
      rw [hname] at hmg
      have z := hmg.symm.trans g
      cases z
      rfl
    have bnd := FunD.bindsA F fun kV doc pm an cdv ct us hu => R.bind kV doc pm an cdv ct us hu
    refine ⟨K, fd, spF K (XRof K t.xs) d.np (runD t.Φ n id) d.io, KX, fun s u => bnd s [u] rfl, fun H a ns hl _ hS => ?_, fun base KB GB => ?_⟩
    · rw [hio]
      refine ⟨by rw [← R.np]; rfl, H, [.list (ns.map .int)], Same.refl _, .cons (.lst hS (DqAll.of_ints ns)) .nil, ?_⟩
      rw [plain ns hl]
      intro u F' H' af rf
      cases rf
      rfl
    · rw [← ef]
      exact fn_cx (fun o H s E e s' z => ⟨w, z⟩) (all_defs (w := w) T c KB GB n id d hd D x N [px] R fd F)
  case C =>
    intro H s e s' z
    obtain ⟨_, _, _, _, _, _, _, _, _, _, _, _, _, z⟩ := z
    exact z
end
end Dl
end
section
set_option linter.all false
set_option maxRecDepth 100000
namespace DlK00
open PySem Dl
/-- _law_box(_law_script, _law_nth_so, _law_cell) -/
def b__law_box : FDef := ⟨2, 3, false, (.cons (.setf (.nm 2) (.ite (.cmp .lt (.pk 1) (.bi .len (.cons false (.pk 0) .nil))) (.idx (.pk 0) (.var 1)) (.lit (.int 0))))
  (.cons (.ret (.lst (.cons false (.bin .mul (.bi .abs (.cons false (.pk 2) .nil)) (.bi .int (.cons false (.cmp .ge (.bi .abs (.cons false (.pk 2) .nil)) (.bin .pow (.lit (.int 10)) (.lit (.int 18)))) .nil))) (.cons false (.bin .add (.bin .add (.bin .mod (.bi .int (.cons false (.pk 2) .nil)) (.lit (.int 2305843009213693951))) (.bin .mul (.lit (.int 39373)) (.pk 1))) (.lit (.int 1930000))) (.cons false (.lit (.int 0)) .nil)))))
  .nil))⟩
/-- _law_take(_law_box_here, _law_below_so, _law_once, _law_far, _law_twice, _law_drawn) -/
def b__law_take : FDef := ⟨2, 6, true, (.cons (.ifS (.cmp .gt (.idx (.pk 0) (.lit (.int 0))) (.lit (.int 0))) (.cons (.setf (.nm 5) (.bin .mod (.bi .int (.cons false (.idx (.pk 0) (.lit (.int 0))) .nil)) (.pk 1)))
  (.cons (.sub 0 (.lit (.int 0)) (.bin .fdiv (.idx (.pk 0) (.lit (.int 0))) (.pk 1)))
  (.cons (.retf (.var 5))
  .nil))) .nil)
  (.cons (.sub 0 (.lit (.int 2)) (.bin .add (.idx (.pk 0) (.lit (.int 2))) (.lit (.int 1))))
  (.cons (.setf (.nm 2) (.bin .mod (.bi .int (.cons false (.bin .mul (.bin .add (.idx (.pk 0) (.lit (.int 1))) (.bin .mul (.lit (.int 48271)) (.idx (.pk 0) (.lit (.int 2))))) (.bin .add (.lit (.int 39373)) (.idx (.pk 0) (.lit (.int 2))))) .nil)) (.lit (.int 2147483647))))
  (.cons (.setf (.nm 3) (.bin .add (.bin .mod (.bi .int (.cons false (.pk 2) .nil)) (.lit (.int 40009))) (.lit (.int 7))))
  (.cons (.setf (.nm 4) (.bin .mod (.bi .int (.cons false (.bin .mul (.bin .add (.bin .add (.pk 2) (.idx (.pk 0) (.lit (.int 2)))) (.bin .fdiv (.idx (.pk 0) (.lit (.int 1))) (.lit (.int 1000003)))) (.pk 3)) .nil)) (.lit (.int 2147483629))))
  (.cons (.retf (.bin .mod (.bi .int (.cons false (.bin .fdiv (.bin .mod (.bi .int (.cons false (.bin .add (.bin .mul (.pk 4) (.lit (.int 48271))) (.pk 2)) .nil)) (.lit (.int 2147483587))) (.lit (.int 64))) .nil)) (.pk 1)))
  .nil))))))⟩
/-- _law_cells(_law_script, _law_top_so, _law_cells_so, _law_nth_so, _law_cell, _law_at_so) -/
def b__law_cells : FDef := ⟨2, 6, false, (.cons (.set (.nm 2) (.orE (.bi .list (.cons false (.slice (.pk 0) .abs_ (.var 1)) .nil)) (.lst (.cons false (.lit (.int 0)) .nil))))
  (.cons (.forS (.tp (.cons (.nm 3) (.cons (.nm 4) .nil))) (.enum (.slice (.pk 0) (.var 1) (.lit (.int 63)))) (.cons (.setf (.nm 5) (.bin .mod (.bi .int (.cons false (.pk 3) .nil)) (.pk 1)))
  (.cons (.sub 2 (.var 5) (.bin .add (.idx (.pk 2) (.var 5)) (.bin .mul (.pk 4) (.bin .add (.pk 3) (.lit (.int 2))))))
  .nil)))
  (.cons (.retf (.var 2))
  .nil)))⟩
/-- _law_same(_law_got, _law_due, _law_mine, _law_its) -/
def b__law_same : FDef := ⟨2, 4, false, (.cons (.ifS (.isin (.pk 1) [.list, .tuple]) (.cons (.ifS (.orE (.cmp .ne (.isin (.pk 0) [.list]) (.isin (.pk 1) [.list])) (.cmp .ne (.isin (.pk 0) [.tuple]) (.isin (.pk 1) [.tuple]))) (.cons (.retf (.lit (.bool false)))
  .nil) .nil)
  (.cons (.retf (.andE (.cmp .eq (.bi .len (.cons false (.pk 0) .nil)) (.bi .len (.cons false (.pk 1) .nil))) (.bi .all (.cons false (.comp (.cons (.tp (.cons (.nm 2) (.cons (.nm 3) .nil))) (.zip (.pk 0) (.pk 1)) .nil (.elt (.call 4 (.cons false (.var 2) (.cons false (.var 3) .nil)))))) .nil))))
  .nil)) .nil)
  (.cons (.ifS (.orE (.cmp .is (.pk 1) (.lit .none)) (.isin (.pk 1) [.bool, .str])) (.cons (.retf (.andE (.cmp .eq (.pk 0) (.pk 1)) (.andE (.cmp .eq (.isin (.pk 0) [.bool]) (.isin (.pk 1) [.bool])) (.cmp .eq (.cmp .is (.pk 0) (.lit .none)) (.cmp .is (.pk 1) (.lit .none))))))
  .nil) .nil)
  (.cons (.retf (.andE (.isin (.pk 0) [.int]) (.andE (.notE (.isin (.pk 0) [.bool])) (.cmp .eq (.pk 0) (.pk 1)))))
  .nil)))⟩
/-- _law_of(_law_box_here, _law_pool_so) -/
def b__law_of : FDef := ⟨2, 2, true, (.cons (.retf (.idx (.pk 1) (.callio 2 0 (.cons false (.bi .len (.cons false (.pk 1) .nil)) .nil))))
  .nil)⟩
/-- _law_which(_law_made_so, _law_found) -/
def b__law_which : FDef := ⟨1, 2, false, (.cons (.setf (.nm 1) (.lst (.cons false (.isx (.pk 0) [Str.ofString "BadLine"] [(Str.ofString "BadLine", true), (Str.ofString "Barred", false), (Str.ofString "NoHold", false), (Str.ofString "NoMember", false), (Str.ofString "NoNumber", false), (Str.ofString "NothingDone", false), (Str.ofString "Twice", false), (Str.ofString "Unfit", false)]) (.cons false (.isx (.pk 0) [Str.ofString "Barred"] [(Str.ofString "BadLine", false), (Str.ofString "Barred", true), (Str.ofString "NoHold", false), (Str.ofString "NoMember", false), (Str.ofString "NoNumber", false), (Str.ofString "NothingDone", false), (Str.ofString "Twice", false), (Str.ofString "Unfit", false)]) (.cons false (.isx (.pk 0) [Str.ofString "Twice"] [(Str.ofString "BadLine", false), (Str.ofString "Barred", false), (Str.ofString "NoHold", false), (Str.ofString "NoMember", false), (Str.ofString "NoNumber", false), (Str.ofString "NothingDone", false), (Str.ofString "Twice", true), (Str.ofString "Unfit", false)]) .nil)))))
  (.cons (.setf (.nm 1) (.bin .add (.pk 1) (.lst (.cons false (.isx (.pk 0) [Str.ofString "Unfit"] [(Str.ofString "BadLine", false), (Str.ofString "Barred", false), (Str.ofString "NoHold", false), (Str.ofString "NoMember", false), (Str.ofString "NoNumber", false), (Str.ofString "NothingDone", false), (Str.ofString "Twice", false), (Str.ofString "Unfit", true)]) (.cons false (.isx (.pk 0) [Str.ofString "NoHold"] [(Str.ofString "BadLine", false), (Str.ofString "Barred", false), (Str.ofString "NoHold", true), (Str.ofString "NoMember", false), (Str.ofString "NoNumber", false), (Str.ofString "NothingDone", false), (Str.ofString "Twice", false), (Str.ofString "Unfit", false)]) (.cons false (.isx (.pk 0) [Str.ofString "NoMember"] [(Str.ofString "BadLine", false), (Str.ofString "Barred", false), (Str.ofString "NoHold", false), (Str.ofString "NoMember", true), (Str.ofString "NoNumber", false), (Str.ofString "NothingDone", false), (Str.ofString "Twice", false), (Str.ofString "Unfit", false)]) .nil))))))
  (.cons (.retf (.bin .add (.pk 1) (.lst (.cons false (.isx (.pk 0) [Str.ofString "NoNumber"] [(Str.ofString "BadLine", false), (Str.ofString "Barred", false), (Str.ofString "NoHold", false), (Str.ofString "NoMember", false), (Str.ofString "NoNumber", true), (Str.ofString "NothingDone", false), (Str.ofString "Twice", false), (Str.ofString "Unfit", false)]) (.cons false (.isx (.pk 0) [Str.ofString "NothingDone"] [(Str.ofString "BadLine", false), (Str.ofString "Barred", false), (Str.ofString "NoHold", false), (Str.ofString "NoMember", false), (Str.ofString "NoNumber", false), (Str.ofString "NothingDone", true), (Str.ofString "Twice", false), (Str.ofString "Unfit", false)]) .nil)))))
  .nil)))⟩
/-- _law_place_right(_law_made_so, _law_spot_so, _law_above_so, _law_lap) -/
def b__law_place_right : FDef := ⟨2, 4, false, (.cons (.setf (.nm 2) (.lst (.cons false (.isx (.pk 0) [Str.ofString "ValueError"] [(Str.ofString "BadLine", true), (Str.ofString "Barred", true), (Str.ofString "NoHold", false), (Str.ofString "NoMember", false), (Str.ofString "NoNumber", false), (Str.ofString "NothingDone", false), (Str.ofString "Twice", true), (Str.ofString "Unfit", true)]) (.cons false (.isx (.pk 0) [Str.ofString "LookupError"] [(Str.ofString "BadLine", false), (Str.ofString "Barred", false), (Str.ofString "NoHold", true), (Str.ofString "NoMember", true), (Str.ofString "NoNumber", true), (Str.ofString "NothingDone", true), (Str.ofString "Twice", false), (Str.ofString "Unfit", false)]) .nil))))
  (.cons (.setf (.nm 2) (.bin .add (.pk 2) (.lst (.cons false (.isx (.pk 0) [Str.ofString "KeyError", Str.ofString "IndexError"] [(Str.ofString "BadLine", false), (Str.ofString "Barred", false), (Str.ofString "NoHold", false), (Str.ofString "NoMember", false), (Str.ofString "NoNumber", false), (Str.ofString "NothingDone", false), (Str.ofString "Twice", false), (Str.ofString "Unfit", false)]) .nil))))
  (.cons (.ifS (.notE (.call 4 (.cons false (.var 2) (.cons false (.lst (.cons false (.cmp .lt (.pk 1) (.lit (.int 4))) (.cons false (.cmp .gt (.pk 1) (.lit (.int 3))) (.cons false (.lit (.bool false)) .nil)))) .nil)))) (.cons (.retf (.lit (.bool false)))
  .nil) .nil)
  (.cons (.retf (.call 4 (.cons false (.call 6 (.cons false (.var 0) .nil)) (.cons false (.comp (.cons (.nm 3) (.rng (.lit (.int 8))) .nil (.elt (.cmp .eq (.pk 3) (.pk 1))))) .nil))))
  .nil))))⟩
/-- _law_caught(_law_tie_so, _law_tag_so, error_a, error_b, _law_caught_so, _law_far) -/
def b__law_caught : FDef := ⟨2, 6, false, (.cons (.par [(4, false), (5, false)] (.cons false (.lit .none) (.cons false (.lit .none) .nil)))
  (.cons (.tryS (.cons (.raise 42 (.cons false (.var 0) .nil))
  .nil)
  [⟨42, some 2, .setx 4 (Str.ofString "NoHold") (Str.ofString "hold")⟩])
  (.cons (.tryS (.cons (.raise 21 (.cons false (.var 1) .nil))
  .nil)
  [⟨21, some 3, .setx 5 (Str.ofString "NoMember") (Str.ofString "name")⟩])
  (.cons (.retf (.call 4 (.cons false (.lst (.cons false (.attr (.pk 4) (Str.ofString "hold") [Str.ofString "NoHold"]) (.cons false (.attr (.pk 5) (Str.ofString "name") [Str.ofString "NoMember", Str.ofString "Twice"]) .nil))) (.cons false (.lst (.cons false (.var 0) (.cons false (.var 1) .nil))) .nil))))
  .nil))))⟩
/-- _law_right(_law_box_here, _law_tie_so, _law_near, _law_far, _law_made_so, _law_size_so, _law_tag_so, _law_got, _law_lap, _law_own) -/
def b__law_right : FDef := ⟨1, 10, true, (.cons (.par [(5, false), (6, false)] (.cons false (.bin .mul (.bin .sub (.callio 2 0 (.cons false (.lit (.int 999)) .nil)) (.lit (.int 400))) (.callio 5 0 (.cons false (.lst (.cons false (.lit (.int 1)) (.cons false (.bin .pow (.lit (.int 10)) (.lit (.int 6))) .nil))) .nil))) (.cons false (.callio 5 0 (.cons false (.lst (.cons false (.lit (.str (Str.ofString "ann"))) (.cons false (.lit (.str (Str.ofString "take"))) (.cons false (.lit (.str (Str.ofString ""))) .nil)))) .nil)) .nil)))
  (.cons (.setf (.nm 1) (.tup (.cons false (.var 6) (.cons false (.callio 5 0 (.cons false (.lst (.cons false (.lit (.str (Str.ofString "own"))) (.cons false (.lit (.str (Str.ofString "hand"))) .nil))) .nil)) (.cons false (.callio 5 0 (.cons false (.lst (.cons false (.lit (.str (Str.ofString "box"))) (.cons false (.lit (.str (Str.ofString "bob"))) .nil))) .nil)) .nil)))))
  (.cons (.setf (.nm 2) (.lst (.cons false (.mkx (Str.ofString "BadLine") (Str.ofString "number") false (.var 5)) (.cons false (.mkx (Str.ofString "Barred") (Str.ofString "number") false (.var 5)) (.cons false (.mkx (Str.ofString "Twice") (Str.ofString "name") false (.var 6)) (.cons false (.mk0 (Str.ofString "Unfit")) (.cons false (.mkx (Str.ofString "NoHold") (Str.ofString "hold") false (.var 1)) (.cons false (.mkx (Str.ofString "NoMember") (Str.ofString "name") false (.var 6)) .nil))))))))
  (.cons (.setf (.nm 2) (.bin .add (.pk 2) (.lst (.cons false (.mkx (Str.ofString "NoNumber") (Str.ofString "number") false (.var 5)) (.cons false (.mk0 (Str.ofString "NothingDone")) .nil)))))
  (.cons (.setf (.nm 3) (.lst (.cons false (.mkx (Str.ofString "BadLine") (Str.ofString "number") true (.var 5)) (.cons false (.mkx (Str.ofString "Barred") (Str.ofString "number") true (.var 5)) (.cons false (.mkx (Str.ofString "Twice") (Str.ofString "name") true (.var 6)) (.cons false (.mk0 (Str.ofString "Unfit")) (.cons false (.mkx (Str.ofString "NoHold") (Str.ofString "hold") true (.var 1)) .nil)))))))
  (.cons (.setf (.nm 3) (.bin .add (.pk 3) (.lst (.cons false (.mkx (Str.ofString "NoMember") (Str.ofString "name") true (.var 6)) (.cons false (.mkx (Str.ofString "NoNumber") (Str.ofString "number") true (.var 5)) (.cons false (.mk0 (Str.ofString "NothingDone")) .nil))))))
  (.cons (.forS (.nm 4) (.of (.lst (.cons false (.var 2) (.cons false (.var 3) .nil)))) (.cons (.setf (.nm 7) (.lst (.cons false (.attr (.idx (.pk 4) (.lit (.int 0))) (Str.ofString "number") [Str.ofString "BadLine", Str.ofString "Barred", Str.ofString "NoNumber"]) (.cons false (.attr (.idx (.pk 4) (.lit (.int 1))) (Str.ofString "number") [Str.ofString "BadLine", Str.ofString "Barred", Str.ofString "NoNumber"]) (.cons false (.attr (.idx (.pk 4) (.lit (.int 2))) (Str.ofString "name") [Str.ofString "NoMember", Str.ofString "Twice"]) (.cons false (.attr (.idx (.pk 4) (.lit (.int 4))) (Str.ofString "hold") [Str.ofString "NoHold"]) (.cons false (.attr (.idx (.pk 4) (.lit (.int 5))) (Str.ofString "name") [Str.ofString "NoMember", Str.ofString "Twice"]) .nil)))))))
  (.cons (.ifS (.notE (.call 4 (.cons false (.bin .add (.pk 7) (.lst (.cons false (.attr (.idx (.pk 4) (.lit (.int 6))) (Str.ofString "number") [Str.ofString "BadLine", Str.ofString "Barred", Str.ofString "NoNumber"]) .nil))) (.cons false (.lst (.cons false (.var 5) (.cons false (.var 5) (.cons false (.var 6) (.cons false (.var 1) (.cons false (.var 6) (.cons false (.var 5) .nil))))))) .nil)))) (.cons (.retf (.lit (.bool false)))
  .nil) .nil)
  (.cons (.ifS (.notE (.bi .all (.cons false (.comp (.cons (.tp (.cons (.nm 8) (.cons (.nm 9) .nil))) (.enum (.pk 4)) .nil (.elt (.call 7 (.cons false (.var 9) (.cons false (.var 8) .nil)))))) .nil))) (.cons (.retf (.lit (.bool false)))
  .nil) .nil)
  .nil))))
  (.cons (.retf (.andE (.call 8 (.cons false (.var 1) (.cons false (.var 6) .nil))) (.call 4 (.cons false (.attr (.mkx (Str.ofString "Barred") (Str.ofString "number") false (.bin .pow (.lit (.int 10)) (.lit (.int 9)))) (Str.ofString "number") [Str.ofString "BadLine", Str.ofString "Barred", Str.ofString "NoNumber"]) (.cons false (.bin .pow (.lit (.int 10)) (.lit (.int 9))) .nil)))))
  .nil))))))))⟩
/-- law(_law_script, _law_cells_here, _law_nth_so) -/
def b_law : FDef := ⟨1, 3, false, (.cons (.setf (.nm 1) (.call 3 (.cons false (.var 0) (.cons false (.lit (.int 3)) .nil))))
  (.cons (.retf (.bi .all (.cons false (.comp (.cons (.nm 2) (.rng (.bi .len (.cons false (.pk 1) .nil))) .nil (.elt (.callt 9 (.call 1 (.cons false (.var 1) (.cons false (.var 2) .nil))) .nil)))) .nil)))
  .nil))⟩
def table : List (Nat × FDef) := [(1, b__law_box), (2, b__law_take), (3, b__law_cells), (4, b__law_same), (5, b__law_of), (6, b__law_which), (7, b__law_place_right), (8, b__law_caught), (9, b__law_right), (10, b_law)]
def Φ : Defs := fun f => table.lookup f
/-- a def by its id: its name, its slots by name -/
def info : List (Nat × Str × List Str) := [(1, Str.ofString "_law_box", [Str.ofString "_law_script", Str.ofString "_law_nth_so", Str.ofString "_law_cell"]), (2, Str.ofString "_law_take", [Str.ofString "_law_box_here", Str.ofString "_law_below_so", Str.ofString "_law_once", Str.ofString "_law_far", Str.ofString "_law_twice", Str.ofString "_law_drawn"]), (3, Str.ofString "_law_cells", [Str.ofString "_law_script", Str.ofString "_law_top_so", Str.ofString "_law_cells_so", Str.ofString "_law_nth_so", Str.ofString "_law_cell", Str.ofString "_law_at_so"]), (4, Str.ofString "_law_same", [Str.ofString "_law_got", Str.ofString "_law_due", Str.ofString "_law_mine", Str.ofString "_law_its"]), (5, Str.ofString "_law_of", [Str.ofString "_law_box_here", Str.ofString "_law_pool_so"]), (6, Str.ofString "_law_which", [Str.ofString "_law_made_so", Str.ofString "_law_found"]), (7, Str.ofString "_law_place_right", [Str.ofString "_law_made_so", Str.ofString "_law_spot_so", Str.ofString "_law_above_so", Str.ofString "_law_lap"]), (8, Str.ofString "_law_caught", [Str.ofString "_law_tie_so", Str.ofString "_law_tag_so", Str.ofString "error_a", Str.ofString "error_b", Str.ofString "_law_caught_so", Str.ofString "_law_far"]), (9, Str.ofString "_law_right", [Str.ofString "_law_box_here", Str.ofString "_law_tie_so", Str.ofString "_law_near", Str.ofString "_law_far", Str.ofString "_law_made_so", Str.ofString "_law_size_so", Str.ofString "_law_tag_so", Str.ofString "_law_got", Str.ofString "_law_lap", Str.ofString "_law_own"]), (10, Str.ofString "law", [Str.ofString "_law_script", Str.ofString "_law_cells_here", Str.ofString "_law_nth_so"])]
def consts : List (Str × D) := []
def excs : List (Nat × Str × Nat) := [(131, Str.ofString "BadLine", 1), (132, Str.ofString "Barred", 1), (42, Str.ofString "NoHold", 1), (21, Str.ofString "NoMember", 1), (133, Str.ofString "NoNumber", 1), (134, Str.ofString "NothingDone", 0), (45, Str.ofString "Twice", 1), (46, Str.ofString "Unfit", 0)]
def kw : List (Nat × Str × List Str × List Nat) := []
def xf : List (Nat × Option Str × List Str) := [(131, some (Str.ofString "number"), []), (132, some (Str.ofString "number"), []), (42, some (Str.ofString "hold"), []), (21, some (Str.ofString "name"), []), (133, some (Str.ofString "number"), []), (134, none, []), (45, some (Str.ofString "name"), []), (46, none, [])]
end DlK00
end
section
set_option Elab.async false
set_option linter.all false
set_option maxRecDepth 100000
set_option maxHeartbeats 0
namespace DlK00
open PySem PySem.Spec PyProof.Rows L2 Dl He
def top (i : Nat) : Stmt := PySem.Challenge.pw_touchrights_k00_errors_made_by_hand.main.body.getD i (.Pass ⟨0, 0, 0, 0⟩)
def clsB (s : Stmt) : Stmt := match s with
  | .ClassDef _ _ _ b _ _ _ _ _ _ _ => (b.filter fun z => match z with | .FunctionDef .. => true | _ => false).headD s
  | _ => s

def d10 : DefD := ⟨("_law_box", none), "_law_box", "_law_box", defArgs (top 10), defBody (top 10), defScope (top 10), [], []⟩
def d11 : DefD := ⟨("_law_take", none), "_law_take", "_law_take", defArgs (top 11), defBody (top 11), defScope (top 11), [], []⟩
def d12 : DefD := ⟨("_law_cells", none), "_law_cells", "_law_cells", defArgs (top 12), defBody (top 12), defScope (top 12), [], []⟩
def d13 : DefD := ⟨("_law_same", none), "_law_same", "_law_same", defArgs (top 13), defBody (top 13), defScope (top 13), [], []⟩
def d14 : DefD := ⟨("_law_of", none), "_law_of", "_law_of", defArgs (top 14), defBody (top 14), defScope (top 14), [], []⟩
def d15 : DefD := ⟨("_law_which", none), "_law_which", "_law_which", defArgs (top 15), defBody (top 15), defScope (top 15), [], []⟩
def d16 : DefD := ⟨("_law_place_right", none), "_law_place_right", "_law_place_right", defArgs (top 16), defBody (top 16), defScope (top 16), [], []⟩
def d17 : DefD := ⟨("_law_caught", none), "_law_caught", "_law_caught", defArgs (top 17), defBody (top 17), defScope (top 17), [], []⟩
def d18 : DefD := ⟨("_law_right", none), "_law_right", "_law_right", defArgs (top 18), defBody (top 18), defScope (top 18), [], []⟩
def d19 : DefD := ⟨("law", none), "law", "law", defArgs (top 19), defBody (top 19), defScope (top 19), [], []⟩
def fn : List DefD := [d10, d11, d12, d13, d14, d15, d16, d17, d18, d19]
def fa : List Fa := [.glo "_law_box", .glo "_law_take", .glo "_law_cells", .glo "_law_same", .glo "_law_of", .glo "_law_which", .glo "_law_place_right", .glo "_law_caught", .glo "_law_right", .glo "law", .glo "BadLine", .glo "Barred", .glo "NoHold", .glo "NoMember", .glo "NoNumber", .glo "NothingDone", .glo "Twice", .glo "Unfit", .free "IndexError", .free "KeyError", .free "LookupError", .free "ValueError", .free "abs", .free "all", .free "bool", .free "enumerate", .free "int", .free "isinstance", .free "len", .free "list", .free "range", .free "str", .free "super", .free "tuple", .free "zip"]
def x1 : XcD where
  x := "BadLine"
  id := 131
  B := "ValueError"
  newId := "ValueError.__new__"
  initId := "ValueError.__init__"
  tl := [.type "ValueError", .type "Exception", .type "BaseException", .type "object"]
  bs := []
  me := "self"
  fld := "number"
  name := "__init__"
  qual := "BadLine.__init__"
  params := defArgs (clsB (top 1))
  body := defBody (clsB (top 1))
  scope := defScope (clsB (top 1))
  file := PySem.Challenge.pw_touchrights_k00_errors_made_by_hand.main.file
  zs := [.cls0 "NothingDone" "LookupError" "LookupError.__new__" "LookupError.__init__" [.type "LookupError", .type "Exception", .type "BaseException", .type "object"], .cls0 "Unfit" "ValueError" "ValueError.__new__" "ValueError.__init__" [.type "ValueError", .type "Exception", .type "BaseException", .type "object"], .own "BadLine" "BadLine" true, .own "BadLine" "Barred" false, .own "BadLine" "Twice" false, .blt "BadLine" "ValueError" "ValueError" true, .blt "BadLine" "LookupError" "LookupError" false, .own "BadLine" "Unfit" false, .own "BadLine" "NoHold" false, .own "BadLine" "NoMember" false, .own "BadLine" "NoNumber" false, .own "BadLine" "NothingDone" false, .blt "BadLine" "KeyError" "KeyError" false, .blt "BadLine" "IndexError" "IndexError" false, .own "Barred" "BadLine" false, .own "Barred" "Barred" true, .own "Barred" "Twice" false, .blt "Barred" "ValueError" "ValueError" true, .blt "Barred" "LookupError" "LookupError" false, .own "Barred" "Unfit" false, .own "Barred" "NoHold" false, .own "Barred" "NoMember" false, .own "Barred" "NoNumber" false, .own "Barred" "NothingDone" false, .blt "Barred" "KeyError" "KeyError" false, .blt "Barred" "IndexError" "IndexError" false, .own "NoHold" "BadLine" false, .own "NoHold" "Barred" false, .own "NoHold" "Twice" false, .blt "NoHold" "ValueError" "ValueError" false, .blt "NoHold" "LookupError" "LookupError" true, .own "NoHold" "Unfit" false, .own "NoHold" "NoHold" true, .own "NoHold" "NoMember" false, .own "NoHold" "NoNumber" false, .own "NoHold" "NothingDone" false, .blt "NoHold" "KeyError" "KeyError" false, .blt "NoHold" "IndexError" "IndexError" false, .own "NoMember" "BadLine" false, .own "NoMember" "Barred" false, .own "NoMember" "Twice" false, .blt "NoMember" "ValueError" "ValueError" false, .blt "NoMember" "LookupError" "LookupError" true, .own "NoMember" "Unfit" false, .own "NoMember" "NoHold" false, .own "NoMember" "NoMember" true, .own "NoMember" "NoNumber" false, .own "NoMember" "NothingDone" false, .blt "NoMember" "KeyError" "KeyError" false, .blt "NoMember" "IndexError" "IndexError" false, .own "NoNumber" "BadLine" false, .own "NoNumber" "Barred" false, .own "NoNumber" "Twice" false, .blt "NoNumber" "ValueError" "ValueError" false, .blt "NoNumber" "LookupError" "LookupError" true, .own "NoNumber" "Unfit" false, .own "NoNumber" "NoHold" false, .own "NoNumber" "NoMember" false, .own "NoNumber" "NoNumber" true, .own "NoNumber" "NothingDone" false, .blt "NoNumber" "KeyError" "KeyError" false, .blt "NoNumber" "IndexError" "IndexError" false, .own "NothingDone" "BadLine" false, .own "NothingDone" "Barred" false, .own "NothingDone" "Twice" false, .blt "NothingDone" "ValueError" "ValueError" false, .blt "NothingDone" "LookupError" "LookupError" true, .own "NothingDone" "Unfit" false, .own "NothingDone" "NoHold" false, .own "NothingDone" "NoMember" false, .own "NothingDone" "NoNumber" false, .own "NothingDone" "NothingDone" true, .blt "NothingDone" "KeyError" "KeyError" false, .blt "NothingDone" "IndexError" "IndexError" false, .own "Twice" "BadLine" false, .own "Twice" "Barred" false, .own "Twice" "Twice" true, .blt "Twice" "ValueError" "ValueError" true, .blt "Twice" "LookupError" "LookupError" false, .own "Twice" "Unfit" false, .own "Twice" "NoHold" false, .own "Twice" "NoMember" false, .own "Twice" "NoNumber" false, .own "Twice" "NothingDone" false, .blt "Twice" "KeyError" "KeyError" false, .blt "Twice" "IndexError" "IndexError" false, .own "Unfit" "BadLine" false, .own "Unfit" "Barred" false, .own "Unfit" "Twice" false, .blt "Unfit" "ValueError" "ValueError" true, .blt "Unfit" "LookupError" "LookupError" false, .own "Unfit" "Unfit" true, .own "Unfit" "NoHold" false, .own "Unfit" "NoMember" false, .own "Unfit" "NoNumber" false, .own "Unfit" "NothingDone" false, .blt "Unfit" "KeyError" "KeyError" false, .blt "Unfit" "IndexError" "IndexError" false]
def x2 : XcD where
  x := "Barred"
  id := 132
  B := "ValueError"
  newId := "ValueError.__new__"
  initId := "ValueError.__init__"
  tl := [.type "ValueError", .type "Exception", .type "BaseException", .type "object"]
  bs := []
  me := "self"
  fld := "number"
  name := "__init__"
  qual := "Barred.__init__"
  params := defArgs (clsB (top 2))
  body := defBody (clsB (top 2))
  scope := defScope (clsB (top 2))
  file := PySem.Challenge.pw_touchrights_k00_errors_made_by_hand.main.file
  zs := []
def x3 : XcD where
  x := "NoHold"
  id := 42
  B := "LookupError"
  newId := "LookupError.__new__"
  initId := "LookupError.__init__"
  tl := [.type "LookupError", .type "Exception", .type "BaseException", .type "object"]
  bs := []
  me := "self"
  fld := "hold"
  name := "__init__"
  qual := "NoHold.__init__"
  params := defArgs (clsB (top 3))
  body := defBody (clsB (top 3))
  scope := defScope (clsB (top 3))
  file := PySem.Challenge.pw_touchrights_k00_errors_made_by_hand.main.file
  zs := []
def x4 : XcD where
  x := "NoMember"
  id := 21
  B := "LookupError"
  newId := "LookupError.__new__"
  initId := "LookupError.__init__"
  tl := [.type "LookupError", .type "Exception", .type "BaseException", .type "object"]
  bs := []
  me := "self"
  fld := "name"
  name := "__init__"
  qual := "NoMember.__init__"
  params := defArgs (clsB (top 4))
  body := defBody (clsB (top 4))
  scope := defScope (clsB (top 4))
  file := PySem.Challenge.pw_touchrights_k00_errors_made_by_hand.main.file
  zs := []
def x5 : XcD where
  x := "NoNumber"
  id := 133
  B := "LookupError"
  newId := "LookupError.__new__"
  initId := "LookupError.__init__"
  tl := [.type "LookupError", .type "Exception", .type "BaseException", .type "object"]
  bs := []
  me := "self"
  fld := "number"
  name := "__init__"
  qual := "NoNumber.__init__"
  params := defArgs (clsB (top 5))
  body := defBody (clsB (top 5))
  scope := defScope (clsB (top 5))
  file := PySem.Challenge.pw_touchrights_k00_errors_made_by_hand.main.file
  zs := []
def x7 : XcD where
  x := "Twice"
  id := 45
  B := "ValueError"
  newId := "ValueError.__new__"
  initId := "ValueError.__init__"
  tl := [.type "ValueError", .type "Exception", .type "BaseException", .type "object"]
  bs := []
  me := "self"
  fld := "name"
  name := "__init__"
  qual := "Twice.__init__"
  params := defArgs (clsB (top 7))
  body := defBody (clsB (top 7))
  scope := defScope (clsB (top 7))
  file := PySem.Challenge.pw_touchrights_k00_errors_made_by_hand.main.file
  zs := []
def xs : List XcD := [x1, x2, x3, x4, x5, x7]
def tb : Tb := ⟨table, info, fa, fn, xs, kw⟩
theorem xt1 : XcT PySem.Challenge.pw_touchrights_k00_errors_made_by_hand x1 where
  T := exb_Value
  body := ⟨_, _, _, _, _, _, _, _, _, _, rfl, rfl⟩
  par := ⟨_, rfl, rfl⟩
  sc := ⟨by decide +kernel, by decide +kernel, by decide +kernel, by decide +kernel, by decide +kernel, rfl, rfl, rfl⟩
  ne := by decide
  dx := by decide
  ds := by decide
  file := rfl
  top := by decide +kernel
  bind := fun _ _ _ _ _ _ _ us hl => match us, hl with | [_, _], _ => rfl
  bindk := fun _ _ _ _ _ _ _ _ _ => rfl
theorem xt2 : XcT PySem.Challenge.pw_touchrights_k00_errors_made_by_hand x2 where
  T := exb_Value
  body := ⟨_, _, _, _, _, _, _, _, _, _, rfl, rfl⟩
  par := ⟨_, rfl, rfl⟩
  sc := ⟨by decide +kernel, by decide +kernel, by decide +kernel, by decide +kernel, by decide +kernel, rfl, rfl, rfl⟩
  ne := by decide
  dx := by decide
  ds := by decide
  file := rfl
  top := by decide +kernel
  bind := fun _ _ _ _ _ _ _ us hl => match us, hl with | [_, _], _ => rfl
  bindk := fun _ _ _ _ _ _ _ _ _ => rfl
theorem xt3 : XcT PySem.Challenge.pw_touchrights_k00_errors_made_by_hand x3 where
  T := exb_Lookup
  body := ⟨_, _, _, _, _, _, _, _, _, _, rfl, rfl⟩
  par := ⟨_, rfl, rfl⟩
  sc := ⟨by decide +kernel, by decide +kernel, by decide +kernel, by decide +kernel, by decide +kernel, rfl, rfl, rfl⟩
  ne := by decide
  dx := by decide
  ds := by decide
  file := rfl
  top := by decide +kernel
  bind := fun _ _ _ _ _ _ _ us hl => match us, hl with | [_, _], _ => rfl
  bindk := fun _ _ _ _ _ _ _ _ _ => rfl
theorem xt4 : XcT PySem.Challenge.pw_touchrights_k00_errors_made_by_hand x4 where
  T := exb_Lookup
  body := ⟨_, _, _, _, _, _, _, _, _, _, rfl, rfl⟩
  par := ⟨_, rfl, rfl⟩
  sc := ⟨by decide +kernel, by decide +kernel, by decide +kernel, by decide +kernel, by decide +kernel, rfl, rfl, rfl⟩
  ne := by decide
  dx := by decide
  ds := by decide
  file := rfl
  top := by decide +kernel
  bind := fun _ _ _ _ _ _ _ us hl => match us, hl with | [_, _], _ => rfl
  bindk := fun _ _ _ _ _ _ _ _ _ => rfl
theorem xt5 : XcT PySem.Challenge.pw_touchrights_k00_errors_made_by_hand x5 where
  T := exb_Lookup
  body := ⟨_, _, _, _, _, _, _, _, _, _, rfl, rfl⟩
  par := ⟨_, rfl, rfl⟩
  sc := ⟨by decide +kernel, by decide +kernel, by decide +kernel, by decide +kernel, by decide +kernel, rfl, rfl, rfl⟩
  ne := by decide
  dx := by decide
  ds := by decide
  file := rfl
  top := by decide +kernel
  bind := fun _ _ _ _ _ _ _ us hl => match us, hl with | [_, _], _ => rfl
  bindk := fun _ _ _ _ _ _ _ _ _ => rfl
theorem xt7 : XcT PySem.Challenge.pw_touchrights_k00_errors_made_by_hand x7 where
  T := exb_Value
  body := ⟨_, _, _, _, _, _, _, _, _, _, rfl, rfl⟩
  par := ⟨_, rfl, rfl⟩
  sc := ⟨by decide +kernel, by decide +kernel, by decide +kernel, by decide +kernel, by decide +kernel, rfl, rfl, rfl⟩
  ne := by decide
  dx := by decide
  ds := by decide
  file := rfl
  top := by decide +kernel
  bind := fun _ _ _ _ _ _ _ us hl => match us, hl with | [_, _], _ => rfl
  bindk := fun _ _ _ _ _ _ _ _ _ => rfl
theorem w1 : RowOk tb 1 b__law_box d10 "_law_box" ["_law_script", "_law_nth_so", "_law_cell"] ["_law_script", "_law_nth_so"] where
  mem := List.mem_of_getElem? (show fn[0]? = some d10 from rfl)
  info := by decide +kernel
  at_ := rfl
  dfl := rfl
  kwd := rfl
  sc := ⟨rfl, rfl, rfl, by decide +kernel, rfl, by decide +kernel, by decide +kernel⟩
  np := rfl
  ns := rfl
  le := by decide
  io := by decide +kernel
  chk := by decide +kernel
  bind := fun _ _ _ _ _ _ us hl => match us, hl with | [_, _], _ => rfl
  kw := trivial
theorem r1 : Row tb (1, b__law_box) := ⟨_, _, _, _, w1⟩
theorem w2 : RowOk tb 2 b__law_take d11 "_law_take" ["_law_box_here", "_law_below_so", "_law_once", "_law_far", "_law_twice", "_law_drawn"] ["_law_box_here", "_law_below_so"] where
  mem := List.mem_of_getElem? (show fn[1]? = some d11 from rfl)
  info := by decide +kernel
  at_ := rfl
  dfl := rfl
  kwd := rfl
  sc := ⟨rfl, rfl, rfl, by decide +kernel, rfl, by decide +kernel, by decide +kernel⟩
  np := rfl
  ns := rfl
  le := by decide
  io := by decide +kernel
  chk := by decide +kernel
  bind := fun _ _ _ _ _ _ us hl => match us, hl with | [_, _], _ => rfl
  kw := trivial
theorem r2 : Row tb (2, b__law_take) := ⟨_, _, _, _, w2⟩
theorem w3 : RowOk tb 3 b__law_cells d12 "_law_cells" ["_law_script", "_law_top_so", "_law_cells_so", "_law_nth_so", "_law_cell", "_law_at_so"] ["_law_script", "_law_top_so"] where
  mem := List.mem_of_getElem? (show fn[2]? = some d12 from rfl)
  info := by decide +kernel
  at_ := rfl
  dfl := rfl
  kwd := rfl
  sc := ⟨rfl, rfl, rfl, by decide +kernel, rfl, by decide +kernel, by decide +kernel⟩
  np := rfl
  ns := rfl
  le := by decide
  io := by decide +kernel
  chk := by decide +kernel
  bind := fun _ _ _ _ _ _ us hl => match us, hl with | [_, _], _ => rfl
  kw := trivial
theorem r3 : Row tb (3, b__law_cells) := ⟨_, _, _, _, w3⟩
theorem w4 : RowOk tb 4 b__law_same d13 "_law_same" ["_law_got", "_law_due", "_law_mine", "_law_its"] ["_law_got", "_law_due"] where
  mem := List.mem_of_getElem? (show fn[3]? = some d13 from rfl)
  info := by decide +kernel
  at_ := rfl
  dfl := rfl
  kwd := rfl
  sc := ⟨rfl, rfl, rfl, by decide +kernel, rfl, by decide +kernel, by decide +kernel⟩
  np := rfl
  ns := rfl
  le := by decide
  io := by decide +kernel
  chk := by decide +kernel
  bind := fun _ _ _ _ _ _ us hl => match us, hl with | [_, _], _ => rfl
  kw := trivial
theorem r4 : Row tb (4, b__law_same) := ⟨_, _, _, _, w4⟩
theorem w5 : RowOk tb 5 b__law_of d14 "_law_of" ["_law_box_here", "_law_pool_so"] ["_law_box_here", "_law_pool_so"] where
  mem := List.mem_of_getElem? (show fn[4]? = some d14 from rfl)
  info := by decide +kernel
  at_ := rfl
  dfl := rfl
  kwd := rfl
  sc := ⟨rfl, rfl, rfl, by decide +kernel, rfl, by decide +kernel, by decide +kernel⟩
  np := rfl
  ns := rfl
  le := by decide
  io := by decide +kernel
  chk := by decide +kernel
  bind := fun _ _ _ _ _ _ us hl => match us, hl with | [_, _], _ => rfl
  kw := trivial
theorem r5 : Row tb (5, b__law_of) := ⟨_, _, _, _, w5⟩
theorem w6 : RowOk tb 6 b__law_which d15 "_law_which" ["_law_made_so", "_law_found"] ["_law_made_so"] where
  mem := List.mem_of_getElem? (show fn[5]? = some d15 from rfl)
  info := by decide +kernel
  at_ := rfl
  dfl := rfl
  kwd := rfl
  sc := ⟨rfl, rfl, rfl, by decide +kernel, rfl, by decide +kernel, by decide +kernel⟩
  np := rfl
  ns := rfl
  le := by decide
  io := by decide +kernel
  chk := by decide +kernel
  bind := fun _ _ _ _ _ _ us hl => match us, hl with | [_], _ => rfl
  kw := trivial
theorem r6 : Row tb (6, b__law_which) := ⟨_, _, _, _, w6⟩
theorem w7 : RowOk tb 7 b__law_place_right d16 "_law_place_right" ["_law_made_so", "_law_spot_so", "_law_above_so", "_law_lap"] ["_law_made_so", "_law_spot_so"] where
  mem := List.mem_of_getElem? (show fn[6]? = some d16 from rfl)
  info := by decide +kernel
  at_ := rfl
  dfl := rfl
  kwd := rfl
  sc := ⟨rfl, rfl, rfl, by decide +kernel, rfl, by decide +kernel, by decide +kernel⟩
  np := rfl
  ns := rfl
  le := by decide
  io := by decide +kernel
  chk := by decide +kernel
  bind := fun _ _ _ _ _ _ us hl => match us, hl with | [_, _], _ => rfl
  kw := trivial
theorem r7 : Row tb (7, b__law_place_right) := ⟨_, _, _, _, w7⟩
theorem w8 : RowOk tb 8 b__law_caught d17 "_law_caught" ["_law_tie_so", "_law_tag_so", "error_a", "error_b", "_law_caught_so", "_law_far"] ["_law_tie_so", "_law_tag_so"] where
  mem := List.mem_of_getElem? (show fn[7]? = some d17 from rfl)
  info := by decide +kernel
  at_ := rfl
  dfl := rfl
  kwd := rfl
  sc := ⟨rfl, rfl, rfl, by decide +kernel, rfl, by decide +kernel, by decide +kernel⟩
  np := rfl
  ns := rfl
  le := by decide
  io := by decide +kernel
  chk := by decide +kernel
  bind := fun _ _ _ _ _ _ us hl => match us, hl with | [_, _], _ => rfl
  kw := trivial
theorem r8 : Row tb (8, b__law_caught) := ⟨_, _, _, _, w8⟩
theorem w9 : RowOk tb 9 b__law_right d18 "_law_right" ["_law_box_here", "_law_tie_so", "_law_near", "_law_far", "_law_made_so", "_law_size_so", "_law_tag_so", "_law_got", "_law_lap", "_law_own"] ["_law_box_here"] where
  mem := List.mem_of_getElem? (show fn[8]? = some d18 from rfl)
  info := by decide +kernel
  at_ := rfl
  dfl := rfl
  kwd := rfl
  sc := ⟨rfl, rfl, rfl, by decide +kernel, rfl, by decide +kernel, by decide +kernel⟩
  np := rfl
  ns := rfl
  le := by decide
  io := by decide +kernel
  chk := by decide +kernel
  bind := fun _ _ _ _ _ _ us hl => match us, hl with | [_], _ => rfl
  kw := trivial
theorem r9 : Row tb (9, b__law_right) := ⟨_, _, _, _, w9⟩
theorem w10 : RowOk tb 10 b_law d19 "law" ["_law_script", "_law_cells_here", "_law_nth_so"] ["_law_script"] where
  mem := List.mem_of_getElem? (show fn[9]? = some d19 from rfl)
  info := by decide +kernel
  at_ := rfl
  dfl := rfl
  kwd := rfl
  sc := ⟨rfl, rfl, rfl, by decide +kernel, rfl, by decide +kernel, by decide +kernel⟩
  np := rfl
  ns := rfl
  le := by decide
  io := by decide +kernel
  chk := by decide +kernel
  bind := fun _ _ _ _ _ _ us hl => match us, hl with | [_], _ => rfl
  kw := trivial
theorem r10 : Row tb (10, b_law) := ⟨_, _, _, _, w10⟩
theorem tbOk : TbOk PySem.Challenge.pw_touchrights_k00_errors_made_by_hand tb where
  rows := ⟨r1, r2, r3, r4, r5, r6, r7, r8, r9, r10, trivial⟩
  glo := ⟨⟨0, rfl⟩, ⟨1, rfl⟩, ⟨2, rfl⟩, ⟨3, rfl⟩, ⟨4, rfl⟩, ⟨5, rfl⟩, ⟨6, rfl⟩, ⟨7, rfl⟩, ⟨8, rfl⟩, ⟨9, rfl⟩, trivial⟩
  kws := trivial
  xt := ⟨xt1, xt2, xt3, xt4, xt5, xt7, trivial⟩
  xg := ⟨⟨10, rfl⟩, ⟨11, rfl⟩, ⟨12, rfl⟩, ⟨13, rfl⟩, ⟨14, rfl⟩, ⟨16, rfl⟩, trivial⟩
  sup := .inr ⟨32, rfl⟩
  ids := by decide
  xz := ⟨exb_Lookup, exb_Value, ⟨by decide, by decide⟩, ⟨by decide, by decide⟩, ⟨by decide, by decide⟩, ⟨by decide +kernel, by decide, by decide⟩, ⟨by decide +kernel, by decide, by decide⟩, ⟨by decide, by decide⟩, ⟨by decide, by decide⟩, ⟨by decide, by decide⟩, ⟨by decide, by decide⟩, ⟨by decide, by decide⟩, ⟨by decide +kernel, by decide, by decide⟩, ⟨by decide +kernel, by decide, by decide⟩, ⟨by decide, by decide⟩, ⟨by decide, by decide⟩, ⟨by decide, by decide⟩, ⟨by decide +kernel, by decide, by decide⟩, ⟨by decide +kernel, by decide, by decide⟩, ⟨by decide, by decide⟩, ⟨by decide, by decide⟩, ⟨by decide, by decide⟩, ⟨by decide, by decide⟩, ⟨by decide, by decide⟩, ⟨by decide +kernel, by decide, by decide⟩, ⟨by decide +kernel, by decide, by decide⟩, ⟨by decide, by decide⟩, ⟨by decide, by decide⟩, ⟨by decide, by decide⟩, ⟨by decide +kernel, by decide, by decide⟩, ⟨by decide +kernel, by decide, by decide⟩, ⟨by decide, by decide⟩, ⟨by decide, by decide⟩, ⟨by decide, by decide⟩, ⟨by decide, by decide⟩, ⟨by decide, by decide⟩, ⟨by decide +kernel, by decide, by decide⟩, ⟨by decide +kernel, by decide, by decide⟩, ⟨by decide, by decide⟩, ⟨by decide, by decide⟩, ⟨by decide, by decide⟩, ⟨by decide +kernel, by decide, by decide⟩, ⟨by decide +kernel, by decide, by decide⟩, ⟨by decide, by decide⟩, ⟨by decide, by decide⟩, ⟨by decide, by decide⟩, ⟨by decide, by decide⟩, ⟨by decide, by decide⟩, ⟨by decide +kernel, by decide, by decide⟩, ⟨by decide +kernel, by decide, by decide⟩, ⟨by decide, by decide⟩, ⟨by decide, by decide⟩, ⟨by decide, by decide⟩, ⟨by decide +kernel, by decide, by decide⟩, ⟨by decide +kernel, by decide, by decide⟩, ⟨by decide, by decide⟩, ⟨by decide, by decide⟩, ⟨by decide, by decide⟩, ⟨by decide, by decide⟩, ⟨by decide, by decide⟩, ⟨by decide +kernel, by decide, by decide⟩, ⟨by decide +kernel, by decide, by decide⟩, ⟨by decide, by decide⟩, ⟨by decide, by decide⟩, ⟨by decide, by decide⟩, ⟨by decide +kernel, by decide, by decide⟩, ⟨by decide +kernel, by decide, by decide⟩, ⟨by decide, by decide⟩, ⟨by decide, by decide⟩, ⟨by decide, by decide⟩, ⟨by decide, by decide⟩, ⟨by decide, by decide⟩, ⟨by decide +kernel, by decide, by decide⟩, ⟨by decide +kernel, by decide, by decide⟩, ⟨by decide, by decide⟩, ⟨by decide, by decide⟩, ⟨by decide, by decide⟩, ⟨by decide +kernel, by decide, by decide⟩, ⟨by decide +kernel, by decide, by decide⟩, ⟨by decide, by decide⟩, ⟨by decide, by decide⟩, ⟨by decide, by decide⟩, ⟨by decide, by decide⟩, ⟨by decide, by decide⟩, ⟨by decide +kernel, by decide, by decide⟩, ⟨by decide +kernel, by decide, by decide⟩, ⟨by decide, by decide⟩, ⟨by decide, by decide⟩, ⟨by decide, by decide⟩, ⟨by decide +kernel, by decide, by decide⟩, ⟨by decide +kernel, by decide, by decide⟩, ⟨by decide, by decide⟩, ⟨by decide, by decide⟩, ⟨by decide, by decide⟩, ⟨by decide, by decide⟩, ⟨by decide, by decide⟩, ⟨by decide +kernel, by decide, by decide⟩, ⟨by decide +kernel, by decide, by decide⟩, trivial⟩
  xb := ⟨trivial, trivial, trivial, trivial, trivial, trivial, trivial⟩
abbrev R : PySem.W.OpenRow := PySem.W.OpenLaw.row PySem.Challenge.rw_touchrights_k00_errors_made_by_hand
def names : List PySem.Str := (["_law_box", "_law_take", "_law_cells", "_law_same", "_law_of", "_law_which", "_law_place_right", "_law_caught", "_law_right", "BadLine", "Barred", "NoHold", "NoMember", "NoNumber", "NothingDone", "Twice", "Unfit"] : List PySem.Str)
abbrev hk : PySem.W.Hook := hookX 4 fa fn xs
def ob (s : PySem.W.SharedT) : AlX := obsXG 4 fa fn xs (HandSHeadRun.getT s)
theorem ob_eq (s : PySem.W.SharedT) : ob s = hk.obs s.abs := obsXG_eq (HandSHeadRun.getT_eq s)
theorem run (w : World) : HandSHeadRun.RunEq R (PySem.W.view R.prog [19]) hk ob 4000 names w := by
  intro os
  kernel_rfl
end DlK00
end
section
set_option linter.all false
set_option maxRecDepth 100000
/-! DlPl: what an expression, a statement evaluates to, step by step (plain Lean). -/
namespace Dl
open PySem L2
/-- the calls of a table, at least k deep -/
def CC (Φ : Defs) (k : Nat) (c : Calls) : Prop := ∃ n, k ≤ n ∧ c = runD Φ n
theorem CC.of {Φ : Defs} {n : Nat} : CC Φ n (runD Φ n) := ⟨n, Nat.le_refl _, rfl⟩
theorem CC.mono {Φ : Defs} {k j : Nat} {c : Calls} (h : CC Φ k c) (l : j ≤ k) : CC Φ j c := h.elim fun n ⟨a, b⟩ => ⟨n, Nat.le_trans l a, b⟩
theorem CC.use {Φ : Defs} {k f : Nat} {c : Calls} {d : FDef} (h : CC Φ (k + 1) c) (e : Φ f = some d) : ∃ c', CC Φ k c' ∧ ∀ as io o, io.isSome = d.io → (if d.io then 1 else 0) + as.length = d.np → evSs c' loops d.body (entry d as io) = o → c f as io = endsF d o := by
  obtain ⟨n, a, b⟩ := h
  cases n with
  | zero => omega
  | succ n =>
    subst b
    refine ⟨runD Φ n, ⟨n, Nat.le_of_succ_le_succ a, rfl⟩, fun as io o h1 h2 h3 => ?_⟩
    subst h3
    show (match Φ f with | some d => _ | none => _) = _
    rw [e]
    show (if (io.isSome == d.io) && Nat.beq ((if d.io then 1 else 0) + as.length) d.np then _ else _) = _
    rw [h1, h2, if_pos (by simp)]
section
variable {c : Calls} {ρ ρ1 ρ2 ρ3 ρ4 w : Env} {a b e t lo hi : E} {es : Es} {d d1 d2 d3 : D} {v : Vl} {x y z : Op} {i f n : Nat} {xs ys ds : List D} {k k2 : Bool} {io : Option (List D)} {r : R (Vl × Env)} {o : Out}
theorem p_lit : evE c (.lit d) ρ = .ok (.fr d, ρ) := rfl
theorem p_con {q : Str} : evE c (.con q d) ρ = .ok (.fr d, ρ) := rfl
theorem p_varf (h : ρ[i]? = some (.fr d)) : evE c (.var i) ρ = .ok (.fr d, ρ) := by unfold evE; rw [h]
theorem p_varo (h : ρ[i]? = some (.ow xs)) (h2 : setSl ρ i (.fr (.list xs)) = ρ1) : evE c (.var i) ρ = .ok (.fr (.list xs), ρ1) := by unfold evE; rw [h, ← h2]
theorem p_neg {j : Int} (h : evE c a ρ = .ok (.fr (.int j), ρ1)) : evE c (.neg a) ρ = .ok (.fr (.int (-j)), ρ1) := by unfold evE; rw [h]; rfl
theorem p_not (h : evT c a ρ = .ok (k, ρ1)) : evE c (.notE a) ρ = .ok (.fr (.bool (!k)), ρ1) := by
  show R.bind (evT c a ρ) _ = _
  rw [h]; rfl
theorem p_bin {op : BOp} (h1 : evO c a ρ = .ok (x, ρ1)) (h2 : evO c b ρ1 = .ok (y, ρ2)) (h3 : deref ρ2 x = some d1) (h4 : deref ρ2 y = some d2) (h5 : binD op d1 d2 = some v) : evE c (.bin op a b) ρ = .ok (v, ρ2) := by
  show R.bind (evO c a ρ) _ = _
  rw [h1]
  show R.bind (evO c b ρ1) _ = _
  rw [h2]
  show R.opt (deref ρ2 x) _ = _
  rw [h3]
  show R.opt (deref ρ2 y) _ = _
  rw [h4]
  show R.opt (binD op d1 d2) _ = _
  rw [h5]; rfl
theorem p_cmp {op : COp} (h1 : evO c a ρ = .ok (x, ρ1)) (h2 : evO c b ρ1 = .ok (y, ρ2)) (h3 : deref ρ2 x = some d1) (h4 : deref ρ2 y = some d2) (h5 : cmpD op d1 d2 = some k) : evE c (.cmp op a b) ρ = .ok (.fr (.bool k), ρ2) := by
  show R.bind (evO c a ρ) _ = _
  rw [h1]
  show R.bind (evO c b ρ1) _ = _
  rw [h2]
  show R.opt (deref ρ2 x) _ = _
  rw [h3]
  show R.opt (deref ρ2 y) _ = _
  rw [h4]
  show R.opt (cmpD op d1 d2) _ = _
  rw [h5]; rfl
theorem p_chain {o1 o2 : COp} {g : E} (h1 : evO c a ρ = .ok (x, ρ1)) (h2 : evO c b ρ1 = .ok (y, ρ2)) (h3 : deref ρ2 x = some d1) (h4 : deref ρ2 y = some d2) (h5 : cmpD o1 d1 d2 = some k)
    (h6 : evO c g ρ2 = .ok (z, ρ3)) (h7 : deref ρ3 y = some d2) (h8 : deref ρ3 z = some d3) (h9 : cmpD o2 d2 d3 = some k2) (hs : ρ3 = ρ2) : evE c (.chain o1 o2 a b g) ρ = .ok (.fr (.bool (k && k2)), ρ2) := by
  subst hs
  show R.bind (evO c a ρ) _ = _
  rw [h1]
  show R.bind (evO c b ρ1) _ = _
  rw [h2]
  show R.opt (deref _ x) _ = _
  rw [h3]
  show R.opt (deref _ y) _ = _
  rw [h4]
  show R.opt (cmpD o1 d1 d2) _ = _
  rw [h5]
  cases k with
  | false => rfl
  | true =>
    show R.bind (evO c g _) _ = _
    rw [h6]
    show R.opt (deref _ y) _ = _
    rw [h4]
    show R.opt (deref _ z) _ = _
    rw [h8]
    show R.opt (cmpD o2 d2 d3) _ = _
    rw [h9]; rfl
theorem p_and (h : evE c a ρ = .ok (v, ρ1)) (ht : truD v.d = some k) (h2 : (if k = true then evE c b ρ1 else .ok (.fr v.d, ρ1)) = r) : evE c (.andE a b) ρ = r := by
  show R.bind (evE c a ρ) _ = _
  rw [h]
  show R.opt (truD v.d) _ = _
  rw [ht]; exact h2
theorem p_or (h : evE c a ρ = .ok (v, ρ1)) (ht : truD v.d = some k) (h2 : (if k = true then .ok (v, ρ1) else evE c b ρ1) = r) : evE c (.orE a b) ρ = r := by
  show R.bind (evE c a ρ) _ = _
  rw [h]
  show R.opt (truD v.d) _ = _
  rw [ht]; exact h2
/-- both sides are bools and change nothing -/
theorem p_andb (h : evE c a ρ = .ok (.fr (.bool k), ρ1)) (h2 : k = true → evE c b ρ1 = .ok (.fr (.bool k2), ρ1)) : evE c (.andE a b) ρ = .ok (.fr (.bool (k && k2)), ρ1) :=
  p_and h rfl (by cases k with | true => exact h2 rfl | false => rfl)
theorem p_orb (h : evE c a ρ = .ok (.fr (.bool k), ρ1)) (h2 : k = false → evE c b ρ1 = .ok (.fr (.bool k2), ρ1)) : evE c (.orE a b) ρ = .ok (.fr (.bool (k || k2)), ρ1) :=
  p_or h rfl (by cases k with | true => rfl | false => exact h2 rfl)
theorem p_ite (h : evT c t ρ = .ok (k, ρ1)) (h2 : (if k = true then evE c a ρ1 else evE c b ρ1) = r) : evE c (.ite t a b) ρ = r := by
  show R.bind (evT c t ρ) _ = _
  rw [h]; exact h2
theorem p_idx (h1 : evO c a ρ = .ok (x, ρ1)) (h2 : evE c b ρ1 = .ok (v, ρ2)) (h3 : deref ρ2 x = some d1) (h5 : idxD d1 v.d = some d2) : evE c (.idx a b) ρ = .ok (.fr d2, ρ2) := by
  show R.bind (evO c a ρ) _ = _
  rw [h1]
  show R.bind (evE c b ρ1) _ = _
  rw [h2]
  show R.opt (deref ρ2 x) _ = _
  rw [h3]
  show R.opt (idxD d1 v.d) _ = _
  rw [h5]; rfl
theorem p_slice {l h : Option Int} (h1 : evO c a ρ = .ok (x, ρ1)) (h2 : ptOf lo (evE c lo) ρ1 = .ok (l, ρ2)) (h3 : ptOf hi (evE c hi) ρ2 = .ok (h, ρ3)) (h4 : deref ρ3 x = some d1) (h5 : sliceD d1 l h = some v) : evE c (.slice a lo hi) ρ = .ok (v, ρ3) := by
  show R.bind (evO c a ρ) _ = _
  rw [h1]
  show R.bind (ptOf lo (evE c lo) ρ1) _ = _
  rw [h2]
  show R.bind (ptOf hi (evE c hi) ρ2) _ = _
  rw [h3]
  show R.opt (deref ρ3 x) _ = _
  rw [h4]
  show R.opt (sliceD d1 l h) _ = _
  rw [h5]; rfl
theorem q_abs {g : Env → R (Vl × Env)} : ptOf .abs_ g ρ = .ok (none, ρ) := rfl
theorem q_lit {g : Env → R (Vl × Env)} {j : Int} (h : g ρ = .ok (.fr (.int j), ρ1)) : ptOf (.lit d) g ρ = .ok (some j, ρ1) := by
  show R.bind (g ρ) _ = _
  rw [h]; rfl
theorem q_var {g : Env → R (Vl × Env)} {j : Int} (h : g ρ = .ok (.fr (.int j), ρ1)) : ptOf (.var i) g ρ = .ok (some j, ρ1) := by
  show R.bind (g ρ) _ = _
  rw [h]; rfl
theorem p_rev (h1 : evO c a ρ = .ok (x, ρ1)) (h4 : deref ρ1 x = some d1) (h5 : revD d1 = some v) : evE c (.rev a) ρ = .ok (v, ρ1) := by
  show R.bind (evO c a ρ) _ = _
  rw [h1]
  show R.opt (deref ρ1 x) _ = _
  rw [h4]
  show R.opt (revD d1) _ = _
  rw [h5]; rfl
theorem p_rep {j : Int} (h1 : evE c a ρ = .ok (.ow xs, ρ1)) (h2 : evE c b ρ1 = .ok (.fr (.int j), ρ2)) (h3 : (inRng j && fits (xs.length * j.toNat)) = true) : evE c (.rep a b) ρ = .ok (.ow (rep xs j.toNat), ρ2) := by
  show R.bind (evE c a ρ) _ = _
  rw [h1]
  show R.bind (evE c b ρ1) _ = _
  rw [h2]
  show (if _ then _ else _) = _
  rw [if_pos h3]
theorem p_lst (h : evEs c es ρ = .ok (ds, ρ1)) (hf : fits ds.length = true) : evE c (.lst es) ρ = .ok (.ow ds, ρ1) := by
  show R.bind (evEs c es ρ) _ = _
  rw [h]
  show (if _ then _ else _) = _
  rw [if_pos hf]
theorem p_tup (h : evEs c es ρ = .ok (ds, ρ1)) (hf : fits ds.length = true) : evE c (.tup es) ρ = .ok (.fr (.tuple ds), ρ1) := by
  show R.bind (evEs c es ρ) _ = _
  rw [h]
  show (if _ then _ else _) = _
  rw [if_pos hf]
theorem p_call (h : evEs c es ρ = .ok (ds, ρ1)) (h2 : c f ds none = .ok v io) : evE c (.call f es) ρ = .ok (v, ρ1) := by
  show R.bind (evEs c es ρ) _ = _
  rw [h]
  show callR (c f ds none) _ = _
  rw [h2]; rfl
theorem p_callx {q : Nat} (h : evEs c es ρ = .ok (ds, ρ1)) (h2 : c f ds none = .exc q xs) : evE c (.call f es) ρ = .exc q xs ρ1 := by
  show R.bind (evEs c es ρ) _ = _
  rw [h]
  show callR (c f ds none) _ = _
  rw [h2]; rfl
theorem p_calls {fs : List Nat} {j : Int} {g : RC} (h0 : evE c a ρ = .ok (.fr (.int j), ρ1)) (h1 : atI fs j = some f) (h : evEs c es ρ1 = .ok (ds, ρ2)) (h2 : c f ds none = g) : evE c (.calls fs a es) ρ = callR g ρ2 := by
  show R.bind (evE c a ρ) _ = _
  rw [h0]
  show R.opt (atI fs j) _ = _
  rw [h1]
  show R.bind (evEs c es ρ1) _ = _
  rw [h]
  show callR (c f ds none) _ = _
  rw [h2]
theorem p_call0 (h2 : c f [] none = .ok v io) : evE c (.call0 f) ρ = .ok (v, ρ) := by
  show (callR (c f [] none) ρ).nox = _
  rw [h2]; rfl
theorem p_callio (h0 : (owOf ρ i).isSome = true) (h : evEs c es ρ = .ok (ds, ρ1)) (h2 : owOf ρ1 i = some xs) (h3 : c f ds (some xs) = .ok v (some ys)) (h4 : setSl ρ1 i (.ow ys) = ρ2) : evE c (.callio f i es) ρ = .ok (v, ρ2) := by
  obtain ⟨zs, h0⟩ := Option.isSome_iff_exists.mp h0
  show R.opt (owOf ρ i) _ = _
  rw [h0]
  show R.bind (evEs c es ρ) _ = _
  rw [h]
  show R.opt (owOf ρ1 i) _ = _
  rw [h2]
  show callIo (c f ds (some xs)) ρ1 i = _
  rw [h3, ← h4]; rfl
theorem p_callt (h0 : evE c a ρ = .ok (.ow xs, ρ1)) (h : evEs c es ρ1 = .ok (ds, ρ2)) (h3 : c f ds (some xs) = .ok v (some ys)) : evE c (.callt f a es) ρ = .ok (v, ρ2) := by
  show R.bind (evE c a ρ) _ = _
  rw [h0]
  show R.bind (evEs c es ρ1) _ = _
  rw [h]
  show callTm (c f ds (some xs)) ρ2 = _
  rw [h3]; rfl
theorem p_bi {q : BI} {os : List Op} (h : evOs c es ρ = .ok (os, ρ1)) (h2 : derefs ρ1 os = some ds) (h3 : biD q ds = some v) : evE c (.bi q es) ρ = .ok (v, ρ1) := by
  show R.bind (evOs c es ρ) _ = _
  rw [h]
  show R.opt (derefs ρ1 os) _ = _
  rw [h2]
  show R.opt (biD q ds) _ = _
  rw [h3]; rfl
theorem p_app (h0 : (owOf ρ i).isSome = true) (h : evE c a ρ = .ok (v, ρ1)) (h2 : owOf ρ1 i = some xs) (h3 : fits (xs.length + 1) = true) (h4 : setSl ρ1 i (.ow (xs ++ [v.d])) = ρ2) : evE c (.app i a) ρ = .ok (.fr .none, ρ2) := by
  obtain ⟨ys, h0⟩ := Option.isSome_iff_exists.mp h0
  show R.opt (owOf ρ i) _ = _
  rw [h0]
  show R.bind (evE c a ρ) _ = _
  rw [h]
  show R.opt (owOf ρ1 i) _ = _
  rw [h2]
  show (if _ then _ else _) = _
  rw [if_pos h3, h4]
theorem p_pop1 {j : Int} {m : Nat} (h0 : (owOf ρ i).isSome = true) (h : evE c a ρ = .ok (.fr (.int j), ρ1)) (h2 : owOf ρ1 i = some xs) (h3 : ixN xs.length j = some m) (h5 : xs[m]? = some d) (h4 : setSl ρ1 i (.ow (xs.eraseIdx m)) = ρ2) : evE c (.pop1 i a) ρ = .ok (.fr d, ρ2) := by
  obtain ⟨ys, h0⟩ := Option.isSome_iff_exists.mp h0
  show R.opt (owOf ρ i) _ = _
  rw [h0]
  show R.bind (evE c a ρ) _ = _
  rw [h]
  show R.opt (owOf ρ1 i) _ = _
  rw [h2]
  show R.opt (ixN xs.length j) _ = _
  rw [h3]
  show R.opt (xs[m]?) _ = _
  rw [h5]
  show R.ok _ = _
  rw [h4]
theorem p_isin {ts : List Ty} (h1 : evO c a ρ = .ok (x, ρ1)) (h4 : deref ρ1 x = some d) (h5 : isTyO ts d = some k) : evE c (.isin a ts) ρ = .ok (.fr (.bool k), ρ1) := by
  show R.bind (evO c a ρ) _ = _
  rw [h1]
  show R.opt (deref ρ1 x) _ = _
  rw [h4]
  show R.opt (isTyO ts d) _ = _
  rw [h5]; rfl
theorem o_pk (h : (ρ[i]?).bind slD = some d) : evO c (.pk i) ρ = .ok (.sl i, ρ) := by
  show R.opt _ _ = _
  rw [h]; rfl
def notPk : E → Bool
  | .pk _ => false
  | _ => true
theorem o_e (hn : notPk e = true) (h : evE c e ρ = .ok (v, ρ1)) : evO c e ρ = .ok (.vl v, ρ1) := by
  have : evO c e ρ = (evE c e ρ).bind fun r => .ok (.vl r.1, r.2) := by cases e <;> first | rfl | cases hn
  rw [this, h]; rfl
theorem t_ (h : evO c e ρ = .ok (x, ρ1)) (h2 : deref ρ1 x = some d) (h3 : truD d = some k) : evT c e ρ = .ok (k, ρ1) := by
  show R.bind (evO c e ρ) _ = _
  rw [h]
  show R.opt (deref ρ1 x) _ = _
  rw [h2]
  show R.opt (truD d) _ = _
  rw [h3]; rfl
theorem t_b (hn : notPk e = true) (h : evE c e ρ = .ok (.fr (.bool k), ρ1)) : evT c e ρ = .ok (k, ρ1) := t_ (o_e hn h) rfl rfl
theorem es_nil : evEs c .nil ρ = .ok ([], ρ) := rfl
theorem es_cons (h : evE c e ρ = .ok (v, ρ1)) (h2 : evEs c es ρ1 = .ok (ds, ρ2)) : evEs c (.cons false e es) ρ = .ok (v.d :: ds, ρ2) := by
  show R.bind (evE c e ρ) _ = _
  rw [h]
  show R.bind (evEs c es ρ1) _ = _
  rw [h2]; rfl
theorem es_consd (h : evE c e ρ = .ok (v, ρ1)) (hd : v.d = d) (h2 : evEs c es ρ1 = .ok (ds, ρ2)) : evEs c (.cons false e es) ρ = .ok (d :: ds, ρ2) := by
  subst hd
  exact es_cons h h2
theorem l_vd (h : v.d = d) : v.d = d := h
theorem es_star (h : evE c e ρ = .ok (v, ρ1)) (hx : items? v.d = some xs) (h2 : evEs c es ρ1 = .ok (ds, ρ2)) : evEs c (.cons true e es) ρ = .ok (xs ++ ds, ρ2) := by
  show R.bind (evE c e ρ) _ = _
  rw [h]
  show R.opt (items? v.d) _ = _
  rw [hx]
  show R.bind (evEs c es ρ1) _ = _
  rw [h2]; rfl
theorem os_nil : evOs c .nil ρ = .ok ([], ρ) := rfl
theorem os_cons {os : List Op} (h : evO c e ρ = .ok (x, ρ1)) (h2 : evOs c es ρ1 = .ok (os, ρ2)) : evOs c (.cons false e es) ρ = .ok (x :: os, ρ2) := by
  show R.bind (evO c e ρ) _ = _
  rw [h]
  show R.bind (evOs c es ρ1) _ = _
  rw [h2]; rfl
/-! what is walked -/
theorem i_of (h : evO c a ρ = .ok (x, ρ1)) (h2 : deref ρ1 x = some d) (h3 : walkD d = some xs) : evI c (.of a) ρ = .ok (xs, ρ1) := by
  show R.bind (evO c a ρ) _ = _
  rw [h]
  show R.opt (deref ρ1 x) _ = _
  rw [h2]
  show R.opt (walkD d) _ = _
  rw [h3]; rfl
theorem i_zip (h : evO c a ρ = .ok (x, ρ1)) (h1 : evO c b ρ1 = .ok (y, ρ2)) (h2 : deref ρ2 x = some d1) (h3 : deref ρ2 y = some d2) (h4 : zipD d1 d2 = some xs) : evI c (.zip a b) ρ = .ok (xs, ρ2) := by
  show R.bind (evO c a ρ) _ = _
  rw [h]
  show R.bind (evO c b ρ1) _ = _
  rw [h1]
  show R.opt (deref ρ2 x) _ = _
  rw [h2]
  show R.opt (deref ρ2 y) _ = _
  rw [h3]
  show R.opt (zipD d1 d2) _ = _
  rw [h4]; rfl
theorem i_enum (h : evO c a ρ = .ok (x, ρ1)) (h2 : deref ρ1 x = some d) (h3 : listD d = some xs) : evI c (.enum a) ρ = .ok (enumD 0 xs, ρ1) := by
  show R.bind (evO c a ρ) _ = _
  rw [h]
  show R.opt (deref ρ1 x) _ = _
  rw [h2]
  show R.opt (listD d) _ = _
  rw [h3]; rfl
theorem i_rng {j : Int} (h : evE c a ρ = .ok (.fr (.int j), ρ1)) (h2 : (inRng j && fits j.toNat) = true) : evI c (.rng a) ρ = .ok (rangeL 0 j.toNat, ρ1) := by
  show R.bind (evE c a ρ) _ = _
  rw [h]
  show (if _ then _ else _) = _
  rw [if_pos h2]
/-! statements -/
def thenO (o : Out) (f : Env → Out) : Out := match o with
  | .next ρ => f ρ
  | o => o
theorem ss_nil : evSs c n .nil ρ = .next ρ := rfl
theorem ss_cons {s : S} {ss : Ss} {o1 : Out} (h : evS c n s ρ = o1) (h2 : thenO o1 (evSs c n ss) = o) : evSs c n (.cons s ss) ρ = o := by
  subst h
  rw [← h2]
  unfold evSs thenO
  cases evS c n s ρ <;> rfl
theorem th_next {g : Env → Out} (h : g ρ = o) : thenO (.next ρ) g = o := h
theorem th_ret {g : Env → Out} : thenO (.ret v ρ) g = .ret v ρ := rfl
theorem th_exc {g : Env → Out} {q : Nat} : thenO (.exc q xs ρ) g = .exc q xs ρ := rfl
theorem s_set {t : T} (h : evE c e ρ = .ok (v, ρ1)) (h2 : storeV t v ρ1 = some ρ2) : evS c n (.set t e) ρ = .next ρ2 := by
  show R.out (evE c e ρ) _ = _
  rw [h]
  show optOut (storeV t v ρ1) _ = _
  rw [h2]; rfl
theorem s_setf {t : T} (h : evE c e ρ = .ok (v, ρ1)) (h2 : storeD t v.d ρ1 = some ρ2) : evS c n (.setf t e) ρ = .next ρ2 := by
  show R.out (evE c e ρ) _ = _
  rw [h]
  show optOut (storeD t v.d ρ1) _ = _
  rw [h2]; rfl
theorem s_par {is : List (Nat × Bool)} {vs : List Vl} (h : evVs c is es ρ = .ok (vs, ρ1)) (h2 : storeVs is vs ρ1 = some ρ2) : evS c n (.par is es) ρ = .next ρ2 := by
  show R.out (evVs c is es ρ) _ = _
  rw [h]
  show optOut (storeVs is vs ρ1) _ = _
  rw [h2]; rfl
theorem vs_nil : evVs c [] .nil ρ = .ok ([], ρ) := rfl
theorem vs_cons {j : Nat × Bool} {is : List (Nat × Bool)} {vs : List Vl} (h : evE c e ρ = .ok (v, ρ1)) (h2 : evVs c is es ρ1 = .ok (vs, ρ2)) : evVs c (j :: is) (.cons false e es) ρ = .ok ((if j.2 then v else .fr v.d) :: vs, ρ2) := by
  show R.bind (evE c e ρ) _ = _
  rw [h]
  show R.bind (evVs c is es ρ1) _ = _
  rw [h2]; rfl
theorem s_sub {k' : E} {j : Int} {m : Nat} (h : evE c e ρ = .ok (v, ρ1)) (h2 : owOf ρ1 i = some ys) (h3 : evE c k' ρ1 = .ok (.fr (.int j), ρ2)) (h4 : owOf ρ2 i = some xs) (h5 : ixN xs.length j = some m) (h6 : setSl ρ2 i (.ow (xs.set m v.d)) = ρ3) : evS c n (.sub i k' e) ρ = .next ρ3 := by
  show R.out (evE c e ρ) _ = _
  rw [h]
  show optOut (owOf ρ1 i) _ = _
  rw [h2]
  show R.out (evE c k' ρ1) _ = _
  rw [h3]
  show optOut (owOf ρ2 i) _ = _
  rw [h4]
  show optOut (ixN xs.length j) _ = _
  rw [h5]
  show Out.next _ = _
  rw [h6]
theorem s_ex (h : evE c e ρ = .ok (v, ρ1)) : evS c n (.ex e) ρ = .next ρ1 := by
  show R.out (evE c e ρ) _ = _
  rw [h]; rfl
theorem s_exx {q : Nat} (h : evE c e ρ = .exc q xs ρ1) : evS c n (.ex e) ρ = .exc q xs ρ1 := by
  show R.out (evE c e ρ) _ = _
  rw [h]; rfl
theorem s_if {A B : Ss} (h : evT c t ρ = .ok (k, ρ1)) (h2 : (if k = true then evSs c n A ρ1 else evSs c n B ρ1) = o) : evS c n (.ifS t A B) ρ = o := by
  show R.out (evT c t ρ) _ = _
  rw [h]; exact h2
theorem s_for {tg : T} {it : It} {B : Ss} (hop : opsOf it = []) (h : evI c it ρ = .ok (xs, ρ1)) (h2 : loopF (fun x ρ => optOut (storeD tg x ρ) fun ρ1 => evSs c n B ρ1) xs ρ1 = o) : evS c n (.forS tg it B) ρ = o := by
  show (match opsOf it with | [] => _ | _ => _) = _
  rw [hop]
  show R.out (evI c it ρ) _ = _
  rw [h]; exact h2
theorem s_ret (h : evE c e ρ = .ok (v, ρ1)) : evS c n (.ret e) ρ = .ret v ρ1 := by
  show R.out (evE c e ρ) _ = _
  rw [h]; rfl
theorem s_retf (h : evE c e ρ = .ok (v, ρ1)) : evS c n (.retf e) ρ = .ret (.fr v.d) ρ1 := by
  show R.out (evE c e ρ) _ = _
  rw [h]; rfl
theorem s_raise {q : Nat} (h : evEs c es ρ = .ok (ds, ρ1)) : evS c n (.raise q es) ρ = .exc q ds ρ1 := by
  show R.out (evEs c es ρ) _ = _
  rw [h]; rfl
theorem s_tryn {B : Ss} {hs : List Hd} (h : evSs c n B ρ = .next ρ1) : evS c n (.tryS B hs) ρ = .next ρ1 := by
  show (match evSs c n B ρ with | .exc k xs ρ' => _ | o => o) = _
  rw [h]
theorem s_tryx {B : Ss} {hs : List Hd} {q : Nat} (h : evSs c n B ρ = .exc q xs ρ1) (h2 : catchD hs q xs ρ1 = o) : evS c n (.tryS B hs) ρ = o := by
  show (match evSs c n B ρ with | .exc k xs ρ' => _ | o => o) = _
  rw [h]; exact h2
theorem s_setfx {t : T} {q : Nat} (h : evE c e ρ = .exc q xs ρ1) : evS c n (.setf t e) ρ = .exc q xs ρ1 := by
  show R.out (evE c e ρ) _ = _
  rw [h]; rfl
theorem if_t {α : Type} {p q r : α} (h : p = r) : (if true = true then p else q) = r := h
theorem if_f {α : Type} {p q r : α} (h : q = r) : (if false = true then p else q) = r := h
/-! comprehensions -/
theorem turns_fm {g : D → Env → List D → R (Env × List D)} {y : D → List D} (I : Env → Prop) : ∀ {xs : List D}, (∀ x ∈ xs, ∀ ρ acc, I ρ → ∃ ρ', g x ρ acc = .ok (ρ', acc ++ y x) ∧ I ρ') → ∀ ρ acc, I ρ → ∃ ρ', turns g xs ρ acc = .ok (ρ', acc ++ xs.flatMap y) ∧ I ρ'
  | [], _, ρ, acc, h => ⟨ρ, by simp [turns], h⟩
  | x :: xs, hx, ρ, acc, h => by
    obtain ⟨ρ1, e1, h1⟩ := hx x List.mem_cons_self ρ acc h
    obtain ⟨ρ2, e2, h2⟩ := turns_fm I (xs := xs) (fun z hz => hx z (List.mem_cons_of_mem _ hz)) ρ1 (acc ++ y x) h1
    refine ⟨ρ2, ?_, h2⟩
    show R.bind (g x ρ acc) _ = _
    rw [e1]
    show turns g xs ρ1 (acc ++ y x) = _
    rw [e2, List.append_assoc]; rfl
theorem wipeE_idem {ρ : Env} {vs : List Nat} : wipeE (wipeE ρ vs) vs = wipeE ρ vs := by
  apply List.ext_getElem?
  intro i
  by_cases hi : i ∈ vs
  · by_cases hn : i < ρ.length
    · have h1 : i < (wipeE ρ vs).length := by rw [wipeE_len]; exact hn
      have h2 : i < (wipeE (wipeE ρ vs) vs).length := by rw [wipeE_len]; exact h1
      rw [List.getElem?_eq_getElem h1, List.getElem?_eq_getElem h2, wipeE_in hi (List.getElem?_eq_getElem h1), wipeE_in hi (List.getElem?_eq_getElem h2)]
    · rw [List.getElem?_eq_none (by rw [wipeE_len, wipeE_len]; omega), List.getElem?_eq_none (by rw [wipeE_len]; omega)]
  · rw [wipeE_out hi]
theorem back_of {ρ ρ' : Env} {vs : List Nat} (h : wipeE ρ' vs = wipeE ρ vs) : backE ρ ρ' vs = ρ := by
  have hl : ρ'.length = ρ.length := by have e := congrArg List.length h; rwa [wipeE_len, wipeE_len] at e
  have bl : ∀ us : List Nat, (backE ρ ρ' us).length = ρ'.length := fun us => by
    induction us with
    | nil => rfl
    | cons u us ih => show (setSl _ u _).length = _; unfold setSl; rw [List.length_set, ih]
  apply List.ext_getElem?
  intro i
  by_cases hi : i ∈ vs
  · by_cases hn : i < ρ.length
    · rw [backE_in hl.symm hi]
    · rw [List.getElem?_eq_none (by rw [bl, hl]; omega), List.getElem?_eq_none (by omega)]
  · rw [backE_out hi]
    have e : (wipeE ρ' vs)[i]? = (wipeE ρ vs)[i]? := by rw [h]
    rw [wipeE_out hi, wipeE_out hi] at e
    exact e
/-- one generator, no test -/
theorem p_comp {tg : T} {it : It} (y : D → D) (hw : wipeE ρ (ownT tg) = w) (hI : evI c it w = .ok (xs, w)) (hq : (opsOf it).all (fun i => quiets i .nil && quietG i (.elt e) && quietT i tg) = true)
    (h : ∀ x ∈ xs, ∃ ρ1 v ρ2, storeD tg x w = some ρ1 ∧ evE c e ρ1 = .ok (v, ρ2) ∧ v.d = y x ∧ wipeE ρ2 (ownT tg) = w) : evE c (.comp (.cons tg it .nil (.elt e))) ρ = .ok (.ow (xs.map y), ρ) := by
  have hg : ownG (.cons tg it .nil (.elt e)) = ownT tg := List.append_nil _
  have ww : wipeE w (ownT tg) = w := by
    subst hw
    exact wipeE_idem
  obtain ⟨ρ', e1, e2⟩ := turns_fm (y := fun x => [y x]) (g := fun x ρ acc => R.opt (storeD tg x (wipeE ρ (ownT tg ++ ownG (.elt e)))) fun ρ1 => (evC c .nil ρ1).bind fun q => if q.1 then evG c (.elt e) q.2 acc else .ok (q.2, acc)) (fun ρ => wipeE ρ (ownT tg) = w) (xs := xs) (fun x hx ρ acc hr => by
    obtain ⟨ρ1, v, ρ2, h1, h2, h3, h4⟩ := h x hx
    refine ⟨ρ2, ?_, h4⟩
    rw [show ownT tg ++ ownG (.elt e) = ownT tg from hg, hr, h1]
    show R.bind (evE c e ρ1) _ = _
    rw [h2, ← h3]; rfl) w [] ww
  show (R.bind (R.nox (evG c _ (wipeE ρ _) [])) _) = _
  rw [hg, hw]
  have : evG c (.cons tg it .nil (.elt e)) w [] = .ok (ρ', xs.map y) := by
    show R.bind (evI c it w) _ = _
    rw [hI]
    show (if _ then _ else _) = _
    rw [if_pos hq, e1, List.nil_append, List.map_eq_flatMap]
  rw [this]
  simp only [R.nox, R.bind]
  rw [show (oneG _ || fits _) = true from rfl, if_pos rfl, back_of (e2.trans hw.symm)]
/-- one generator, one test -/
theorem p_compf {tg : T} {it : It} {s : Bool} (p : D → Bool) (y : D → D) (hw : wipeE ρ (ownT tg) = w) (hI : evI c it w = .ok (xs, w)) (hq : (opsOf it).all (fun i => quiets i (.cons s t .nil) && quietG i (.elt e) && quietT i tg) = true)
    (h : ∀ x ∈ xs, ∃ ρ1 ρ2, storeD tg x w = some ρ1 ∧ evT c t ρ1 = .ok (p x, ρ2) ∧ wipeE ρ2 (ownT tg) = w ∧ (p x = true → ∃ v ρ3, evE c e ρ2 = .ok (v, ρ3) ∧ v.d = y x ∧ wipeE ρ3 (ownT tg) = w)) : evE c (.comp (.cons tg it (.cons s t .nil) (.elt e))) ρ = .ok (.ow ((xs.filter p).map y), ρ) := by
  have hg : ownG (.cons tg it (.cons s t .nil) (.elt e)) = ownT tg := List.append_nil _
  have ww : wipeE w (ownT tg) = w := by
    subst hw
    exact wipeE_idem
  obtain ⟨ρ', e1, e2⟩ := turns_fm (y := fun x => if p x then [y x] else []) (g := fun x ρ acc => R.opt (storeD tg x (wipeE ρ (ownT tg ++ ownG (.elt e)))) fun ρ1 => (evC c (.cons s t .nil) ρ1).bind fun q => if q.1 then evG c (.elt e) q.2 acc else .ok (q.2, acc)) (fun ρ => wipeE ρ (ownT tg) = w) (xs := xs) (fun x hx ρ acc hr => by
    obtain ⟨ρ1, ρ2, h1, h2, h4, h5⟩ := h x hx
    rw [show ownT tg ++ ownG (.elt e) = ownT tg from hg, hr, h1]
    have hC : ∀ k, evT c t ρ1 = .ok (k, ρ2) → evC c (.cons s t .nil) ρ1 = .ok (k, ρ2) := fun k hk => by
      show R.bind (evT c t ρ1) _ = _
      rw [hk]
      cases k <;> rfl
    show ∃ ρ', (evC c (.cons s t .nil) ρ1).bind _ = _ ∧ _
    rw [hC _ h2]
    cases hp : p x with
    | false => exact ⟨ρ2, by simp [R.bind], h4⟩
    | true =>
      obtain ⟨v, ρ3, h6, h7, h8⟩ := h5 hp
      refine ⟨ρ3, ?_, h8⟩
      show R.bind (evE c e ρ2) _ = _
      rw [h6, ← h7]; rfl) w [] ww
  show (R.bind (R.nox (evG c _ (wipeE ρ _) [])) _) = _
  rw [hg, hw]
  have : evG c (.cons tg it (.cons s t .nil) (.elt e)) w [] = .ok (ρ', (xs.filter p).map y) := by
    show R.bind (evI c it w) _ = _
    rw [hI]
    show (if _ then _ else _) = _
    rw [if_pos hq, e1, List.nil_append]
    congr 2
    clear hI h e1
    induction xs with
    | nil => rfl
    | cons x r ih =>
      rw [List.flatMap_cons, ih]
      cases hp : p x <;> simp [hp]
  rw [this]
  simp only [R.nox, R.bind]
  rw [show (oneG _ || fits _) = true from rfl, if_pos rfl, back_of (e2.trans hw.symm)]
end
end Dl
end
section
set_option linter.all false
set_option maxRecDepth 100000
/-! DlSt: leaves of the plain steps. -/
namespace Dl
open PySem L2
section
variable {α : Type} {x y : α}
structure Lf (x y : α) : Prop where
  eq : x = y
end
theorem l_deref {ρ : Env} {x : Op} {d : Option D} (h : deref ρ x = d) : deref ρ x = d := h
theorem l_derefs {ρ : Env} {x : List Op} {d : Option (List D)} (h : derefs ρ x = d) : derefs ρ x = d := h
theorem l_get {ρ : Env} {i : Nat} {d : Option Sl} (h : ρ[i]? = d) : ρ[i]? = d := h
theorem l_getb {ρ : Env} {i : Nat} {d : Option D} (h : (ρ[i]?).bind slD = d) : (ρ[i]?).bind slD = d := h
theorem l_ow {ρ : Env} {i : Nat} {d : Option (List D)} (h : owOf ρ i = d) : owOf ρ i = d := h
theorem l_owi {ρ : Env} {i : Nat} (h : (owOf ρ i).isSome = true) : (owOf ρ i).isSome = true := h
theorem l_set {ρ ρ1 : Env} {i : Nat} {s : Sl} (h : setSl ρ i s = ρ1) : setSl ρ i s = ρ1 := h
theorem l_wipe {ρ ρ1 : Env} {vs : List Nat} (h : wipeE ρ vs = ρ1) : wipeE ρ vs = ρ1 := h
theorem l_bin {o : BOp} {a b : D} {v : Option Vl} (h : binD o a b = v) : binD o a b = v := h
theorem l_cmp {o : COp} {a b : D} {v : Option Bool} (h : cmpD o a b = v) : cmpD o a b = v := h
theorem l_idx {a b : D} {v : Option D} (h : idxD a b = v) : idxD a b = v := h
theorem l_slice {a : D} {l h : Option Int} {v : Option Vl} (q : sliceD a l h = v) : sliceD a l h = v := q
theorem l_rev {a : D} {v : Option Vl} (q : revD a = v) : revD a = v := q
theorem l_any {ts : List Ty} {d : D} {k : Option Bool} (h : isTyO ts d = k) : isTyO ts d = k := h
theorem l_fits {n : Nat} (h : fits n = true) : fits n = true := h
theorem l_tru {d : D} {k : Option Bool} (h : truD d = k) : truD d = k := h
theorem l_items {d : D} {k : Option (List D)} (h : items? d = k) : items? d = k := h
theorem l_walk {d : D} {k : Option (List D)} (h : walkD d = k) : walkD d = k := h
theorem l_zip {d e : D} {k : Option (List D)} (h : zipD d e = k) : zipD d e = k := h
theorem l_list {d : D} {k : Option (List D)} (h : listD d = k) : listD d = k := h
theorem l_bi {q : BI} {ds : List D} {k : Option Vl} (h : biD q ds = k) : biD q ds = k := h
theorem l_stv {t : T} {v : Vl} {ρ : Env} {k : Option Env} (h : storeV t v ρ = k) : storeV t v ρ = k := h
theorem l_std {t : T} {v : D} {ρ : Env} {k : Option Env} (h : storeD t v ρ = k) : storeD t v ρ = k := h
theorem l_stvs {t : List (Nat × Bool)} {v : List Vl} {ρ : Env} {k : Option Env} (h : storeVs t v ρ = k) : storeVs t v ρ = k := h
theorem l_ixn {n : Nat} {i : Int} {k : Option Nat} (h : ixN n i = k) : ixN n i = k := h
theorem l_ops {it : It} {k : List Nat} (h : opsOf it = k) : opsOf it = k := h
theorem l_if {α : Type} {k : Bool} {p q r : α} (h : (if k = true then p else q) = r) : (if k = true then p else q) = r := h
theorem if_tt {α : Type} {k : Bool} {p q r : α} (hk : k = true) (h : p = r) : (if k = true then p else q) = r := by subst hk; exact h
theorem if_ff {α : Type} {k : Bool} {p q r : α} (hk : k = false) (h : q = r) : (if k = true then p else q) = r := by subst hk; exact h
theorem l_rc {c : Calls} {f : Nat} {ds : List D} {io : Option (List D)} {r : RC} (h : c f ds io = r) : c f ds io = r := h
theorem l_getd {xs : List D} {i : Nat} {d : Option D} (h : xs[i]? = d) : xs[i]? = d := h
theorem l_ssn {c : Calls} {n : Nat} {ρ : Env} {o : Out} (h : evSs c n .nil ρ = o) : evSs c n .nil ρ = o := h
theorem l_thr {v : Vl} {ρ : Env} {g : Env → Out} {o : Out} (h : thenO (.ret v ρ) g = o) : thenO (.ret v ρ) g = o := h
theorem l_esn {c : Calls} {ρ : Env} {o : R (List D × Env)} (h : evEs c .nil ρ = o) : evEs c .nil ρ = o := h
theorem l_rok {α : Type} {a : α} {r : R α} (h : R.ok a = r) : R.ok a = r := h
theorem l_comp {c : Calls} {g : Gs} {ρ : Env} {r : R (Vl × Env)} (h : evE c (.comp g) ρ = r) : evE c (.comp g) ρ = r := h
theorem l_the {q : Nat} {ds : List D} {ρ : Env} {g : Env → Out} {o : Out} (h : thenO (.exc q ds ρ) g = o) : thenO (.exc q ds ρ) g = o := h
theorem l_env {a b : Env} (h : a = b) : a = b := h
theorem l_pk {e : E} (h : notPk e = true) : notPk e = true := h
theorem CC.go {Φ : Defs} {k f : Nat} {c : Calls} {d : FDef} (h : CC Φ (k + 1) c) (e : Φ f = some d) : ∃ c', CC Φ k c' ∧ ∀ as io o r, io.isSome = d.io → (if d.io then 1 else 0) + as.length = d.np → evSs c' loops d.body (entry d as io) = o → endsF d o = r → c f as io = r := by
  obtain ⟨c', h1, h2⟩ := h.use e
  exact ⟨c', h1, fun as io o r a b g q => (h2 as io o a b g).trans q⟩
theorem i_ofl {c : Calls} {ρ : Env} {a : E} {r : R (List D × Env)} (h : evI c (.of a) ρ = r) : evI c (.of a) ρ = r := h
end Dl
end
section
set_option linter.all false
set_option maxRecDepth 100000
/-! DlPl2: comprehensions whose turns change other slots. -/
namespace Dl
open PySem L2
theorem turns_ix {g : D → Env → List D → R (Env × List D)} {y : D → D} (I : Nat → Env → Prop) (n : Nat) : ∀ {xs : List D} (j : Nat), j + xs.length = n → (∀ x ∈ xs, ∀ j ρ acc, j < n → I j ρ → ∃ ρ', g x ρ acc = .ok (ρ', acc ++ [y x]) ∧ I (j + 1) ρ') → ∀ ρ acc, I j ρ → ∃ ρ', turns g xs ρ acc = .ok (ρ', acc ++ xs.map y) ∧ I n ρ'
  | [], j, hj, _, ρ, acc, h => ⟨ρ, by simp [turns], by have e : j = n := hj; subst e; exact h⟩
  | x :: xs, j, hj, hx, ρ, acc, h => by
    rw [List.length_cons] at hj
    obtain ⟨ρ1, e1, h1⟩ := hx x List.mem_cons_self j ρ acc (by omega) h
    obtain ⟨ρ2, e2, h2⟩ := turns_ix I n (xs := xs) (j + 1) (by omega) (fun z hz => hx z (List.mem_cons_of_mem _ hz)) ρ1 (acc ++ [y x]) h1
    refine ⟨ρ2, ?_, h2⟩
    show R.bind (g x ρ acc) _ = _
    rw [e1]
    show turns g xs ρ1 (acc ++ [y x]) = _
    rw [e2, List.append_assoc]; rfl
/-- one generator, no test; each turn may change the slots: I says how they stand -/
theorem p_compI {c : Calls} {ρ w w1 : Env} {xs : List D} {e : E} {tg : T} {it : It} (y : D → D) (I : Nat → Env → Prop) (hw : wipeE ρ (ownT tg) = w) (hI : evI c it w = .ok (xs, w1)) (hq : (opsOf it).all (fun i => quiets i .nil && quietG i (.elt e) && quietT i tg) = true)
    (h0 : I 0 w1) (h : ∀ x ∈ xs, ∀ j ρ, j < xs.length → I j ρ → ∃ ρ1 v ρ2, storeD tg x (wipeE ρ (ownT tg)) = some ρ1 ∧ evE c e ρ1 = .ok (v, ρ2) ∧ v.d = y x ∧ I (j + 1) ρ2) : ∃ ρ2, I xs.length ρ2 ∧ evE c (.comp (.cons tg it .nil (.elt e))) ρ = .ok (.ow (xs.map y), backE ρ ρ2 (ownT tg)) := by
  have hg : ownG (.cons tg it .nil (.elt e)) = ownT tg := List.append_nil _
  obtain ⟨ρ', e1, e2⟩ := turns_ix (y := y) (g := fun x ρ acc => R.opt (storeD tg x (wipeE ρ (ownT tg ++ ownG (.elt e)))) fun ρ1 => (evC c .nil ρ1).bind fun q => if q.1 then evG c (.elt e) q.2 acc else .ok (q.2, acc)) I xs.length (xs := xs) 0 (by omega) (fun x hx j ρ acc hj hr => by
    obtain ⟨ρ1, v, ρ2, h1, h2, h3, h4⟩ := h x hx j ρ hj hr
    refine ⟨ρ2, ?_, h4⟩
    rw [show ownT tg ++ ownG (.elt e) = ownT tg from hg, h1]
    show R.bind (evE c e ρ1) _ = _
    rw [h2, ← h3]; rfl) w1 [] h0
  refine ⟨ρ', e2, ?_⟩
  show (R.bind (R.nox (evG c _ (wipeE ρ _) [])) _) = _
  rw [hg, hw]
  have : evG c (.cons tg it .nil (.elt e)) w [] = .ok (ρ', xs.map y) := by
    show R.bind (evI c it w) _ = _
    rw [hI]
    show (if _ then _ else _) = _
    rw [if_pos hq, e1, List.nil_append]
  rw [this]
  simp only [R.nox, R.bind]
  rw [show (oneG _ || fits _) = true from rfl, if_pos rfl]
end Dl
end
section
set_option linter.all false
set_option maxRecDepth 100000
/-! DlPl3: what is told of exceptions as values. -/
namespace Dl
open PySem L2
section
variable {c : Calls} {ρ ρ1 : Env} {a : E} {d d2 : D} {v : Vl} {x : Op} {y f : Str} {k b : Bool}
theorem p_mkx (h : evE c a ρ = .ok (v, ρ1)) (hd : v.d = d) : evE c (.mkx y f b a) ρ = .ok (.fr (excD y f d), ρ1) := by
  subst hd
  show R.bind (evE c a ρ) _ = _
  rw [h]; rfl
theorem p_mk0 : evE c (.mk0 y) ρ = .ok (.fr (excD0 y), ρ) := rfl
theorem p_attr {tab : List Str} (h1 : evO c a ρ = .ok (x, ρ1)) (h4 : deref ρ1 x = some d) (h5 : attrD f tab d = some d2) : evE c (.attr a f tab) ρ = .ok (.fr d2, ρ1) := by
  show R.bind (evO c a ρ) _ = _
  rw [h1]
  show R.opt (deref ρ1 x) _ = _
  rw [h4]
  show R.opt (attrD f tab d) _ = _
  rw [h5]; rfl
theorem p_isx {cs : List Str} {tab : List (Str × Bool)} (h1 : evO c a ρ = .ok (x, ρ1)) (h4 : deref ρ1 x = some d) (h5 : isxD tab d = some k) : evE c (.isx a cs tab) ρ = .ok (.fr (.bool k), ρ1) := by
  show R.bind (evO c a ρ) _ = _
  rw [h1]
  show R.opt (deref ρ1 x) _ = _
  rw [h4]
  show R.opt (isxD tab d) _ = _
  rw [h5]; rfl
end
end Dl
end
section
set_option linter.all false
set_option maxRecDepth 100000
/-! DlOr2: texts and rows of texts in order (plain Lean). -/
namespace Dl
open PySem L2 SrtO
/-- a text -/
def IsS (d : D) : Prop := ∃ x : Str, d = .str x ∧ PyData.canLay0 (.str x) = true
/-- a row of texts, not empty -/
def IsR (d : D) : Prop := ∃ l : List D, d = .tuple l ∧ l ≠ [] ∧ ∀ x ∈ l, IsS x
/-- what can be put in order here -/
structure Cl (xs : List D) : Prop where
  hash : ∀ x ∈ xs, hashB 8 x = true
  cmp : allCmp xs = true
  kind : kindOk xs = true
  lay : ∀ x ∈ xs, x.canLay0 = true
  dep : ∀ x ∈ xs, x.depth ≤ 2
theorem Cl.sub {xs ys : List D} (h : Cl xs) (s : ∀ y ∈ ys, y ∈ xs) : Cl ys := ⟨fun x hx => h.hash x (s x hx), allCmp_sub h.cmp s, kind_sub h.kind s, fun x hx => h.lay x (s x hx), fun x hx => h.dep x (s x hx)⟩
theorem Cl.shpL {xs : List D} (h : Cl xs) : shp (.list xs) = true := by
  refine Bool.and_eq_true_iff.mpr ⟨lay_all.mpr h.lay, decide_eq_true ?_⟩
  have := depth_all.mpr h.dep
  show PyData.depthAll xs + 1 ≤ 64
  omega
theorem Cl.shpT {xs : List D} (h : Cl xs) : shp (.tuple xs) = true := by
  refine Bool.and_eq_true_iff.mpr ⟨lay_all.mpr h.lay, decide_eq_true ?_⟩
  have := depth_all.mpr h.dep
  show PyData.depthAll xs + 1 ≤ 64
  omega
theorem cl_strs {xs : List D} (h : ∀ x ∈ xs, IsS x) : Cl xs where
  hash := fun x hx => by obtain ⟨s, e, _⟩ := h x hx; subst e; rfl
  cmp := List.all_eq_true.mpr fun x hx => List.all_eq_true.mpr fun y hy => by
    obtain ⟨s, e, _⟩ := h x hx
    obtain ⟨t, e', _⟩ := h y hy
    subst e; subst e'; rfl
  kind := by
    have : allKd 2 xs = true := List.all_eq_true.mpr fun x hx => by obtain ⟨s, e, _⟩ := h x hx; subst e; rfl
    unfold kindOk
    rw [this]; simp
  lay := fun x hx => by obtain ⟨s, e, o⟩ := h x hx; subst e; exact o
  dep := fun x hx => by obtain ⟨s, e, o⟩ := h x hx; subst e; show (0 : Nat) ≤ 2; omega
theorem cmp_strs : ∀ {l m : List D}, (∀ x ∈ l, IsS x) → (∀ x ∈ m, IsS x) → cmpL l m = true
  | [], _, _, _ => rfl
  | _ :: _, [], _, _ => rfl
  | x :: l, y :: m, h1, h2 => by
    obtain ⟨s, e, _⟩ := h1 x List.mem_cons_self
    obtain ⟨t, e', _⟩ := h2 y List.mem_cons_self
    subst e; subst e'
    show ((_ || (some _).isSome) && cmpL l m) = true
    rw [cmp_strs (fun z hz => h1 z (List.mem_cons_of_mem _ hz)) fun z hz => h2 z (List.mem_cons_of_mem _ hz)]
    simp
theorem cl_rows {xs : List D} (h : ∀ x ∈ xs, IsR x) : Cl xs where
  hash := fun x hx => by
    obtain ⟨l, e, _, hl⟩ := h x hx
    subst e
    exact List.all_eq_true.mpr fun y hy => by obtain ⟨s, e, _⟩ := hl y hy; subst e; rfl
  cmp := List.all_eq_true.mpr fun x hx => List.all_eq_true.mpr fun y hy => by
    obtain ⟨l, e, _, hl⟩ := h x hx
    obtain ⟨m, e', _, hm⟩ := h y hy
    subst e; subst e'
    show (if cmpL l m = true then some (lexL l m) else none).isSome = true
    rw [if_pos (cmp_strs hl hm)]; rfl
  kind := by
    have : ∃ ks, headsD xs = some ks ∧ allKd 2 ks = true := by
      induction xs with
      | nil => exact ⟨[], rfl, rfl⟩
      | cons x r ih =>
        obtain ⟨ks, e1, e2⟩ := ih fun z hz => h z (List.mem_cons_of_mem _ hz)
        obtain ⟨l, e, n, hl⟩ := h x List.mem_cons_self
        subst e
        cases l with
        | nil => exact absurd rfl n
        | cons y l =>
          obtain ⟨s, e, _⟩ := hl y List.mem_cons_self
          subst e
          refine ⟨.str s :: ks, ?_, ?_⟩
          · unfold headsD; rw [e1]; rfl
          · show (Nat.beq 2 2 && allKd 2 ks) = true
            rw [e2]; rfl
    obtain ⟨ks, e1, e2⟩ := this
    unfold kindOk
    rw [e1]
    dsimp only
    rw [e2]; simp
  lay := fun x hx => by
    obtain ⟨l, e, _, hl⟩ := h x hx
    subst e
    exact lay_all.mpr fun y hy => by obtain ⟨s, e, o⟩ := hl y hy; subst e; exact o
  dep := fun x hx => by
    obtain ⟨l, e, _, hl⟩ := h x hx
    subst e
    have : PyData.depthAll l ≤ 0 := depth_all.mpr fun y hy => by obtain ⟨s, e, o⟩ := hl y hy; subst e; exact Nat.le_refl 0
    show PyData.depthAll l + 1 ≤ 2
    omega
theorem Cl.sortD {xs : List D} (h : Cl xs) : sortD xs = some (sortG ltB xs) := by
  unfold Dl.sortD
  rw [h.cmp, h.kind]; rfl
theorem Cl.enc {xs : List D} (h : Cl xs) {x y : D} (hx : x ∈ xs) (hy : y ∈ xs) : ltB x y = lexI (encD x) (encD y) := ltB_enc h.cmp x hx y hy
/-- in rising order -/
def Upw (xs : List D) : Prop := xs.Pairwise fun x y => ltB x y = true
theorem Cl.tot {xs : List D} (h : Cl xs) {x y : D} (hx : x ∈ xs) (hy : y ∈ xs) (n : x ≠ y) (f : ltB y x = false) : ltB x y = true := by
  cases hb : ltB x y with
  | true => rfl
  | false =>
    exfalso
    obtain ⟨i, hi⟩ := mem_at hx
    obtain ⟨j, hj⟩ := mem_at hy
    obtain ⟨p, hp⟩ := cmp_all h.cmp hi hj
    obtain ⟨q, hq⟩ := cmp_all h.cmp hj hi
    refine n (ltD_both x y 8 (h.hash x hx) (h.hash y hy) ?_ ?_)
    · have : (ltD x y).getD false = false := hb
      rw [hp] at this ⊢
      exact congrArg some this
    · have : (ltD y x).getD false = false := f
      rw [hq] at this ⊢
      exact congrArg some this
theorem Cl.irr {xs : List D} (h : Cl xs) {x : D} (hx : x ∈ xs) : ltB x x = false := by rw [h.enc hx hx]; exact lexI_irr _
theorem Cl.asym {xs : List D} (h : Cl xs) {x y : D} (hx : x ∈ xs) (hy : y ∈ xs) (l : ltB x y = true) : ltB y x = false := by
  rw [h.enc hx hy] at l
  rw [h.enc hy hx]
  exact lexI_asym _ _ l
theorem Cl.trans {xs : List D} (h : Cl xs) {x y z : D} (hx : x ∈ xs) (hy : y ∈ xs) (hz : z ∈ xs) (a : ltB x y = true) (b : ltB y z = true) : ltB x z = true := by
  have e1 := h.asym hx hy a
  have e2 := h.asym hy hz b
  cases hb : ltB x z with
  | true => rfl
  | false =>
    -- z ≤ x and x < y < z
    rw [h.enc hx hz] at hb
    rw [h.enc hz hy] at e2
    have : lexI (encD x) (encD y) = false := lexI_tr _ _ _ e2 hb
    rw [← h.enc hx hy, a] at this
    cases this
theorem sort_sorted (xs : List D) (h : Cl xs) : Srtd (fun x y => lexI (encD x) (encD y)) (sortG ltB xs) ∧ (sortG ltB xs).Perm xs := by
  rw [sort_congr (ltB_enc h.cmp)]
  obtain ⟨a, b⟩ := sort_ok (swo_enc (β := D) encD) xs
  exact ⟨a, b.perm⟩
theorem Cl.sort_perm {xs : List D} (h : Cl xs) : (sortG ltB xs).Perm xs := (sort_sorted xs h).2
theorem Cl.sort_ris {xs : List D} (h : Cl xs) (n : xs.Nodup) : Upw (sortG ltB xs) := by
  obtain ⟨a, b⟩ := sort_sorted xs h
  have n' : (sortG ltB xs).Nodup := b.nodup_iff.mpr n
  have m : ∀ x ∈ sortG ltB xs, x ∈ xs := fun x hx => b.mem_iff.mp hx
  have key : (sortG ltB xs).Pairwise fun x y => x ≠ y ∧ lexI (encD y) (encD x) = false := List.Pairwise.and n' a
  refine key.imp_of_mem fun {x y} hx hy q => h.tot (m x hx) (m y hy) q.1 ?_
  rw [h.enc (m y hy) (m x hx)]
  exact q.2
theorem Upw.nodup {xs : List D} (h : Cl xs) (r : Upw xs) : xs.Nodup := by
  refine List.Pairwise.imp_of_mem (fun {x y} hx hy q e => ?_) r
  subst e
  rw [h.irr hx] at q
  cases q
theorem Upw.sort {xs : List D} (h : Cl xs) (r : Upw xs) : sortG ltB xs = xs := by
  rw [sort_congr (ltB_enc h.cmp)]
  refine (sort_uniq (swo_enc (β := D) encD) ?_ (Stb.refl _)).symm
  refine List.Pairwise.imp_of_mem (fun {x y} hx hy q => ?_) r
  show lexI (encD y) (encD x) = false
  rw [← h.enc hy hx]
  exact h.asym hx hy q
theorem dedup_id {xs : List D} (h : Cl xs) (n : xs.Nodup) : dedupD xs = xs := by
  induction xs with
  | nil => rfl
  | cons x r ih =>
    have h' : Cl r := h.sub fun y hy => List.mem_cons_of_mem _ hy
    obtain ⟨a, b⟩ := List.nodup_cons.mp n
    unfold dedupD
    rw [if_neg, ih h' b]
    exact fun z => a ((memD_iff (h.hash x List.mem_cons_self) h'.hash).mp z)
theorem dedup_sub {xs : List D} (h : Cl xs) : ∀ x ∈ dedupD xs, x ∈ xs := fun x hx => (dedup_mem h.hash x).mp hx
theorem dedup_le : ∀ xs : List D, (dedupD xs).length ≤ xs.length
  | [] => Nat.le_refl _
  | x :: r => by
    have := dedup_le r
    unfold dedupD
    split
    · exact Nat.le_succ_of_le this
    · exact Nat.succ_le_succ this
theorem Cl.sset {xs : List D} (h : Cl xs) (hl : xs.length ≤ 63) : ssetD xs = some (sortG ltB (dedupD xs)) := by
  have hd := dedup_le xs
  unfold ssetD
  rw [if_pos, (h.sub (dedup_sub h)).sortD]
  rw [Bool.and_eq_true]
  refine ⟨List.all_eq_true.mpr h.hash, ?_⟩
  split
  · exact Nat.ble_eq.mpr (by omega)
  · exact Nat.ble_eq.mpr (by omega)
theorem Cl.sset_nd {xs : List D} (h : Cl xs) (hl : xs.length ≤ 63) (n : xs.Nodup) : ssetD xs = some (sortG ltB xs) := by rw [h.sset hl, dedup_id h n]
/-- a row is its own sorted set if and only if it rises -/
theorem ris_iff {xs : List D} (h : Cl xs) : sortG ltB (dedupD xs) = xs ↔ Upw xs := by
  have h' := h.sub (dedup_sub h)
  constructor
  · intro e
    have := h'.sort_ris (dedup_nodup h.hash)
    rwa [e] at this
  · intro r
    rw [dedup_id h (r.nodup h), r.sort h]
end Dl
end
section
set_option linter.all false
/-! DlGd: guards: a goal by its type. -/
namespace Dl
open PySem L2
theorem gOpt {α : Type} {a b : Option α} (h : a = b) : a = b := h
theorem gEx {a b : R (Vl × Env)} (h : a = b) : a = b := h
theorem gOp {a b : R (Op × Env)} (h : a = b) : a = b := h
theorem gLd {a b : R (List D × Env)} (h : a = b) : a = b := h
theorem gBo {a b : Bool} (h : a = b) : a = b := h
theorem gOut {a b : Out} (h : a = b) : a = b := h
theorem gD {a b : D} (h : a = b) : a = b := h
theorem gLo {a b : R (List Op × Env)} (h : a = b) : a = b := h
theorem gTe {a b : R (Bool × Env)} (h : a = b) : a = b := h
theorem gRC {a b : RC} (h : a = b) : a = b := h
theorem gEnv {a b : Env} (h : a = b) : a = b := h
theorem gQ {a b : R (Option Int × Env)} (h : a = b) : a = b := h
theorem gLv {a b : R (List Vl × Env)} (h : a = b) : a = b := h
theorem gNs {a b : List Nat} (h : a = b) : a = b := h
end Dl
end
section
set_option linter.all false
set_option maxRecDepth 100000
set_option maxHeartbeats 4000000
namespace DlK00
open PySem Dl L2
local macro_rules | `(tactic| walk_at "dl") => `(tactic| repeat (first
  | ((with_reducible apply gOpt); first | first | assumption | exact rfl)
  | ((with_reducible apply gEx); first | with_reducible exact p_lit | ((with_reducible apply p_varf); exact rfl) | with_reducible apply p_bin | with_reducible apply p_lst | with_reducible apply p_tup | with_reducible apply p_call | with_reducible apply p_cmp | with_reducible apply p_mkx | with_reducible apply p_attr | with_reducible apply p_isx | with_reducible apply p_idx | with_reducible apply p_bi | ((with_reducible apply l_comp); assumption) | ((with_reducible apply p_varo); exact rfl) | with_reducible apply p_callio | with_reducible apply p_slice | with_reducible apply p_isin | with_reducible apply p_not | with_reducible apply p_and | with_reducible apply p_or | with_reducible apply p_ite | with_reducible apply p_chain | with_reducible apply p_call0 | with_reducible apply p_neg | with_reducible apply p_app | with_reducible apply p_pop1 | with_reducible apply p_rev | with_reducible apply p_rep | with_reducible exact p_con | with_reducible exact p_mk0 | ((with_reducible apply if_tt); first | assumption | exact rfl) | ((with_reducible apply if_ff); first | assumption | exact rfl) | ((with_reducible apply l_rok); exact rfl))
  | ((with_reducible apply gOp); first | with_reducible apply o_pk | with_reducible apply o_e)
  | ((with_reducible apply gLd); first | with_reducible exact es_nil | with_reducible apply es_consd | with_reducible apply i_of | with_reducible apply i_zip | with_reducible apply i_enum | with_reducible apply es_star | ((with_reducible apply l_esn); exact es_nil))
  | ((with_reducible apply gBo); first | ((with_reducible apply l_fits); first | assumption | exact rfl) | ((with_reducible apply l_owi); first | assumption | exact rfl) | ((with_reducible apply l_pk); first | assumption | exact rfl))
  | ((with_reducible apply gOut); first | with_reducible apply ss_cons | with_reducible apply th_next | with_reducible apply s_setf | with_reducible apply s_if | with_reducible apply s_retf | with_reducible exact ss_nil | with_reducible exact th_ret | ((with_reducible apply if_tt); first | assumption | exact rfl) | ((with_reducible apply if_ff); first | assumption | exact rfl) | with_reducible apply s_ret | with_reducible apply s_set | with_reducible apply s_ex | with_reducible apply s_sub | with_reducible apply s_par | with_reducible apply s_raise | with_reducible exact th_exc | ((with_reducible apply l_the); exact th_exc) | ((with_reducible apply l_ssn); exact ss_nil) | ((with_reducible apply l_thr); exact th_ret))
  | ((with_reducible apply gD); first | first | assumption | exact rfl)
  | ((with_reducible apply gLo); first | with_reducible exact os_nil | with_reducible apply os_cons)
  | ((with_reducible apply gTe); first | with_reducible apply t_ | ((with_reducible apply if_tt); first | assumption | exact rfl) | ((with_reducible apply if_ff); first | assumption | exact rfl))
  | ((with_reducible apply gRC); first | assumption)
  | ((with_reducible apply gEnv); first | ((with_reducible apply l_set); simp only [setSl, List.set_cons_zero, List.set_cons_succ]; done) | ((with_reducible apply l_set); simp only [setSl, List.set_cons_zero, List.set_cons_succ]; exact rfl) | exact rfl)
  | ((with_reducible apply gQ); first | with_reducible exact q_abs | with_reducible apply q_lit | with_reducible apply q_var)
  | ((with_reducible apply gLv); first | with_reducible exact vs_nil | with_reducible apply vs_cons)
  | ((with_reducible apply gNs); first | first | assumption | exact rfl)))

structure Box (m : Int) (xs : List D) : Prop where
  ex : ∃ a b s : Int, xs = [.int a, .int b, .int s] ∧ 0 ≤ a ∧ 0 ≤ s ∧ s ≤ m
theorem Box.mono {m n : Int} {xs : List D} (h : Box m xs) (l : m ≤ n) : Box n xs := h.ex.elim fun a ⟨b, s, e, h1, h2, h3⟩ => ⟨a, b, s, e, h1, h2, by omega⟩
theorem mod_ok {i j : Int} (h : 0 < j) : binD .mod (.int i) (.int j) = some (.fr (.int (i % j))) := by
  show (if decide (0 < j) = true then _ else _) = _
  rw [if_pos (by simpa using h)]
theorem div_ok {i j : Int} (h : 0 < j) (l : j < 1073741824) : binD .fdiv (.int i) (.int j) = some (.fr (.int (i / j))) := by
  show (if (decide (0 < j) && decide (j < 1073741824)) = true then _ else _) = _
  rw [if_pos (by simp [h, l])]
theorem mul_ok {i j : Int} (h : small i = true ∨ small j = true) : binD .mul (.int i) (.int j) = some (.fr (.int (i * j))) := by
  show (if (small i || small j) = true then _ else _) = _
  rw [if_pos (by simpa using h)]
theorem small_of {i : Int} (h1 : -(2 ^ 64) < i) (h2 : i < 2 ^ 64) : small i = true := by
  unfold small
  simp only [Bool.and_eq_true, decide_eq_true_eq]
  exact ⟨h1, h2⟩
theorem take_ok {c : Calls} {k : Nat} {m x : Int} {xs : List D} (h : CC Φ (k+1) c) (hb : Box m xs) (hm : m ≤ 1000000) (hx : 0 < x) (hx2 : x < 1073741824) : ∃ r ys, c 2 [.int x] (some xs) = .ok (.fr (.int r)) (some ys) ∧ Box (m + 1) ys ∧ 0 ≤ r ∧ r < x := by
  obtain ⟨a, b, s, e, h1, h2, h3⟩ := hb.ex
  subst e
  obtain ⟨c', h', go⟩ := h.go (show Φ 2 = some b__law_take from rfl)
  by_cases ha : 0 < a
  · have e1 : cmpD .gt (.int a) (.int 0) = some true := by show some (decide (0 < a)) = _; rw [decide_eq_true ha]
    have e2 := mod_ok (i := a) hx
    have e3 := div_ok (i := a) hx hx2
    refine ⟨a % x, [.int (a / x), .int b, .int s], ?_, ⟨_, _, _, rfl, Int.ediv_nonneg h1 (by omega), h2, by omega⟩, Int.emod_nonneg _ (by omega), Int.emod_lt_of_pos _ hx⟩
    apply go _ _ _ _ rfl rfl
    · simp only [b__law_take, entry, List.replicate, List.map_cons, List.map_nil, List.nil_append, List.cons_append]
      walk_at "dl"
    · rfl
  · have e1 : cmpD .gt (.int a) (.int 0) = some false := by show some (decide (0 < a)) = _; rw [decide_eq_false ha]
    have e2 : binD .mul (.int 48271) (.int (s + 1)) = some (.fr (.int (48271 * (s + 1)))) := mul_ok (.inl rfl)
    have e3 : binD .mul (.int (b + 48271 * (s + 1))) (.int (39373 + (s + 1))) = some (.fr (.int ((b + 48271 * (s + 1)) * (39373 + (s + 1))))) := mul_ok (.inr (small_of (by omega) (by omega)))
    generalize hq : (b + 48271 * (s + 1)) * (39373 + (s + 1)) = q at e3
    have e4 := mod_ok (i := q) (j := 2147483647) (by decide)
    generalize hq1 : q % 2147483647 = q1 at e4
    have e5 := mod_ok (i := q1) (j := 40009) (by decide)
    have p1 := Int.emod_nonneg q1 (b := 40009) (by decide)
    have p2 := Int.emod_lt_of_pos q1 (b := 40009) (by decide)
    generalize hq2 : q1 % 40009 = q2 at e5 p1 p2
    have e6 := div_ok (i := b) (j := 1000003) (by decide) (by decide)
    generalize hq3 : b / 1000003 = q3 at e6
    have e7 : binD .mul (.int (q1 + (s + 1) + q3)) (.int (q2 + 7)) = some (.fr (.int ((q1 + (s + 1) + q3) * (q2 + 7)))) := mul_ok (.inr (small_of (by omega) (by omega)))
    generalize hq4 : (q1 + (s + 1) + q3) * (q2 + 7) = q4 at e7
    have e8 := mod_ok (i := q4) (j := 2147483629) (by decide)
    generalize hq5 : q4 % 2147483629 = q5 at e8
    have e9 : binD .mul (.int q5) (.int 48271) = some (.fr (.int (q5 * 48271))) := mul_ok (.inr rfl)
    generalize hq6 : q5 * 48271 = q6 at e9
    have e10 := mod_ok (i := q6 + q1) (j := 2147483587) (by decide)
    generalize hq7 : (q6 + q1) % 2147483587 = q7 at e10
    have e11 := div_ok (i := q7) (j := 64) (by decide) (by decide)
    generalize hq8 : q7 / 64 = q8 at e11
    have e12 := mod_ok (i := q8) hx
    refine ⟨q8 % x, [.int a, .int b, .int (s + 1)], ?_, ⟨_, _, _, rfl, h1, by omega, by omega⟩, Int.emod_nonneg _ (by omega), Int.emod_lt_of_pos _ hx⟩
    apply go _ _ _ _ rfl rfl
    · simp only [b__law_take, entry, List.replicate, List.map_cons, List.map_nil, List.nil_append, List.cons_append]
      walk_at "dl"
    · rfl
theorem at_ok {ps : List D} {r : Int} (h0 : 0 ≤ r) (h1 : r < ps.length) : ∃ d, ixN ps.length r = some r.toNat ∧ ps[r.toNat]? = some d ∧ d ∈ ps := by
  have hl : r.toNat < ps.length := by omega
  refine ⟨ps[r.toNat], ?_, List.getElem?_eq_getElem hl, List.getElem_mem hl⟩
  unfold ixN
  rw [if_pos h0, if_pos h1]
theorem idx_ok {ps : List D} {r : Int} {d : D} (h : ixN ps.length r = some r.toNat) (h2 : ps[r.toNat]? = some d) : idxD (.list ps) (.int r) = some d := by
  show (ixN ps.length r).bind _ = _
  rw [h]; exact h2
theorem of_ok {c : Calls} {k : Nat} {m : Int} {xs ps : List D} (h : CC Φ (k+2) c) (hb : Box m xs) (hm : m ≤ 1000000) (hn : 0 < ps.length) (hl : ps.length ≤ 1000) : ∃ d ys, c 5 [.list ps] (some xs) = .ok (.fr d) (some ys) ∧ Box (m + 1) ys ∧ d ∈ ps := by
  obtain ⟨c', h', go⟩ := h.go (show Φ 5 = some b__law_of from rfl)
  obtain ⟨r, ys, e1, b1, r0, r1⟩ := take_ok (x := (ps.length : Int)) h' hb hm (by omega) (by omega)
  obtain ⟨d, e2, e3, hd⟩ := at_ok r0 r1
  have e4 := idx_ok e2 e3
  refine ⟨d, ys, ?_, b1, hd⟩
  apply go _ _ _ _ rfl rfl
  · simp only [b__law_of, entry, List.replicate, List.map_cons, List.map_nil, List.nil_append, List.cons_append]
    walk_at "dl"
  · rfl
theorem addL_ok {xs ys : List D} (h : xs.length + ys.length ≤ 100000) : binD .add (.list xs) (.list ys) = some (.ow (xs ++ ys)) := by
  show (if fits (xs.length + ys.length) = true then _ else _) = _
  rw [if_pos (show fits _ = true from Nat.ble_eq.mpr (by omega))]
theorem bools_map (xs : List D) (p : D → Bool) : boolsD (xs.map fun x => .bool (p x)) = some (xs.map p) := by
  induction xs with
  | nil => rfl
  | cons x r ih =>
    show (boolsD (r.map fun x => PyData.bool (p x))).map (p x :: ·) = _
    rw [ih]; rfl
theorem all_ok (xs : List D) (p : D → Bool) : biD .all [.list (xs.map fun x => .bool (p x))] = some (.fr (.bool (xs.all p))) := by
  show (boolsD _).map _ = _
  rw [bools_map]
  show some (Vl.fr (.bool ((xs.map p).all id))) = _
  rw [List.all_map]; rfl
theorem rng_ok {c : Calls} {ρ ρ1 : Dl.Env} {a : E} {j : Int} (h0 : 0 ≤ j) (h1 : j ≤ 1000) (h : evE c a ρ = .ok (.fr (.int j), ρ1)) : evI c (.rng a) ρ = .ok (rangeL 0 j.toNat, ρ1) := by
  refine i_rng h ?_
  simp [inRng, fits]
  omega
theorem eqRefl {d : D} (h : shp d = true) (ha : match d with | .none => True | .bool _ => True | .int _ => True | .str _ => True | _ => False) : cmpD .eq d d = some true := by
  show (if (shp d && shp d) = true then some (PyData.eqv d d) else none) = some true
  rw [h]
  cases d <;> first | exact ha.elim | skip
  all_goals simp [PyData.eqv]
theorem zip_self {α : Type} (xs : List α) : xs.zip xs = xs.map fun x => (x, x) := by
  induction xs with
  | nil => rfl
  | cons x r ih => rw [List.zip_cons_cons, ih]; rfl
theorem shp_mk {xs : List D} (h : shp (.list xs) = true ∨ shp (.tuple xs) = true) : ∀ x ∈ xs, shp x = true := by
  have key : PyData.canLayAll0 xs = true ∧ PyData.depthAll xs + 1 ≤ 64 := by
    rcases h with h | h
    · exact ⟨(Bool.and_eq_true_iff.mp h).1, of_decide_eq_true (Bool.and_eq_true_iff.mp h).2⟩
    · exact ⟨(Bool.and_eq_true_iff.mp h).1, of_decide_eq_true (Bool.and_eq_true_iff.mp h).2⟩
  intro x hx
  refine Bool.and_eq_true_iff.mpr ⟨lay_all.mp key.1 x hx, decide_eq_true ?_⟩
  have := depth_all.mp (Nat.le_refl (PyData.depthAll xs)) x hx
  omega
def prs (xs : List D) : List D := (xs.zip xs).map fun p => .tuple [p.1, p.2]
def yesB (_ : D) : Bool := true
theorem all_true (xs : List D) : xs.all yesB = true := by
  induction xs with
  | nil => rfl
  | cons x r ih => rw [List.all_cons, ih]; rfl
theorem same_ok : ∀ (n : Nat) (d : D), d.depth ≤ n → shp d = true → ∀ (c : Calls) (k : Nat), CC Φ (n + 1 + k) c → c 4 [d, d] none = .ok (.fr (.bool true)) none := by
  intro n
  induction n with
  | zero =>
    intro d hd hs c k h
    obtain ⟨c', h', go⟩ := (h.mono (j := 0 + 1) (by omega)).go (show Φ 4 = some b__law_same from rfl)
    cases d with
    | list xs => exact absurd hd (by show ¬ PyData.depthAll xs + 1 ≤ 0; omega)
    | tuple xs => exact absurd hd (by show ¬ PyData.depthAll xs + 1 ≤ 0; omega)
    | dict xs => cases hs
    | none =>
      have e := eqRefl hs trivial
      apply go _ _ _ _ rfl rfl
      · simp only [b__law_same, entry, List.replicate, List.map_cons, List.map_nil, List.nil_append, List.cons_append]
        walk_at "dl"
      · rfl
    | bool b =>
      have e := eqRefl hs trivial
      apply go _ _ _ _ rfl rfl
      · simp only [b__law_same, entry, List.replicate, List.map_cons, List.map_nil, List.nil_append, List.cons_append]
        walk_at "dl"
      · rfl
    | int b =>
      have e := eqRefl hs trivial
      apply go _ _ _ _ rfl rfl
      · simp only [b__law_same, entry, List.replicate, List.map_cons, List.map_nil, List.nil_append, List.cons_append]
        walk_at "dl"
      · rfl
    | str b =>
      have e := eqRefl hs trivial
      apply go _ _ _ _ rfl rfl
      · simp only [b__law_same, entry, List.replicate, List.map_cons, List.map_nil, List.nil_append, List.cons_append]
        walk_at "dl"
      · rfl
  | succ n ih =>
    intro d hd hs c k h
    obtain ⟨c', h', go⟩ := (h.mono (j := (n + 1 + k) + 1) (by omega)).go (show Φ 4 = some b__law_same from rfl)
    cases d with
    | list xs =>
      have hd : PyData.depthAll xs + 1 ≤ n + 1 := hd
      have hx := shp_mk (.inl hs)
      have hz : zipD (.list xs) (.list xs) = some (prs xs) := rfl
      have hcomp : evE c' (.comp (.cons (.tp (.cons (.nm 2) (.cons (.nm 3) .nil))) (.zip (.pk 0) (.pk 1)) .nil (.elt (.call 4 (.cons false (.var 2) (.cons false (.var 3) .nil)))))) [.fr (.list xs), .fr (.list xs), .un, .un] = .ok (.ow ((prs xs).map fun t => .bool (yesB t)), [.fr (.list xs), .fr (.list xs), .un, .un]) := by
        refine p_comp (xs := prs xs) (w := [.fr (.list xs), .fr (.list xs), .un, .un]) (fun t => .bool (yesB t)) rfl ?_ rfl ?_
        · walk_at "dl"
        · intro t ht
          unfold prs at ht
          rw [zip_self] at ht
          obtain ⟨q, hq, e⟩ := List.mem_map.mp ht
          obtain ⟨x, hx1, e2⟩ := List.mem_map.mp hq
          subst e2; subst e
          have e := ih x (by have := depth_all.mp (show PyData.depthAll xs ≤ n by omega) x hx1; exact this) (hx x hx1) c' k h'
          refine ⟨[.fr (.list xs), .fr (.list xs), .fr x, .fr x], .fr (.bool true), [.fr (.list xs), .fr (.list xs), .fr x, .fr x], rfl, ?_, rfl, rfl⟩
          walk_at "dl"
      have ea := all_ok (prs xs) yesB
      rw [all_true] at ea
      have el : cmpD .eq (.int xs.length) (.int xs.length) = some true := eqRefl (by rfl) trivial
      apply go _ _ _ _ rfl rfl
      · simp only [b__law_same, entry, List.replicate, List.map_cons, List.map_nil, List.nil_append, List.cons_append]
        walk_at "dl"
      · rfl
    | tuple xs =>
      have hd : PyData.depthAll xs + 1 ≤ n + 1 := hd
      have hx := shp_mk (.inr hs)
      have hz : zipD (.tuple xs) (.tuple xs) = some (prs xs) := rfl
      have hcomp : evE c' (.comp (.cons (.tp (.cons (.nm 2) (.cons (.nm 3) .nil))) (.zip (.pk 0) (.pk 1)) .nil (.elt (.call 4 (.cons false (.var 2) (.cons false (.var 3) .nil)))))) [.fr (.tuple xs), .fr (.tuple xs), .un, .un] = .ok (.ow ((prs xs).map fun t => .bool (yesB t)), [.fr (.tuple xs), .fr (.tuple xs), .un, .un]) := by
        refine p_comp (xs := prs xs) (w := [.fr (.tuple xs), .fr (.tuple xs), .un, .un]) (fun t => .bool (yesB t)) rfl ?_ rfl ?_
        · walk_at "dl"
        · intro t ht
          unfold prs at ht
          rw [zip_self] at ht
          obtain ⟨q, hq, e⟩ := List.mem_map.mp ht
          obtain ⟨x, hx1, e2⟩ := List.mem_map.mp hq
          subst e2; subst e
          have e := ih x (by have := depth_all.mp (show PyData.depthAll xs ≤ n by omega) x hx1; exact this) (hx x hx1) c' k h'
          refine ⟨[.fr (.tuple xs), .fr (.tuple xs), .fr x, .fr x], .fr (.bool true), [.fr (.tuple xs), .fr (.tuple xs), .fr x, .fr x], rfl, ?_, rfl, rfl⟩
          walk_at "dl"
      have ea := all_ok (prs xs) yesB
      rw [all_true] at ea
      have el : cmpD .eq (.int xs.length) (.int xs.length) = some true := eqRefl (by rfl) trivial
      apply go _ _ _ _ rfl rfl
      · simp only [b__law_same, entry, List.replicate, List.map_cons, List.map_nil, List.nil_append, List.cons_append]
        walk_at "dl"
      · rfl
    | dict xs => cases hs
    | none => exact ih .none (Nat.zero_le _) hs c (k + 1) (h.mono (by omega))
    | bool b => exact ih (.bool b) (Nat.zero_le _) hs c (k + 1) (h.mono (by omega))
    | int b => exact ih (.int b) (Nat.zero_le _) hs c (k + 1) (h.mono (by omega))
    | str b => exact ih (.str b) (Nat.zero_le _) hs c (k + 1) (h.mono (by omega))
def Ly (n : Nat) (d : D) : Prop := d.canLay0 = true ∧ d.depth ≤ n
theorem Ly.mono {n m : Nat} {d : D} (h : Ly n d) (l : n ≤ m) : Ly m d := ⟨h.1, Nat.le_trans h.2 l⟩
theorem Ly.list {n : Nat} {xs : List D} (h : ∀ x ∈ xs, Ly n x) : Ly (n + 1) (.list xs) := ⟨lay_all.mpr fun x hx => (h x hx).1, by
  have := depth_all.mpr fun x hx => (h x hx).2
  show PyData.depthAll xs + 1 ≤ n + 1
  omega⟩
theorem Ly.tuple {n : Nat} {xs : List D} (h : ∀ x ∈ xs, Ly n x) : Ly (n + 1) (.tuple xs) := ⟨lay_all.mpr fun x hx => (h x hx).1, by
  have := depth_all.mpr fun x hx => (h x hx).2
  show PyData.depthAll xs + 1 ≤ n + 1
  omega⟩
theorem Ly.shp {n : Nat} {d : D} (h : Ly n d) (l : n ≤ 64) : shp d = true := Bool.and_eq_true_iff.mpr ⟨h.1, decide_eq_true (Nat.le_trans h.2 l)⟩
theorem Ly.none {n : Nat} : Ly n .none := ⟨rfl, Nat.zero_le _⟩
theorem Ly.bool {n : Nat} (b : Bool) : Ly n (.bool b) := ⟨rfl, Nat.zero_le _⟩
theorem Ly.int {n : Nat} (b : Int) : Ly n (.int b) := ⟨rfl, Nat.zero_le _⟩
theorem box0 {c : Calls} {k : Nat} (h : CC Φ (k+1) c) {cells : List D} {i v : Int} (hi : idxD (.list cells) (.int i) = some (.int v)) (hl : i < cells.length) : ∃ ys, c 1 [.list cells, .int i] none = .ok (.ow ys) none ∧ Box 0 ys := by
  obtain ⟨c', h', go⟩ := h.go (show Φ 1 = some b__law_box from rfl)
  have e1 : cmpD .lt (.int i) (.int cells.length) = some true := by
    show some (decide (i < (cells.length : Int))) = _
    rw [decide_eq_true hl]
  have ha : ∃ a : Int, biD .abs [.int v] = some (.fr (.int a)) ∧ 0 ≤ a := ⟨_, rfl, by split <;> omega⟩
  obtain ⟨a, ha, a0⟩ := ha
  have hp : binD .pow (.int 10) (.int 18) = some (.fr (.int 1000000000000000000)) := by rfl
  have hg : ∃ g : Bool, cmpD .ge (.int a) (.int 1000000000000000000) = some g := ⟨_, rfl⟩
  obtain ⟨g, hg⟩ := hg
  have hw : ∃ w : Int, biD .int [.bool g] = some (.fr (.int w)) ∧ 0 ≤ w ∧ w ≤ 1 := ⟨_, rfl, by cases g <;> simp, by cases g <;> simp⟩
  obtain ⟨w, hw, w0, w1⟩ := hw
  have hm : binD .mul (.int a) (.int w) = some (.fr (.int (a * w))) := mul_ok (.inr (small_of (by omega) (by omega)))
  have hz : 0 ≤ a * w := Int.mul_nonneg a0 w0
  have hmo := mod_ok (i := v) (j := 2305843009213693951) (by decide)
  have hn : binD .mul (.int 39373) (.int i) = some (.fr (.int (39373 * i))) := mul_ok (.inl rfl)
  generalize hq : a * w = q at hm hz
  generalize v % 2305843009213693951 = vm at hmo
  generalize 39373 * i = ni at hn
  refine ⟨[.int q, .int (vm + ni + 1930000), .int 0], ?_, ⟨q, _, 0, rfl, hz, by omega, by omega⟩⟩
  apply go _ _ _ _ rfl rfl
  · simp only [b__law_box, entry, List.replicate, List.map_cons, List.map_nil, List.nil_append, List.cons_append]
    walk_at "dl"
  · rfl
def Ints (xs : List D) : Prop := ∀ x ∈ xs, ∃ v : Int, x = .int v
theorem run_go {Φ : Defs} {n f : Nat} {d : FDef} {as : List D} {io : Option (List D)} {o : Out} {r : RC} (e : Φ f = some d) (h1 : io.isSome = d.io) (h2 : (if d.io then 1 else 0) + as.length = d.np) (h3 : evSs (runD Φ n) loops d.body (entry d as io) = o) (h4 : endsF d o = r) : runD Φ (n + 1) f as io = r := by
  show (match Φ f with | some d => _ | none => _) = _
  rw [e]
  show (if (io.isSome == d.io) && Nat.beq ((if d.io then 1 else 0) + as.length) d.np then _ else _) = _
  rw [h1, h2, if_pos (by simp), h3, h4]
end DlK00
end
section
set_option linter.all false
set_option maxRecDepth 100000
set_option maxHeartbeats 4000000
namespace DlK00
open PySem Dl L2
def s_ (x : String) : Str := Str.ofString x
def eBL (d : D) : D := excD (Str.ofString "BadLine") (Str.ofString "number") d
def eBa (d : D) : D := excD (Str.ofString "Barred") (Str.ofString "number") d
def eTw (d : D) : D := excD (Str.ofString "Twice") (Str.ofString "name") d
def eUn : D := excD0 (Str.ofString "Unfit")
def eNH (d : D) : D := excD (Str.ofString "NoHold") (Str.ofString "hold") d
def eNM (d : D) : D := excD (Str.ofString "NoMember") (Str.ofString "name") d
def eNN (d : D) : D := excD (Str.ofString "NoNumber") (Str.ofString "number") d
def eND : D := excD0 (Str.ofString "NothingDone")
theorem place0 (d : D) (m : Nat) : runD Φ (m+4) 7 [eBL d, .int 0] none = .ok (.fr (.bool true)) none := by kernel_rfl
theorem place1 (d : D) (m : Nat) : runD Φ (m+4) 7 [eBa d, .int 1] none = .ok (.fr (.bool true)) none := by kernel_rfl
theorem place2 (d : D) (m : Nat) : runD Φ (m+4) 7 [eTw d, .int 2] none = .ok (.fr (.bool true)) none := by kernel_rfl
theorem place3 (m : Nat) : runD Φ (m+4) 7 [eUn, .int 3] none = .ok (.fr (.bool true)) none := by kernel_rfl
theorem place4 (d : D) (m : Nat) : runD Φ (m+4) 7 [eNH d, .int 4] none = .ok (.fr (.bool true)) none := by kernel_rfl
theorem place5 (d : D) (m : Nat) : runD Φ (m+4) 7 [eNM d, .int 5] none = .ok (.fr (.bool true)) none := by kernel_rfl
theorem place6 (d : D) (m : Nat) : runD Φ (m+4) 7 [eNN d, .int 6] none = .ok (.fr (.bool true)) none := by kernel_rfl
theorem place7 (m : Nat) : runD Φ (m+4) 7 [eND, .int 7] none = .ok (.fr (.bool true)) none := by kernel_rfl
end DlK00
end
section
set_option linter.all false
set_option maxRecDepth 100000
set_option maxHeartbeats 4000000
namespace DlK00
open PySem Dl L2
local macro_rules | `(tactic| walk_at "dl") => `(tactic| repeat (first
  | ((with_reducible apply gOpt); first | first | assumption | exact rfl)
  | ((with_reducible apply gEx); first | with_reducible exact p_lit | ((with_reducible apply p_varf); exact rfl) | with_reducible apply p_bin | with_reducible apply p_lst | with_reducible apply p_tup | with_reducible apply p_call | with_reducible apply p_cmp | with_reducible apply p_mkx | with_reducible apply p_attr | with_reducible apply p_isx | with_reducible apply p_idx | with_reducible apply p_bi | ((with_reducible apply l_comp); assumption) | ((with_reducible apply p_varo); exact rfl) | with_reducible apply p_callio | with_reducible apply p_slice | with_reducible apply p_isin | with_reducible apply p_not | with_reducible apply p_and | with_reducible apply p_or | with_reducible apply p_ite | with_reducible apply p_chain | with_reducible apply p_call0 | with_reducible apply p_neg | with_reducible apply p_app | with_reducible apply p_pop1 | with_reducible apply p_rev | with_reducible apply p_rep | with_reducible exact p_con | with_reducible exact p_mk0 | ((with_reducible apply if_tt); first | assumption | exact rfl) | ((with_reducible apply if_ff); first | assumption | exact rfl) | ((with_reducible apply l_rok); exact rfl))
  | ((with_reducible apply gOp); first | with_reducible apply o_pk | with_reducible apply o_e)
  | ((with_reducible apply gLd); first | with_reducible exact es_nil | with_reducible apply es_consd | with_reducible apply i_of | with_reducible apply i_zip | with_reducible apply i_enum | with_reducible apply es_star | ((with_reducible apply l_esn); exact es_nil))
  | ((with_reducible apply gBo); first | ((with_reducible apply l_fits); first | assumption | exact rfl) | ((with_reducible apply l_owi); first | assumption | exact rfl) | ((with_reducible apply l_pk); first | assumption | exact rfl))
  | ((with_reducible apply gOut); first | with_reducible apply ss_cons | with_reducible apply th_next | with_reducible apply s_setf | with_reducible apply s_if | with_reducible apply s_retf | with_reducible exact ss_nil | with_reducible exact th_ret | ((with_reducible apply if_tt); first | assumption | exact rfl) | ((with_reducible apply if_ff); first | assumption | exact rfl) | with_reducible apply s_ret | with_reducible apply s_set | with_reducible apply s_ex | with_reducible apply s_sub | with_reducible apply s_par | with_reducible apply s_raise | with_reducible exact th_exc | ((with_reducible apply l_the); exact th_exc) | ((with_reducible apply l_ssn); exact ss_nil) | ((with_reducible apply l_thr); exact th_ret))
  | ((with_reducible apply gD); first | first | assumption | exact rfl)
  | ((with_reducible apply gLo); first | with_reducible exact os_nil | with_reducible apply os_cons)
  | ((with_reducible apply gTe); first | with_reducible apply t_ | ((with_reducible apply if_tt); first | assumption | exact rfl) | ((with_reducible apply if_ff); first | assumption | exact rfl))
  | ((with_reducible apply gRC); first | assumption)
  | ((with_reducible apply gEnv); first | ((with_reducible apply l_set); simp only [setSl, List.set_cons_zero, List.set_cons_succ]; done) | ((with_reducible apply l_set); simp only [setSl, List.set_cons_zero, List.set_cons_succ]; exact rfl) | exact rfl)
  | ((with_reducible apply gQ); first | with_reducible exact q_abs | with_reducible apply q_lit | with_reducible apply q_var)
  | ((with_reducible apply gLv); first | with_reducible exact vs_nil | with_reducible apply vs_cons)
  | ((with_reducible apply gNs); first | first | assumption | exact rfl)))

theorem loop_cons {f : D → Dl.Env → Out} {x : D} {xs : List D} {ρ ρ1 : Dl.Env} {o : Out} (h : f x ρ = .next ρ1) (h2 : loopF f xs ρ1 = o) : loopF f (x :: xs) ρ = o := by
  show (match f x ρ with | .next ρ' => _ | .cont ρ' => _ | .brk ρ' => _ | o => _) = _
  rw [h]; exact h2
section
variable {c : Calls} {k : Nat}
def cellB : Ss := .cons (.setf (.nm 5) (.bin .mod (.bi .int (.cons false (.pk 3) .nil)) (.pk 1))) (.cons (.sub 2 (.var 5) (.bin .add (.idx (.pk 2) (.var 5)) (.bin .mul (.pk 4) (.bin .add (.pk 3) (.lit (.int 2)))))) .nil)
theorem cells_loop : ∀ (l : List D) (n : Nat) (s : List D) (a b e : Int) (s3 s4 s5 : Sl), Ints l → n + l.length ≤ 1000 → ∃ a' b' e' n3 n4 n5,
    loopF (fun x ρ => optOut (storeD (.tp (.cons (.nm 3) (.cons (.nm 4) .nil))) x ρ) fun ρ1 => evSs c loops cellB ρ1) (enumD n l) [.fr (.list s), .fr (.int 3), .ow [.int a, .int b, .int e], s3, s4, s5] = .next [.fr (.list s), .fr (.int 3), .ow [.int a', .int b', .int e'], n3, n4, n5]
  | [], n, s, a, b, e, s3, s4, s5, _, _ => ⟨a, b, e, s3, s4, s5, rfl⟩
  | x :: l, n, s, a, b, e, s3, s4, s5, hl, hn => by
    rw [List.length_cons] at hn
    obtain ⟨v, ev⟩ := hl x List.mem_cons_self
    subst ev
    have hmo := mod_ok (i := (n : Int)) (j := 3) (by decide)
    have hmu : binD .mul (.int v) (.int ((n : Int) + 2)) = some (.fr (.int (v * ((n : Int) + 2)))) := mul_ok (.inr (small_of (by omega) (by omega)))
    generalize v * ((n : Int) + 2) = z at hmu
    have step : ∃ a1 b1 e1, evSs c loops cellB [.fr (.list s), .fr (.int 3), .ow [.int a, .int b, .int e], .fr (.int n), .fr (.int v), s5] = .next [.fr (.list s), .fr (.int 3), .ow [.int a1, .int b1, .int e1], .fr (.int n), .fr (.int v), .fr (.int ((n : Int) % 3))] := by
      have h2 : (n : Int) % 3 = 0 ∨ (n : Int) % 3 = 1 ∨ (n : Int) % 3 = 2 := by omega
      unfold cellB
      rcases h2 with q | q | q
      · rw [q] at hmo ⊢
        refine ⟨a + z, b, e, ?_⟩
        walk_at "dl"
      · rw [q] at hmo ⊢
        refine ⟨a, b + z, e, ?_⟩
        walk_at "dl"
      · rw [q] at hmo ⊢
        refine ⟨a, b, e + z, ?_⟩
        walk_at "dl"
    obtain ⟨a1, b1, e1, st⟩ := step
    obtain ⟨a', b', e', n3, n4, n5, eq⟩ := cells_loop l (n + 1) s a1 b1 e1 (.fr (.int n)) (.fr (.int v)) (.fr (.int ((n : Int) % 3))) (fun z hz => hl z (List.mem_cons_of_mem _ hz)) (by omega)
    exact ⟨a', b', e', n3, n4, n5, loop_cons st eq⟩
theorem cells_ok (h : CC Φ (k+1) c) {ns : List D} (hn : Ints ns) (hl : ns.length ≤ 63) : ∃ cs, c 3 [.list ns, .int 3] none = .ok (.fr (.list cs)) none ∧ Ints cs ∧ cs.length ≤ 3 := by
  obtain ⟨c', h', go⟩ := h.go (show Φ 3 = some b__law_cells from rfl)
  match ns, hn, hl with
  | [], hn, hl =>
    refine ⟨[.int 0], ?_, fun x hx => by rw [List.mem_singleton.mp hx]; exact ⟨0, rfl⟩, by simp⟩
    apply go _ _ (.ret (.fr (.list [.int 0])) [.fr (.list []), .fr (.int 3), .fr (.list [.int 0]), .un, .un, .un]) _ rfl rfl
    · rfl
    · rfl
  | [x], hn, hl =>
    obtain ⟨v, e⟩ := hn x List.mem_cons_self
    subst e
    refine ⟨[.int v], ?_, fun x hx => by rw [List.mem_singleton.mp hx]; exact ⟨v, rfl⟩, by simp⟩
    apply go _ _ (.ret (.fr (.list [.int v])) [.fr (.list [.int v]), .fr (.int 3), .fr (.list [.int v]), .un, .un, .un]) _ rfl rfl
    · rfl
    · rfl
  | [x, y], hn, hl =>
    obtain ⟨v, e⟩ := hn x List.mem_cons_self
    obtain ⟨w, e'⟩ := hn y (List.mem_cons_of_mem _ List.mem_cons_self)
    subst e; subst e'
    refine ⟨[.int v, .int w], ?_, hn, by simp⟩
    apply go _ _ (.ret (.fr (.list [.int v, .int w])) [.fr (.list [.int v, .int w]), .fr (.int 3), .fr (.list [.int v, .int w]), .un, .un, .un]) _ rfl rfl
    · rfl
    · rfl
  | x :: y :: z :: r, hn, hl =>
    obtain ⟨v, e⟩ := hn x List.mem_cons_self
    obtain ⟨w, e'⟩ := hn y (List.mem_cons_of_mem _ List.mem_cons_self)
    obtain ⟨u, e''⟩ := hn z (List.mem_cons_of_mem _ (List.mem_cons_of_mem _ List.mem_cons_self))
    subst e; subst e'; subst e''
    rw [List.length_cons, List.length_cons, List.length_cons] at hl
    have c1 : sliceD (.list (.int v :: .int w :: .int u :: r)) none (some 3) = some (.ow [.int v, .int w, .int u]) := by
      show some (Vl.ow (((PyData.int v :: .int w :: .int u :: r).drop 0).take (HT.sIx (PyData.int v :: .int w :: .int u :: r).length _ (some ((3 : Nat) : Int)) - 0))) = _
      rw [HT.sIx_nat, Nat.min_eq_left (by simp)]
      rfl
    have c2 : ∃ l, sliceD (.list (.int v :: .int w :: .int u :: r)) (some 3) (some 63) = some (.ow l) ∧ Ints l ∧ l.length ≤ 63 := by
      refine ⟨_, rfl, fun z hz => ?_, ?_⟩
      · unfold cutL at hz
        have hz := List.mem_of_mem_drop (List.mem_of_mem_take hz)
        exact hn z hz
      · unfold cutL
        rw [List.length_take, List.length_drop, List.length_cons, List.length_cons, List.length_cons]
        omega
    obtain ⟨l, c2, il, ll⟩ := c2
    obtain ⟨a', b', e', n3, n4, n5, el⟩ := cells_loop (c := c') l 0 (.int v :: .int w :: .int u :: r) v w u .un .un .un il (by omega)
    generalize (PyData.int v :: .int w :: .int u :: r) = ns at c1 c2 el
    unfold cellB at el
    refine ⟨[.int a', .int b', .int e'], ?_, fun x hx => by
      simp only [List.mem_cons, List.not_mem_nil, or_false] at hx
      rcases hx with rfl | rfl | rfl <;> exact ⟨_, rfl⟩, by simp⟩
    apply go _ _ (.ret (.fr (.list [.int a', .int b', .int e'])) [.fr (.list ns), .fr (.int 3), .fr (.list [.int a', .int b', .int e']), n3, n4, n5]) _ rfl rfl
    · simp only [b__law_cells, entry, List.replicate, List.map_cons, List.map_nil, List.nil_append, List.cons_append]
      refine ss_cons (o1 := .next [.fr (.list ns), .fr (.int 3), .ow [.int v, .int w, .int u], .un, .un, .un]) (by walk_at "dl") (th_next ?_)
      refine ss_cons (o1 := .next [.fr (.list ns), .fr (.int 3), .ow [.int a', .int b', .int e'], n3, n4, n5]) (s_for (xs := enumD 0 l) rfl ?_ el) (th_next ?_)
      · walk_at "dl"
      · walk_at "dl"
    · rfl
/-- the two errors that are kept -/
theorem caught_ok (h : CC Φ (k+12) c) {tie tag : D} (h1 : Ly 3 tie) (h2 : Ly 3 tag) : c 8 [tie, tag] none = .ok (.fr (.bool true)) none := by
  obtain ⟨c', h', go⟩ := h.go (show Φ 8 = some b__law_caught from rfl)
  have yL : Ly 4 (.list [tie, tag]) := Ly.list fun d hd => by
    simp only [List.mem_cons, List.not_mem_nil, or_false] at hd
    rcases hd with rfl | rfl
    · exact h1
    · exact h2
  have es := same_ok 4 _ yL.2 (yL.shp (by omega)) c' (k + 6) (h'.mono (by omega))
  have a1 : attrD (Str.ofString "hold") [Str.ofString "NoHold"] (eNH tie) = some tie := by rfl
  have a2 : attrD (Str.ofString "name") [Str.ofString "NoMember", Str.ofString "Twice"] (eNM tag) = some tag := by rfl
  apply go _ _ (.ret (.fr (.bool true)) [.fr tie, .fr tag, .un, .un, .fr (eNH tie), .fr (eNM tag)]) _ rfl rfl
  · simp only [b__law_caught, entry, List.replicate, List.map_cons, List.map_nil, List.nil_append, List.cons_append]
    refine ss_cons (o1 := .next [.fr tie, .fr tag, .un, .un, .fr .none, .fr .none]) (by rfl) (th_next ?_)
    refine ss_cons (o1 := .next [.fr tie, .fr tag, .un, .un, .fr (eNH tie), .fr .none]) (by rfl) (th_next ?_)
    refine ss_cons (o1 := .next [.fr tie, .fr tag, .un, .un, .fr (eNH tie), .fr (eNM tag)]) (by rfl) (th_next ?_)
    generalize eNH tie = x1 at a1
    generalize eNM tag = x2 at a2
    walk_at "dl"
  · rfl
end
end DlK00
end
section
set_option linter.all false
set_option maxRecDepth 100000
set_option maxHeartbeats 4000000
namespace DlK00
open PySem Dl L2
local macro_rules | `(tactic| walk_at "dl") => `(tactic| repeat (first
  | ((with_reducible apply gOpt); first | first | assumption | exact rfl)
  | ((with_reducible apply gEx); first | with_reducible exact p_lit | ((with_reducible apply p_varf); exact rfl) | with_reducible apply p_bin | with_reducible apply p_lst | with_reducible apply p_tup | with_reducible apply p_call | with_reducible apply p_cmp | with_reducible apply p_mkx | with_reducible apply p_attr | with_reducible apply p_isx | with_reducible apply p_idx | with_reducible apply p_bi | ((with_reducible apply l_comp); assumption) | ((with_reducible apply p_varo); exact rfl) | with_reducible apply p_callio | with_reducible apply p_slice | with_reducible apply p_isin | with_reducible apply p_not | with_reducible apply p_and | with_reducible apply p_or | with_reducible apply p_ite | with_reducible apply p_chain | with_reducible apply p_call0 | with_reducible apply p_neg | with_reducible apply p_app | with_reducible apply p_pop1 | with_reducible apply p_rev | with_reducible apply p_rep | with_reducible exact p_con | with_reducible exact p_mk0 | ((with_reducible apply if_tt); first | assumption | exact rfl) | ((with_reducible apply if_ff); first | assumption | exact rfl) | ((with_reducible apply l_rok); exact rfl))
  | ((with_reducible apply gOp); first | with_reducible apply o_pk | with_reducible apply o_e)
  | ((with_reducible apply gLd); first | with_reducible exact es_nil | with_reducible apply es_consd | with_reducible apply i_of | with_reducible apply i_zip | with_reducible apply i_enum | with_reducible apply es_star | ((with_reducible apply l_esn); exact es_nil))
  | ((with_reducible apply gBo); first | ((with_reducible apply l_fits); first | assumption | exact rfl) | ((with_reducible apply l_owi); first | assumption | exact rfl) | ((with_reducible apply l_pk); first | assumption | exact rfl))
  | ((with_reducible apply gOut); first | with_reducible apply ss_cons | with_reducible apply th_next | with_reducible apply s_setf | with_reducible apply s_if | with_reducible apply s_retf | with_reducible exact ss_nil | with_reducible exact th_ret | ((with_reducible apply if_tt); first | assumption | exact rfl) | ((with_reducible apply if_ff); first | assumption | exact rfl) | with_reducible apply s_ret | with_reducible apply s_set | with_reducible apply s_ex | with_reducible apply s_sub | with_reducible apply s_par | with_reducible apply s_raise | with_reducible exact th_exc | ((with_reducible apply l_the); exact th_exc) | ((with_reducible apply l_ssn); exact ss_nil) | ((with_reducible apply l_thr); exact th_ret))
  | ((with_reducible apply gD); first | first | assumption | exact rfl)
  | ((with_reducible apply gLo); first | with_reducible exact os_nil | with_reducible apply os_cons)
  | ((with_reducible apply gTe); first | with_reducible apply t_ | ((with_reducible apply if_tt); first | assumption | exact rfl) | ((with_reducible apply if_ff); first | assumption | exact rfl))
  | ((with_reducible apply gRC); first | assumption)
  | ((with_reducible apply gEnv); first | ((with_reducible apply l_set); simp only [setSl, List.set_cons_zero, List.set_cons_succ]; done) | ((with_reducible apply l_set); simp only [setSl, List.set_cons_zero, List.set_cons_succ]; exact rfl) | exact rfl)
  | ((with_reducible apply gQ); first | with_reducible exact q_abs | with_reducible apply q_lit | with_reducible apply q_var)
  | ((with_reducible apply gLv); first | with_reducible exact vs_nil | with_reducible apply vs_cons)
  | ((with_reducible apply gNs); first | first | assumption | exact rfl)))

section
variable {c : Calls} {k : Nat}
def exL (size tag tie : D) : List D := [eBL size, eBa size, eTw tag, eUn, eNH tie, eNM tag, eNN size, eND]
def rowL (size tag tie : D) : List D := [size, size, tag, tie, tag, size]
theorem places (h : CC Φ (k+4) c) {size tag tie : D} : ∀ x ∈ enumD 0 (exL size tag tie), ∃ (i : Int) (e : D), x = .tuple [.int i, e] ∧ c 7 [e, .int i] none = .ok (.fr (.bool true)) none := by
  obtain ⟨n, hn, e⟩ := h
  obtain ⟨m, hm⟩ : ∃ m, n = m + 4 := ⟨n - 4, by omega⟩
  subst hm
  subst e
  intro x hx
  unfold exL at hx
  simp only [enumD, List.mem_cons, List.not_mem_nil, or_false] at hx
  rcases hx with rfl | rfl | rfl | rfl | rfl | rfl | rfl | rfl
  · exact ⟨_, _, rfl, place0 _ m⟩
  · exact ⟨_, _, rfl, place1 _ m⟩
  · exact ⟨_, _, rfl, place2 _ m⟩
  · exact ⟨_, _, rfl, place3 m⟩
  · exact ⟨_, _, rfl, place4 _ m⟩
  · exact ⟨_, _, rfl, place5 _ m⟩
  · exact ⟨_, _, rfl, place6 _ m⟩
  · exact ⟨_, _, rfl, place7 m⟩
def loopB : Ss := match b__law_right.body with
  | .cons _ (.cons _ (.cons _ (.cons _ (.cons _ (.cons _ (.cons (.forS _ _ B) _)))))) => B
  | _ => .nil
theorem turn_ok (h : CC Φ (k+12) c) {xs : List D} {size tag tie : D} {s2 s3 s7 : Sl} (h1 : Ly 3 size) (h2 : Ly 3 tag) (h3 : Ly 3 tie) :
    evSs c loops loopB [.ow xs, .fr tie, s2, s3, .fr (.list (exL size tag tie)), .fr size, .fr tag, s7, .un, .un] = .next [.ow xs, .fr tie, s2, s3, .fr (.list (exL size tag tie)), .fr size, .fr tag, .fr (.list [size, size, tag, tie, tag]), .un, .un] := by
  have yL : Ly 4 (.list (rowL size tag tie)) := Ly.list fun d hd => by
    unfold rowL at hd
    simp only [List.mem_cons, List.not_mem_nil, or_false] at hd
    rcases hd with rfl | rfl | rfl | rfl | rfl | rfl <;> assumption
  have es := same_ok 4 _ yL.2 (yL.shp (by omega)) c (k + 7) (h.mono (by omega))
  have pl := places (k := k + 8) (size := size) (tag := tag) (tie := tie) h
  have i0 : idxD (.list (exL size tag tie)) (.int 0) = some (eBL size) := rfl
  have i1 : idxD (.list (exL size tag tie)) (.int 1) = some (eBa size) := rfl
  have i2 : idxD (.list (exL size tag tie)) (.int 2) = some (eTw tag) := rfl
  have i4 : idxD (.list (exL size tag tie)) (.int 4) = some (eNH tie) := rfl
  have i5 : idxD (.list (exL size tag tie)) (.int 5) = some (eNM tag) := rfl
  have i6 : idxD (.list (exL size tag tie)) (.int 6) = some (eNN size) := rfl
  have a0 : attrD (Str.ofString "number") [Str.ofString "BadLine", Str.ofString "Barred", Str.ofString "NoNumber"] (eBL size) = some size := by rfl
  have a1 : attrD (Str.ofString "number") [Str.ofString "BadLine", Str.ofString "Barred", Str.ofString "NoNumber"] (eBa size) = some size := by rfl
  have a6 : attrD (Str.ofString "number") [Str.ofString "BadLine", Str.ofString "Barred", Str.ofString "NoNumber"] (eNN size) = some size := by rfl
  have a2 : attrD (Str.ofString "name") [Str.ofString "NoMember", Str.ofString "Twice"] (eTw tag) = some tag := by rfl
  have a5 : attrD (Str.ofString "name") [Str.ofString "NoMember", Str.ofString "Twice"] (eNM tag) = some tag := by rfl
  have a4 : attrD (Str.ofString "hold") [Str.ofString "NoHold"] (eNH tie) = some tie := by rfl
  generalize eBL size = x0 at i0 a0
  generalize eBa size = x1 at i1 a1
  generalize eTw tag = x2 at i2 a2
  generalize eNH tie = x4 at i4 a4
  generalize eNM tag = x5 at i5 a5
  generalize eNN size = x6 at i6 a6
  generalize exL size tag tie = L at pl i0 i1 i2 i4 i5 i6 ⊢
  have g1 := addL_ok (xs := [size, size, tag, tie, tag]) (ys := [size]) (by simp)
  change _ = some (Vl.ow (rowL size tag tie)) at g1
  have hc : evE c (.comp (.cons (.tp (.cons (.nm 8) (.cons (.nm 9) .nil))) (.enum (.pk 4)) .nil (.elt (.call 7 (.cons false (.var 9) (.cons false (.var 8) .nil)))))) [.ow xs, .fr tie, s2, s3, .fr (.list L), .fr size, .fr tag, .fr (.list [size, size, tag, tie, tag]), .un, .un] = .ok (.ow ((enumD 0 L).map fun t => .bool (yesB t)), [.ow xs, .fr tie, s2, s3, .fr (.list L), .fr size, .fr tag, .fr (.list [size, size, tag, tie, tag]), .un, .un]) := by
    refine p_comp (xs := enumD 0 L) (w := [.ow xs, .fr tie, s2, s3, .fr (.list L), .fr size, .fr tag, .fr (.list [size, size, tag, tie, tag]), .un, .un]) (fun t => .bool (yesB t)) rfl ?_ rfl ?_
    · walk_at "dl"
    · intro t ht
      obtain ⟨i, e, q, p⟩ := pl t ht
      subst q
      refine ⟨[.ow xs, .fr tie, s2, s3, .fr (.list L), .fr size, .fr tag, .fr (.list [size, size, tag, tie, tag]), .fr (.int i), .fr e], .fr (.bool true), [.ow xs, .fr tie, s2, s3, .fr (.list L), .fr size, .fr tag, .fr (.list [size, size, tag, tie, tag]), .fr (.int i), .fr e], rfl, ?_, rfl, rfl⟩
      walk_at "dl"
  have ea := all_ok (enumD 0 L) yesB
  rw [all_true] at ea
  generalize (enumD 0 L).map (fun t => PyData.bool (yesB t)) = B at hc ea
  simp only [loopB, b__law_right]
  refine ss_cons (o1 := .next [.ow xs, .fr tie, s2, s3, .fr (.list L), .fr size, .fr tag, .fr (.list [size, size, tag, tie, tag]), .un, .un]) (by walk_at "dl") (th_next ?_)
  refine ss_cons (o1 := .next [.ow xs, .fr tie, s2, s3, .fr (.list L), .fr size, .fr tag, .fr (.list [size, size, tag, tie, tag]), .un, .un]) ?_ (th_next ?_)
  · unfold rowL at es g1
    walk_at "dl"
  refine ss_cons (o1 := .next [.ow xs, .fr tie, s2, s3, .fr (.list L), .fr size, .fr tag, .fr (.list [size, size, tag, tie, tag]), .un, .un]) ?_ (th_next ss_nil)
  walk_at "dl"
def tagP : List D := [.str (Str.ofString "ann"), .str (Str.ofString "take"), .str (Str.ofString "")]
def rightP : List D := [.str (Str.ofString "own"), .str (Str.ofString "hand")]
def whatP : List D := [.str (Str.ofString "box"), .str (Str.ofString "bob")]
def lyB (d : D) : Bool := d.canLay0 && decide (d.depth ≤ 2)
theorem ly_of {d : D} (h : lyB d = true) : Ly 2 d := ⟨(Bool.and_eq_true_iff.mp h).1, of_decide_eq_true (Bool.and_eq_true_iff.mp h).2⟩
theorem ly_all {ps : List D} (h : ps.all lyB = true) : ∀ x ∈ ps, Ly 2 x := fun x hx => ly_of (List.all_eq_true.mp h x hx)
theorem right_ok (h : CC Φ (k+15) c) {xs : List D} (hb : Box 0 xs) : ∃ ys, c 9 [] (some xs) = .ok (.fr (.bool true)) (some ys) := by
  obtain ⟨c', h', go⟩ := h.go (show Φ 9 = some b__law_right from rfl)
  obtain ⟨r, x1, e1, b1, r0, r1⟩ := take_ok (k := k+13) (x := 999) h' hb (by omega) (by omega) (by omega)
  obtain ⟨m, x2, e2, b2, m2⟩ := of_ok (k := k+12) (ps := [.int 1, .int 1000000]) h' b1 (by omega) (by decide) (by decide)
  obtain ⟨tag, x3, e3, b3, m3⟩ := of_ok (k := k+12) (ps := tagP) h' b2 (by omega) (by decide) (by decide)
  obtain ⟨rt, x4, e4, b4, m4⟩ := of_ok (k := k+12) (ps := rightP) h' b3 (by omega) (by decide) (by decide)
  obtain ⟨wh, x5, e5, b5, m5⟩ := of_ok (k := k+12) (ps := whatP) h' b4 (by omega) (by decide) (by decide)
  have ht := ly_all (ps := tagP) (by decide +kernel) tag m3
  have hr := ly_all (ps := rightP) (by decide +kernel) rt m4
  have hw := ly_all (ps := whatP) (by decide +kernel) wh m5
  have hy : Ly 3 (.tuple [tag, rt, wh]) := Ly.tuple fun d hd => by
    simp only [List.mem_cons, List.not_mem_nil, or_false] at hd
    rcases hd with rfl | rfl | rfl <;> assumption
  have hm : ∃ j : Int, m = .int j ∧ small j = true := by
    simp only [List.mem_cons, List.not_mem_nil, or_false] at m2
    rcases m2 with rfl | rfl
    · exact ⟨1, rfl, rfl⟩
    · exact ⟨1000000, rfl, rfl⟩
  obtain ⟨j, q, sj⟩ := hm
  subst q
  have mu : binD .mul (.int (r - 400)) (.int j) = some (.fr (.int ((r - 400) * j))) := mul_ok (.inr sj)
  have hs : Ly 3 (.int ((r - 400) * j)) := Ly.int _
  generalize hz : (.int ((r - 400) * j) : D) = size at mu hs
  have ht3 : Ly 3 tag := ht.mono (by omega)
  have tn := fun (s2 s3 s7 : Sl) => turn_ok (k := k+2) (xs := x5) (s2 := s2) (s3 := s3) (s7 := s7) h' hs ht3 hy
  have ca := caught_ok (k := k+2) h' hy ht3
  have p6 : binD .pow (.int 10) (.int 6) = some (.fr (.int 1000000)) := by rfl
  have p9 : binD .pow (.int 10) (.int 9) = some (.fr (.int 1000000000)) := by rfl
  have lg : Ly 3 (.int 1000000000) := Ly.int _
  have sg := same_ok 3 _ lg.2 (lg.shp (by omega)) c' (k + 10) (h'.mono (by omega))
  have a1 : attrD (Str.ofString "number") [Str.ofString "BadLine", Str.ofString "Barred", Str.ofString "NoNumber"] (eBa (.int 1000000000)) = some (.int 1000000000) := by rfl
  unfold tagP at e3
  unfold rightP at e4
  unfold whatP at e5
  have g1 := addL_ok (xs := [eBL size, eBa size, eTw tag, eUn, eNH (.tuple [tag, rt, wh]), eNM tag]) (ys := [eNN size, eND]) (by simp)
  have g2 := addL_ok (xs := [eBL size, eBa size, eTw tag, eUn, eNH (.tuple [tag, rt, wh])]) (ys := [eNM tag, eNN size, eND]) (by simp)
  change _ = some (Vl.ow (exL size tag (.tuple [tag, rt, wh]))) at g1
  change _ = some (Vl.ow (exL size tag (.tuple [tag, rt, wh]))) at g2
  unfold eBL eBa eTw eUn eNH eNM eNN eND at g1 g2
  unfold eBa at a1
  have lp : loopF (fun x ρ => optOut (storeD (.nm 4) x ρ) fun ρ1 => evSs c' loops loopB ρ1) [.list (exL size tag (.tuple [tag, rt, wh])), .list (exL size tag (.tuple [tag, rt, wh]))] [.ow x5, .fr (.tuple [tag, rt, wh]), .fr (.list (exL size tag (.tuple [tag, rt, wh]))), .fr (.list (exL size tag (.tuple [tag, rt, wh]))), .un, .fr size, .fr tag, .un, .un, .un] =
      .next [.ow x5, .fr (.tuple [tag, rt, wh]), .fr (.list (exL size tag (.tuple [tag, rt, wh]))), .fr (.list (exL size tag (.tuple [tag, rt, wh]))), .fr (.list (exL size tag (.tuple [tag, rt, wh]))), .fr size, .fr tag, .fr (.list [size, size, tag, .tuple [tag, rt, wh], tag]), .un, .un] := by
    exact loop_cons (tn _ _ _) (loop_cons (tn _ _ _) rfl)
  generalize hE : exL size tag (.tuple [tag, rt, wh]) = L at g1 g2 lp
  generalize hT : (.tuple [tag, rt, wh] : D) = tie at g1 g2 lp ca
  simp only [loopB, b__law_right] at lp
  refine ⟨x5, ?_⟩
  apply go _ _ (.ret (.fr (.bool true)) [.ow x5, .fr tie, .fr (.list L), .fr (.list L), .fr (.list L), .fr size, .fr tag, .fr (.list [size, size, tag, tie, tag]), .un, .un]) _ rfl rfl
  · simp only [b__law_right, entry, List.replicate, List.map_cons, List.map_nil, List.nil_append, List.cons_append]
    refine ss_cons (o1 := .next [.ow x3, .un, .un, .un, .un, .fr size, .fr tag, .un, .un, .un]) (by walk_at "dl") (th_next ?_)
    refine ss_cons (o1 := .next [.ow x5, .fr tie, .un, .un, .un, .fr size, .fr tag, .un, .un, .un]) (by rw [← hT]; walk_at "dl") (th_next ?_)
    refine ss_cons (o1 := .next [.ow x5, .fr tie, .fr (.list [excD (Str.ofString "BadLine") (Str.ofString "number") size, excD (Str.ofString "Barred") (Str.ofString "number") size, excD (Str.ofString "Twice") (Str.ofString "name") tag, excD0 (Str.ofString "Unfit"), excD (Str.ofString "NoHold") (Str.ofString "hold") tie, excD (Str.ofString "NoMember") (Str.ofString "name") tag]), .un, .un, .fr size, .fr tag, .un, .un, .un]) (by walk_at "dl") (th_next ?_)
    refine ss_cons (o1 := .next [.ow x5, .fr tie, .fr (.list L), .un, .un, .fr size, .fr tag, .un, .un, .un]) (by walk_at "dl") (th_next ?_)
    refine ss_cons (o1 := .next [.ow x5, .fr tie, .fr (.list L), .fr (.list [excD (Str.ofString "BadLine") (Str.ofString "number") size, excD (Str.ofString "Barred") (Str.ofString "number") size, excD (Str.ofString "Twice") (Str.ofString "name") tag, excD0 (Str.ofString "Unfit"), excD (Str.ofString "NoHold") (Str.ofString "hold") tie]), .un, .fr size, .fr tag, .un, .un, .un]) (by walk_at "dl") (th_next ?_)
    refine ss_cons (o1 := .next [.ow x5, .fr tie, .fr (.list L), .fr (.list L), .un, .fr size, .fr tag, .un, .un, .un]) (by walk_at "dl") (th_next ?_)
    refine ss_cons (o1 := .next [.ow x5, .fr tie, .fr (.list L), .fr (.list L), .fr (.list L), .fr size, .fr tag, .fr (.list [size, size, tag, tie, tag]), .un, .un]) (s_for (xs := [.list L, .list L]) rfl (by walk_at "dl") lp) (th_next ?_)
    walk_at "dl"
  · rfl
end
end DlK00
end
section
set_option linter.all false
set_option maxRecDepth 100000
set_option maxHeartbeats 4000000
namespace DlK00
open PySem Dl L2
local macro_rules | `(tactic| walk_at "dl") => `(tactic| repeat (first
  | ((with_reducible apply gOpt); first | first | assumption | exact rfl)
  | ((with_reducible apply gEx); first | with_reducible exact p_lit | ((with_reducible apply p_varf); exact rfl) | with_reducible apply p_bin | with_reducible apply p_lst | with_reducible apply p_tup | with_reducible apply p_call | with_reducible apply p_cmp | with_reducible apply p_mkx | with_reducible apply p_attr | with_reducible apply p_isx | with_reducible apply p_idx | with_reducible apply p_bi | ((with_reducible apply l_comp); assumption) | ((with_reducible apply p_varo); exact rfl) | with_reducible apply p_callio | with_reducible apply p_slice | with_reducible apply p_isin | with_reducible apply p_not | with_reducible apply p_and | with_reducible apply p_or | with_reducible apply p_ite | with_reducible apply p_chain | with_reducible apply p_call0 | with_reducible apply p_neg | with_reducible apply p_app | with_reducible apply p_pop1 | with_reducible apply p_rev | with_reducible apply p_rep | with_reducible exact p_con | with_reducible exact p_mk0 | ((with_reducible apply if_tt); first | assumption | exact rfl) | ((with_reducible apply if_ff); first | assumption | exact rfl) | ((with_reducible apply l_rok); exact rfl))
  | ((with_reducible apply gOp); first | with_reducible apply o_pk | with_reducible apply o_e)
  | ((with_reducible apply gLd); first | with_reducible exact es_nil | with_reducible apply es_consd | with_reducible apply i_of | with_reducible apply i_zip | with_reducible apply i_enum | with_reducible apply es_star | ((with_reducible apply l_esn); exact es_nil))
  | ((with_reducible apply gBo); first | ((with_reducible apply l_fits); first | assumption | exact rfl) | ((with_reducible apply l_owi); first | assumption | exact rfl) | ((with_reducible apply l_pk); first | assumption | exact rfl))
  | ((with_reducible apply gOut); first | with_reducible apply ss_cons | with_reducible apply th_next | with_reducible apply s_setf | with_reducible apply s_if | with_reducible apply s_retf | with_reducible exact ss_nil | with_reducible exact th_ret | ((with_reducible apply if_tt); first | assumption | exact rfl) | ((with_reducible apply if_ff); first | assumption | exact rfl) | with_reducible apply s_ret | with_reducible apply s_set | with_reducible apply s_ex | with_reducible apply s_sub | with_reducible apply s_par | with_reducible apply s_raise | with_reducible exact th_exc | ((with_reducible apply l_the); exact th_exc) | ((with_reducible apply l_ssn); exact ss_nil) | ((with_reducible apply l_thr); exact th_ret))
  | ((with_reducible apply gD); first | first | assumption | exact rfl)
  | ((with_reducible apply gLo); first | with_reducible exact os_nil | with_reducible apply os_cons)
  | ((with_reducible apply gTe); first | with_reducible apply t_ | ((with_reducible apply if_tt); first | assumption | exact rfl) | ((with_reducible apply if_ff); first | assumption | exact rfl))
  | ((with_reducible apply gRC); first | assumption)
  | ((with_reducible apply gEnv); first | ((with_reducible apply l_set); simp only [setSl, List.set_cons_zero, List.set_cons_succ]; done) | ((with_reducible apply l_set); simp only [setSl, List.set_cons_zero, List.set_cons_succ]; exact rfl) | exact rfl)
  | ((with_reducible apply gQ); first | with_reducible exact q_abs | with_reducible apply q_lit | with_reducible apply q_var)
  | ((with_reducible apply gLv); first | with_reducible exact vs_nil | with_reducible apply vs_cons)
  | ((with_reducible apply gNs); first | first | assumption | exact rfl)))

theorem phi_law : Φ 10 = some b_law := rfl
def depth : Nat := 26
theorem law_body {c : Calls} (cc : CC Φ 25 c) {ns : List D} (hn : Ints ns) (hl : ns.length ≤ 63) : ∃ ρ, evSs c loops b_law.body [.fr (.list ns), .un, .un] = .ret (.fr (.bool true)) ρ := by
  obtain ⟨cs, e1, ic, lc⟩ := cells_ok (k := 24) cc hn hl
  have hc : evE c (.comp (.cons (.nm 2) (.rng (.bi .len (.cons false (.pk 1) .nil))) .nil (.elt (.callt 9 (.call 1 (.cons false (.var 1) (.cons false (.var 2) .nil))) .nil)))) [.fr (.list ns), .fr (.list cs), .un] = .ok (.ow ((rangeL 0 cs.length).map fun t => .bool (yesB t)), [.fr (.list ns), .fr (.list cs), .un]) := by
    refine p_comp (xs := rangeL 0 cs.length) (w := [.fr (.list ns), .fr (.list cs), .un]) (fun t => .bool (yesB t)) rfl ?_ rfl ?_
    · exact rng_ok (j := (cs.length : Int)) (by omega) (by omega) (by walk_at "dl")
    · intro x hx
      obtain ⟨i, hi, e⟩ := List.mem_map.mp hx
      have hi := List.mem_range.mp hi
      subst e
      have h1 : (0 : Int) ≤ 0 + (i : Int) := by omega
      have h2 : (0 : Int) + (i : Int) < cs.length := by omega
      generalize (0 : Int) + (i : Int) = j at h1 h2
      obtain ⟨d, a1, a2, a3⟩ := at_ok h1 h2
      obtain ⟨v, e⟩ := ic d a3
      subst e
      obtain ⟨ys, e2, b2⟩ := box0 (k := 24) cc (idx_ok a1 a2) h2
      obtain ⟨zs, e3⟩ := right_ok (k := 10) cc b2
      refine ⟨[.fr (.list ns), .fr (.list cs), .fr (.int j)], .fr (.bool true), [.fr (.list ns), .fr (.list cs), .fr (.int j)], rfl, p_callt (xs := ys) (ρ1 := [.fr (.list ns), .fr (.list cs), .fr (.int j)]) ?_ es_nil e3, rfl, rfl⟩
      walk_at "dl"
  have ea := all_ok (rangeL 0 cs.length) yesB
  rw [all_true] at ea
  refine ⟨[.fr (.list ns), .fr (.list cs), .un], ?_⟩
  simp only [b_law]
  refine ss_cons (o1 := .next [.fr (.list ns), .fr (.list cs), .un]) ?_ (th_next ?_)
  · clear hc ea
    walk_at "dl"
  generalize (rangeL 0 cs.length).map (fun t => PyData.bool (yesB t)) = B at hc ea
  refine ss_cons (o1 := .ret (.fr (.bool true)) [.fr (.list ns), .fr (.list cs), .un]) (s_retf (v := .fr (.bool true)) (p_bi (os_cons (o_e rfl hc) os_nil) rfl ea)) th_ret
theorem plain : ∀ ns : List Int, ns.length ≤ 63 → runD Φ depth 10 [.list (ns.map .int)] none = .ok (.fr (.bool true)) none := by
  intro ns hl
  have hi : Ints (ns.map .int) := fun x hx => by
    obtain ⟨v, _, e⟩ := List.mem_map.mp hx
    exact ⟨v, e.symm⟩
  have hl : (ns.map PyData.int).length ≤ 63 := by rw [List.length_map]; exact hl
  have key : ∀ c, CC Φ 25 c → ∃ ρ, evSs c loops b_law.body [.fr (.list (ns.map .int)), .un, .un] = .ret (.fr (.bool true)) ρ := fun c cc => law_body cc hi hl
  obtain ⟨ρ, e⟩ := key (runD Φ 25) (CC.of (n := 25))
  exact run_go (n := 25) (f := 10) (d := b_law) (o := .ret (.fr (.bool true)) ρ) phi_law rfl rfl e rfl
end DlK00
end
set_option Elab.async false
set_option linter.all false
set_option maxRecDepth 100000
set_option maxHeartbeats 0
open PySem PySem.W PySem.Calls PyProof.Rows
set_option maxRecDepth 100000 in
theorem PySem.Challenge.cw_touchrights_k00_errors_made_by_hand_holds : PySem.Challenge.rw_touchrights_k00_errors_made_by_hand.Holds := by
  w_on; o_law
  refine HandSHeadRun.head_any (r := OpenLaw.row PySem.Challenge.rw_touchrights_k00_errors_made_by_hand) (q := view (OpenLaw.row PySem.Challenge.rw_touchrights_k00_errors_made_by_hand).prog [19]) (H := DlK00.hk) (ob := DlK00.ob) (M := 4000) (loose := DlK00.names) (d := HandSHeadRun.topDef (OpenLaw.row PySem.Challenge.rw_touchrights_k00_errors_made_by_hand).prog 19) (kwd := []) DlK00.ob_eq
    (by kernel_rfl) (fun s => by kernel_rfl) DlK00.run (by kernel_rfl) (by kernel_rfl) (by kernel_rfl) (by rfl) (by first | assumption | decide +kernel) (by decide +kernel) ⟨rfl, rfl, rfl, rfl, rfl, by decide +kernel⟩ ?hw ?hc
  case hw => w_witness2
  case hc => exact Dl.tb_walk DlK00.tbOk rfl (id := 10) (n := DlK00.depth) rfl DlK00.w10 rfl (by kernel_rfl) (by kernel_rfl) ⟨rfl, by decide, by decide⟩ DlK00.plain
