import PyProof.Rows.All
import Wide.All
import OpenK.AllK
import Wide.FinOn
import HandS.ForMost
import HandS.Exc
import HandS.ExcInit
import HandS.WordsExc
import HandS.CallSlots
import HandS.Flow
import HandS.Style
import HandS.IsInst
import HandS.Wide
import HandS.TupMul
import HandS.TupAny
import HandS.Conv
import KE.SortData
import KE.DataMinMax
import HandS.SetFor
import HandS.Zip
import HandS.Strs
import HandS.SortInts
import HandS.Deep
import HandS.WordsDict
import HandS.Dict
import HandS.Small
import HandS.TupSets
import PySem.Challenge.RW_dialsread_k51_whole_pulses_of_figures
set_option Elab.async false
set_option linter.all false
/-! text: BV1.lean -/
section
/-! BV1: data by value, a small language of resolved programs, what it evaluates to. Plain Lean. -/
namespace BV

inductive D where
  | non | bool (b : Bool) | int (i : Int) | str (s : List Nat)
  | tup (xs : List D) | lst (xs : List D) | dic (kvs : List (D × D)) | tok
  deriving Inhabited

abbrev Or := List Int
inductive R (α : Type) where
  | ok (a : α) (o : Or) | exc (c : Nat) (d : D) (o : Or) | no
  deriving Inhabited
def R.bind {α β : Type} : R α → (α → Or → R β) → R β
  | .ok a o, f => f a o
  | .exc c d o, _ => .exc c d o
  | .no, _ => .no
/-- nothing may be raised -/
def R.pure {α : Type} : R α → R α
  | .ok a o => .ok a o
  | _ => .no
@[simp] theorem R.pure_ok {α : Type} (a : α) (o : Or) : (R.ok a o).pure = .ok a o := rfl
def R.of {α : Type} : Option α → Or → R α
  | some a, o => .ok a o
  | none, _ => .no
@[simp] theorem R.bind_ok {α β : Type} (a : α) (o : Or) (f : α → Or → R β) : (R.ok a o).bind f = f a o := rfl
@[simp] theorem R.bind_exc {α β : Type} (c : Nat) (d : D) (o : Or) (f : α → Or → R β) : (R.exc c d o : R α).bind f = .exc c d o := rfl
@[simp] theorem R.bind_no {α β : Type} (f : α → Or → R β) : (R.no : R α).bind f = .no := rfl
@[simp] theorem R.of_some {α : Type} (a : α) (o : Or) : R.of (some a) o = .ok a o := rfl
@[simp] theorem R.of_none {α : Type} (o : Or) : R.of (none : Option α) o = .no := rfl

/-- a slot: without a value, a value, a list (a dict) that nobody else holds -/
inductive Sl where
  | un | val (d : D) | own (d : D)
  deriving Inhabited
abbrev Env := List Sl
def getS : Env → Nat → Sl
  | [], _ => .un
  | x :: _, 0 => x
  | _ :: r, i + 1 => getS r i
def setS : Env → Nat → Sl → Env
  | [], _, _ => []
  | _ :: r, 0, y => y :: r
  | x :: r, i + 1, y => x :: setS r i y

def cap : Nat := 16777216

/-! ### equality (as Python's ==, a bool beside an int too; dicts and the token: unlike all) -/
mutual
def eqD : D → D → Bool
  | .non, .non => true
  | .bool a, .bool b => a == b
  | .bool a, .int b => (if a then 1 else 0) == b
  | .int a, .bool b => a == (if b then 1 else 0)
  | .int a, .int b => a == b
  | .str a, .str b => a == b
  | .tup a, .tup b => eqDs a b
  | .lst a, .lst b => eqDs a b
  | _, _ => false
def eqDs : List D → List D → Bool
  | [], [] => true
  | x :: xs, y :: ys => eqD x y && eqDs xs ys
  | _, _ => false
end
/-- no dict within, not too deep -/
def okN : Nat → D → Bool
  | _, .non => true
  | _, .bool _ => true
  | _, .int _ => true
  | _, .str s => s.all (fun c => decide (c < 1114112))
  | n + 1, .tup xs => xs.all (okN n)
  | n + 1, .lst xs => xs.all (okN n)
  | _, _ => false
def flat : D → Bool
  | .non => true
  | .bool _ => true
  | .int _ => true
  | .str _ => true
  | _ => false
/-- two flat things that == tells apart as data does -/
def scalD : D → D → Bool
  | .non, .non => true | .non, .int _ => true | .int _, .non => true | .non, .bool _ => true | .bool _, .non => true | .non, .str _ => true | .str _, .non => true
  | .int _, .int _ => true | .bool _, .bool _ => true | .str _, .str _ => true
  | .int _, .str _ => true | .str _, .int _ => true | .bool _, .str _ => true | .str _, .bool _ => true
  | _, _ => false
/-- equality of two things -/
def eqO (a b : D) : Option Bool :=
  if scalD a b then some (eqD a b)
  else if okN 60 a && okN 60 b then some (eqD a b) else none
def truth : D → Option Bool
  | .non => some false
  | .bool b => some b
  | .int i => some (i != 0)
  | .str s => if s.length ≤ cap then some (!s.isEmpty) else none
  | .tup xs => some (!xs.isEmpty)
  | .lst xs => some (!xs.isEmpty)
  | .dic k => some (!k.isEmpty)
  | .tok => none

/-! ### places of sequences -/
def ixN (n : Nat) (i : Int) : Option Nat := if 0 ≤ i then (if i < n then some i.toNat else none) else if -(n : Int) ≤ i then some (i + n).toNat else none
def atI {α : Type} (xs : List α) (i : Int) : Option α := (ixN xs.length i).bind fun j => xs[j]?
def sIx (n d : Nat) : Option Int → Nat
  | none => d
  | some v => if v < 0 then (v + (n : Int)).toNat else min v.toNat n
def cut {α : Type} (xs : List α) (lo hi : Option Int) : List α := (xs.drop (sIx xs.length 0 lo)).take (sIx xs.length xs.length hi - sIx xs.length 0 lo)
def partO : D → Option (Option Int)
  | .non => some none
  | .int i => some (some i)
  | _ => none
def sliceO (a l h : D) : Option D :=
  match partO l, partO h with
  | some l, some h => match a with
    | .tup xs => some (.tup (cut xs l h))
    | .lst xs => some (.lst (cut xs l h))
    | .str s => if s.length ≤ cap then some (.str (cut s l h)) else none
    | _ => none
  | _, _ => none

/-! ### operators -/
inductive O2 where
  | add | sub | mul | fdiv | mod | pow
  | eq | ne | lt | le | gt | ge | isIn | notIn | is | isNot | ix | inD | ninD | ixD | rep
  deriving DecidableEq
inductive O1 where
  | neg | not | chkI
  deriving DecidableEq
def rep {α : Type} (xs : List α) (k : Nat) : List α := (List.replicate k xs).flatten
def addO : D → D → Option D
  | .int a, .int b => some (.int (a + b))
  | .str a, .str b => if a.length + b.length ≤ cap then some (.str (a ++ b)) else none
  | .tup a, .tup b => if a.length + b.length ≤ cap then some (.tup (a ++ b)) else none
  | .lst a, .lst b => if a.length + b.length ≤ cap then some (.lst (a ++ b)) else none
  | _, _ => none
def mulOk (a b : Int) : Bool := (decide (-(2 ^ 64) < a) && decide (a < 2 ^ 64)) || (decide (-(2 ^ 64) < b) && decide (b < 2 ^ 64))
def repOk (n : Nat) (k : Int) : Bool := decide (1 ≤ k) && decide (k ≤ 1000) && decide (1 ≤ n) && decide (n ≤ 1000)
def mulO : D → D → Option D
  | .int a, .int b => if mulOk a b then some (.int (a * b)) else none
  | .tup a, .int k => if repOk a.length k then some (.tup (rep a k.toNat)) else none
  | _, _ => none
def inO (x : D) : D → Option Bool
  | .tup ys => if flat x && ys.all flat then some (ys.any fun y => eqD y x) else none
  | .lst ys => if flat x && ys.all flat then some (ys.any fun y => eqD y x) else none
  | _ => none
/-- a key of a dict: a number, a text -/
def keyOk : D → Bool
  | .int _ => true
  | .str _ => true
  | _ => false
def valD (kds : List (D × D)) (k : D) : Option D := (kds.find? fun kv => eqD kv.1 k).map (·.2)
def putD (kds : List (D × D)) (k v : D) : List (D × D) :=
  if (kds.any fun kv => eqD kv.1 k) = true then kds.map (fun kv => if eqD kv.1 k = true then (kv.1, v) else kv) else kds ++ [(k, v)]
def inDO (x : D) : D → Option Bool
  | .dic kds => if keyOk x then some (valD kds x).isSome else none
  | _ => none
def ixDO : D → D → Option D
  | .dic kds, k => if keyOk k then valD kds k else none
  | _, _ => none
def mulLO : D → D → Option D
  | .lst xs, .int k => if decide (0 ≤ k) && decide (k ≤ 1000) && decide (xs.length ≤ 1000) then some (.lst (rep xs k.toNat)) else none
  | _, _ => none
def isNon : D → Bool
  | .non => true
  | _ => false
def op2 (b : O2) (x y : D) : Option D :=
  match b with
  | .add => addO x y
  | .sub => match x, y with | .int a, .int b => some (.int (a - b)) | _, _ => none
  | .mul => mulO x y
  | .fdiv => match x, y with | .int a, .int b => if 0 < b ∧ b < 1073741824 then some (.int (a / b)) else none | _, _ => none
  | .mod => match x, y with | .int a, .int b => if 0 < b then some (.int (a % b)) else none | _, _ => none
  | .pow => match x, y with | .int a, .int b => if 0 ≤ b ∧ b ≤ 1000 ∧ a.natAbs < 1000 then some (.int (a ^ b.toNat)) else none | _, _ => none
  | .eq => (eqO x y).map .bool
  | .ne => (eqO x y).map fun b => .bool (!b)
  | .lt => match x, y with | .int a, .int b => some (.bool (decide (a < b))) | _, _ => none
  | .le => match x, y with | .int a, .int b => some (.bool (decide (a ≤ b))) | _, _ => none
  | .gt => match x, y with | .int a, .int b => some (.bool (decide (b < a))) | _, _ => none
  | .ge => match x, y with | .int a, .int b => some (.bool (decide (b ≤ a))) | _, _ => none
  | .isIn => (inO x y).map .bool
  | .notIn => (inO x y).map fun b => .bool (!b)
  | .is => match y with | .non => some (.bool (isNon x)) | _ => none
  | .isNot => match y with | .non => some (.bool (!isNon x)) | _ => none
  | .ix => match x, y with
    | .tup xs, .int i => atI xs i
    | .lst xs, .int i => atI xs i
    | .str s, .int i => if s.length ≤ cap then (atI s i).map fun c => .str [c] else none
    | _, _ => none
  | .inD => (inDO x y).map .bool
  | .ninD => (inDO x y).map fun b => .bool (!b)
  | .ixD => ixDO x y
  | .rep => mulLO x y
def op1 (u : O1) (x : D) : Option D :=
  match u with
  | .neg => match x with | .int a => some (.int (-a)) | _ => none
  | .not => (truth x).map fun b => .bool (!b)
  | .chkI => match x with | .int a => some (.int a) | _ => none

/-! ### built-in functions by values -/
inductive Ty where
  | int | bool | str | tup | lst | dic
  deriving DecidableEq
def isTy : Ty → D → Option Bool
  | _, .tok => none
  | .int, .int _ => some true
  | .int, .bool _ => some true
  | .bool, .bool _ => some true
  | .str, .str _ => some true
  | .tup, .tup _ => some true
  | .lst, .lst _ => some true
  | .dic, .dic _ => some true
  | _, _ => some false
inductive Bi where
  | len | abs | int | min1 | max1 | min2 | max2 | sum | any | all | tuple | list | range | isT (t : Ty) | srt | sset | sdic | zip | rev | rev1 | ev0 | ev1 | ssetT | lsetT | zip3
  deriving DecidableEq
def intsO : List D → Option (List Int)
  | [] => some []
  | .int i :: r => (intsO r).map (i :: ·)
  | _ => none
def boolsO : List D → Option (List Bool)
  | [] => some []
  | .bool i :: r => (boolsO r).map (i :: ·)
  | _ => none
def seqO : D → Option (List D)
  | .tup xs => some xs
  | .lst xs => some xs
  | _ => none
def lstO : D → Option (List D)
  | .lst xs => some xs
  | _ => none
def upto (lo : Int) : Nat → List D
  | 0 => []
  | n + 1 => .int lo :: upto (lo + 1) n
def rangeO (lo hi : Int) : Option D := if -(2 ^ 62) ≤ lo ∧ lo < 2 ^ 62 ∧ -(2 ^ 62) ≤ hi ∧ hi < 2 ^ 62 ∧ (hi - lo).toNat ≤ cap then some (.lst (upto lo (hi - lo).toNat)) else none
def minL : List Int → Int
  | [] => 0
  | [a] => a
  | a :: r => let m := minL r; if m < a then m else a
def maxL : List Int → Int
  | [] => 0
  | [a] => a
  | a :: r => let m := maxL r; if a < m then m else a
/-- the first place of y -/
def findD (y : D) : List D → Nat → Option Nat
  | [], _ => none
  | x :: r, k => if eqD x y then some k else findD y r (k + 1)
def un1 (f : D → Option D) : List D → Option D
  | [x] => f x
  | _ => none
def un2 (f : D → D → Option D) : List D → Option D
  | [x, y] => f x y
  | _ => none
def lenO : D → Option D
  | .tup ys => some (.int ys.length)
  | .lst ys => some (.int ys.length)
  | .str s => if s.length ≤ cap then some (.int s.length) else none
  | .dic k => some (.int k.length)
  | _ => none
def absO : D → Option D
  | .int i => some (.int (if i < 0 then -i else i))
  | _ => none
def intO : D → Option D
  | .int i => some (.int i)
  | .bool b => some (.int (if b then 1 else 0))
  | _ => none
def min2O : D → D → Option D
  | .int a, .int b => some (.int (if b < a then b else a))
  | _, _ => none
def max2O : D → D → Option D
  | .int a, .int b => some (.int (if b > a then b else a))
  | _, _ => none
def minIs : Option (List Int) → Option D
  | some (n :: ns) => some (.int (minL (n :: ns)))
  | _ => none
def maxIs : Option (List Int) → Option D
  | some (n :: ns) => some (.int (maxL (n :: ns)))
  | _ => none
/-! order -/
mutual
/-- can be compared by <, place by place -/
def alkD : D → D → Bool
  | .int _, .int _ => true
  | .str _, .str _ => true
  | .tup a, .tup b => alkDs a b
  | _, _ => false
def alkDs : List D → List D → Bool
  | x :: xs, y :: ys => alkD x y && alkDs xs ys
  | _, _ => true
end
mutual
def ltD : D → D → Bool
  | .int a, .int b => decide (a < b)
  | .str a, .str b => decide (a < b)
  | .tup a, .tup b => ltDs a b
  | _, _ => false
def ltDs : List D → List D → Bool
  | [], _ :: _ => true
  | x :: xs, y :: ys => if eqD x y then ltDs xs ys else ltD x y
  | _, _ => false
end
def isTup1 : D → Bool
  | .tup (_ :: _) => true
  | _ => false
def isTupA : D → Bool
  | .tup _ => true
  | _ => false
def ordOk (xs : List D) : Bool := xs.all (fun x => xs.all fun y => alkD x y) && xs.all (okN 50)
def srtOk (xs : List D) : Bool := ordOk xs && (xs.all isTup1 || xs.all fun x => !isTupA x) && decide (xs.length ≤ cap)
def srtO (d : D) : Option D := (lstO d).bind fun xs => if srtOk xs then some (.lst (xs.mergeSort fun a b => !ltD b a)) else none
def leastO : Option (List D) → Option D
  | some (x :: r) => if ordOk (x :: r) then some (r.foldl (fun a y => if ltD y a then y else a) x) else none
  | _ => none
def mostO : Option (List D) → Option D
  | some (x :: r) => if ordOk (x :: r) then some (r.foldl (fun a y => if ltD a y then y else a) x) else none
  | _ => none
def insI (x : Int) : List Int → List Int
  | [] => [x]
  | y :: r => if x < y then x :: y :: r else if y < x then y :: insI x r else y :: r
/-- the different numbers in order -/
def ssetL (ns : List Int) : List Int := ns.foldr insI []
def sset1 (ns : List Int) : Option D := if ns.length ≤ 1000 ∧ (ssetL ns).length < 64 then some (.lst ((ssetL ns).map .int)) else none
def ssetO (d : D) : Option D := ((seqO d).bind intsO).bind sset1
def keysO : List D → Option (List Int)
  | [] => some []
  | .tup [.int k, _] :: r => (keysO r).map (k :: ·)
  | _ => none
def sdic1 (ns : List Int) : Option D := if ns.length ≤ 1000 then some (.lst ((ssetL ns).map .int)) else none
def sdicO (d : D) : Option D := ((lstO d).bind keysO).bind sdic1
def zipD : List D → List D → List D
  | x :: xs, y :: ys => .tup [x, y] :: zipD xs ys
  | _, _ => []
def zipO : D → D → Option D
  | .tup a, .tup b => if a.length ≤ cap then some (.lst (zipD a b)) else none
  | _, _ => none
def revO : D → Option D
  | .tup xs => some (.tup xs.reverse)
  | .lst xs => some (.lst xs.reverse)
  | _ => none
/-- [-2::-1] -/
def rev1O : D → Option D
  | .tup xs => some (.tup (xs.take (xs.length - 1)).reverse)
  | _ => none
/-- every second -/
def evens {α : Type} : List α → List α
  | [] => []
  | [x] => [x]
  | x :: _ :: r => x :: evens r
/-- [::2] -/
def ev0O : D → Option D
  | .tup xs => some (.tup (evens xs))
  | _ => none
/-- [1::2] -/
def ev1O : D → Option D
  | .tup xs => some (.tup (evens (xs.drop 1)))
  | _ => none
def min1O (d : D) : Option D := (minIs ((lstO d).bind intsO)).or (leastO (seqO d))
def max1O (d : D) : Option D := (maxIs ((lstO d).bind intsO)).or (mostO (seqO d))
def sumO (d : D) : Option D := ((seqO d).bind intsO).map fun ns => .int ns.sum
def anyO (d : D) : Option D := ((lstO d).bind boolsO).map fun bs => .bool (bs.any id)
def allO (d : D) : Option D := ((lstO d).bind boolsO).map fun bs => .bool (bs.all id)
def tupO (d : D) : Option D := (seqO d).map .tup
def listO (d : D) : Option D := (seqO d).map .lst
def range1O : D → Option D
  | .int n => rangeO 0 n
  | _ => none
def range2O : D → D → Option D
  | .int a, .int b => rangeO a b
  | _, _ => none
def indexO (x y : D) : Option D := (lstO x).bind fun ys => if flat y && ys.all flat then (findD y ys 0).map fun k => .int k else if okN 60 y && ys.all (okN 59) then (findD y ys 0).map fun k => .int k else none
/-- rows of ints -/
def rowsO : List D → Option (List (List Int))
  | [] => some []
  | .tup xs :: r => (intsO xs).bind fun ns => (rowsO r).map (ns :: ·)
  | _ => none
/-- a row of figures below 64 as one number -/
def cdR : List Int → Int
  | [] => 0
  | d :: r => d * 64 ^ r.length + cdR r
def insR (x : List Int) : List (List Int) → List (List Int)
  | [] => [x]
  | y :: r => if cdR x < cdR y then x :: y :: r else if cdR y < cdR x then y :: insR x r else y :: r
/-- the different rows in order -/
def ssetR (rs : List (List Int)) : List (List Int) := rs.foldr insR []
def bdR (k : Nat) (r : List Int) : Bool := r.length == k && r.all fun n => decide (0 ≤ n) && decide (n < 64)
def okR : List (List Int) → Bool
  | [] => true
  | r :: rs => (r :: rs).all (bdR r.length)
def ssetT1 (rs : List (List Int)) : Option D := if rs.length < 64 ∧ okR rs = true then some (.lst ((ssetR rs).map fun r => .tup (r.map .int))) else none
def ssetTO (d : D) : Option D := ((lstO d).bind rowsO).bind ssetT1
def addR (acc : List (List Int)) (r : List Int) : List (List Int) := if r ∈ acc then acc else acc ++ [r]
def lsetT1 (rs : List (List Int)) : Option D := if rs.length < 64 then some (.int ((rs.foldl addR []).length : Nat)) else none
def lsetTO (d : D) : Option D := ((lstO d).bind rowsO).bind lsetT1
def zip3D : List D → List D → List D → List D
  | x :: xs, y :: ys, z :: zs => .tup [x, y, z] :: zip3D xs ys zs
  | _, _, _ => []
def zip3O : D → D → D → Option D
  | .tup a, .tup b, .tup c => if a.length ≤ cap then some (.lst (zip3D a b c)) else none
  | _, _, _ => none
def biF (b : Bi) (xs : List D) : Option D :=
  match b with
  | .len => un1 lenO xs
  | .abs => un1 absO xs
  | .int => un1 intO xs
  | .min2 => un2 min2O xs
  | .max2 => un2 max2O xs
  | .min1 => un1 min1O xs
  | .max1 => un1 max1O xs
  | .sum => un1 sumO xs
  | .any => un1 anyO xs
  | .all => un1 allO xs
  | .tuple => un1 tupO xs
  | .list => un1 listO xs
  | .range => match xs with
    | [x] => range1O x
    | [x, y] => range2O x y
    | _ => none
  | .isT t => un1 (fun x => (isTy t x).map .bool) xs
  | .srt => un1 srtO xs
  | .sset => un1 ssetO xs
  | .sdic => un1 sdicO xs
  | .zip => un2 zipO xs
  | .rev => un1 revO xs
  | .rev1 => un1 rev1O xs
  | .ev0 => un1 ev0O xs
  | .ev1 => un1 ev1O xs
  | .ssetT => un1 ssetTO xs
  | .lsetT => un1 lsetTO xs
  | .zip3 => match xs with
    | [x, y, z] => zip3O x y z
    | _ => none
/-- methods that only read -/
inductive Mt where
  | index | dget
  deriving DecidableEq
def mtOk : Mt → D → Bool
  | .index, .lst _ => true
  | .dget, .dic _ => true
  | _, _ => false
def mtF (m : Mt) (x : D) (xs : List D) : Option D :=
  match m with
  | .index => un1 (indexO x) xs
  | .dget => un2 (fun k z => match x with
    | .dic kds => if keyOk k then some ((valD kds k).getD z) else none
    | _ => none) xs
def items : D → Option (List D)
  | .lst xs => some xs
  | .tup xs => some xs
  | .str s => if s.length ≤ cap then some (s.map fun c => .str [c]) else none
  | _ => none

/-! ### the language -/
inductive IP where
  | slot (i : Nat) | tup (ps : List IP)
mutual
def slotsP : IP → List Nat
  | .slot i => [i]
  | .tup ps => slotsPs ps
def slotsPs : List IP → List Nat
  | [] => []
  | p :: ps => slotsP p ++ slotsPs ps
end
def wipeS (ρ : Env) : List Nat → Env
  | [] => ρ
  | v :: vs => setS (wipeS ρ vs) v .un
inductive IE where
  | cst (d : D) | var (i : Nat) | pk (i : Nat)
  | op1 (u : O1) (a : IE) | op2 (b : O2) (x y : IE) | chn (p q : O2) (a b c : IE)
  | and (a b : IE) | or (a b : IE) | ite (c a b : IE)
  | tup (es : List IE) | lst (es : List IE) | slice (a l h : IE)
  | call (f : Nat) (es : List IE) | callS (f : Nat) (es : List IE) | bi (b : Bi) (es : List IE) | mth (m : Mt) (x : IE) (es : List IE) | draw (a m : IE)
  | comp (p : IP) (s c e : IE)
  | comp2 (p : IP) (s c : IE) (p1 : IP) (s1 c1 e : IE)
inductive IS where
  | set (p : IP) (e : IE) | setO (i : Nat) (e : IE) | par (ps : List (Nat × Bool)) (es : List IE)
  | app (i : Nat) (e : IE) | ext (i : Nat) (e : IE) | extT (i : Nat) (e : IE) | dNew (i : Nat) | dSet (i : Nat) (k e : IE) | stI (i : Nat) (k e : IE) | augI (i : Nat) (k : IE) (b : O2) (e : IE) | aug (i : Nat) (b : O2) (e : IE) | frz (i : Nat) | ex (e : IE)
  | ifs (c : IE) (a b : List IS) | whl (n : Nat) (c : IE) (b : List IS) | for_ (p : IP) (s : IE) (b : List IS)
  | ret (e : IE) | brk | cont | pass

mutual
def bindP : IP → D → Env → Option Env
  | .slot i, d, ρ => some (setS ρ i (.val d))
  | .tup ps, .tup xs, ρ => bindPs ps xs ρ
  | .tup _, _, _ => none
def bindPs : List IP → List D → Env → Option Env
  | [], [], ρ => some ρ
  | p :: ps, x :: xs, ρ => match bindP p x ρ with
    | some ρ' => bindPs ps xs ρ'
    | none => none
  | _, _, _ => none
end
/-- what is walked -/
def R.seq (r : R D) : R (List D) := r.bind fun x o => .of (items x) o
def compM (f : D → Or → R (Option D)) : List D → Or → R (List D)
  | [], o => .ok [] o
  | x :: xs, o => (f x o).bind fun y o => (compM f xs o).bind fun ys o => match y with
    | some y => .ok (y :: ys) o
    | none => .ok ys o
/-- a comprehension of two walks -/
def compL (f : D → Or → R (List D)) : List D → Or → R (List D)
  | [], o => .ok [] o
  | x :: xs, o => (f x o).bind fun ys o => (compL f xs o).bind fun zs o => .ok (ys ++ zs) o
def R.test {α : Type} (r : R D) (f : Bool → D → Or → R α) : R α := r.bind fun x o => match truth x with
  | some b => f b x o
  | none => .no
def R.tst (r : R D) : R Bool := r.test fun b _ o => .ok b o
def drawF : D → Or → R D
  | .int m, o => if 0 < m then (match o with
    | [] => .ok (.int 0) []
    | x :: r => .ok (.int (x % m)) r) else .no
  | _, _ => .no
/-- holds no reference -/
def scalar : D → Bool
  | .non => true
  | .bool _ => true
  | .int _ => true
  | .str _ => true
  | _ => false

section
variable (C : Nat → List D → Or → R D)
mutual
def evE : IE → Env → Or → R D
  | .cst d, _, o => .ok d o
  | .var i, ρ, o => match getS ρ i with
    | .val d => .ok d o
    | _ => .no
  | .pk i, ρ, o => match getS ρ i with
    | .val d => .ok d o
    | .own d => .ok d o
    | _ => .no
  | .op1 u a, ρ, o => (evE a ρ o).bind fun x o => .of (op1 u x) o
  | .op2 b x y, ρ, o => (evE x ρ o).bind fun x o => (evE y ρ o).bind fun y o => .of (op2 b x y) o
  | .chn p q a b c, ρ, o => (evE a ρ o).bind fun x o => (evE b ρ o).bind fun y o => (R.of (op2 p x y) o).bind fun t o => match t with
    | .bool true => (evE c ρ o).bind fun z o => .of (op2 q y z) o
    | .bool false => .ok (.bool false) o
    | _ => .no
  | .and a b, ρ, o => (evE a ρ o).test fun t x o => if t then evE b ρ o else .ok x o
  | .or a b, ρ, o => (evE a ρ o).test fun t x o => if t then .ok x o else evE b ρ o
  | .ite c a b, ρ, o => (evE c ρ o).test fun t _ o => if t then evE a ρ o else evE b ρ o
  | .tup es, ρ, o => (evEs es ρ o).bind fun xs o => .ok (.tup xs) o
  | .lst es, ρ, o => (evEs es ρ o).bind fun xs o => .ok (.lst xs) o
  | .slice a l h, ρ, o => (evE a ρ o).bind fun x o => (evE l ρ o).bind fun l o => (evE h ρ o).bind fun h o => .of (sliceO x l h) o
  | .call f es, ρ, o => (evEs es ρ o).bind fun xs o => C f xs o
  | .callS f es, ρ, o => (evEs es ρ o).bind fun xs o => (C f xs o).bind fun y o => if scalar y then .ok y o else .no
  | .bi b es, ρ, o => (evEs es ρ o).bind fun xs o => .of (biF b xs) o
  | .mth m x es, ρ, o => (evE x ρ o).bind fun x o => if mtOk m x then (evEs es ρ o).bind fun xs o => .of (mtF m x xs) o else .no
  | .draw a m, ρ, o => (evE a ρ o).bind fun x o => match x with
    | .tok => (evE m ρ o).bind fun y o => drawF y o
    | _ => .no
  | .comp p s c e, ρ, o => (evE s ρ o).seq.bind fun xs o => (compM (fun x o => match bindP p x (wipeS ρ (slotsP p)) with
        | none => .no
        | some ρ => (evE c ρ o).test fun t _ o => if t then (evE e ρ o).bind fun y o => .ok (some y) o else .ok none o) xs o).pure.bind fun ys o => .ok (.lst ys) o
  | .comp2 p s c p1 s1 c1 e, ρ, o => (evE s ρ o).seq.bind fun xs o => (compL (fun x o => match bindP p x (wipeS ρ (slotsP p ++ slotsP p1)) with
        | none => .no
        | some ρ => (evE c ρ o).test fun t _ o => if t then (evE s1 ρ o).seq.bind fun ys o => (compM (fun x o => match bindP p1 x (wipeS ρ (slotsP p1)) with
          | none => .no
          | some ρ => (evE c1 ρ o).test fun t _ o => if t then (evE e ρ o).bind fun y o => .ok (some y) o else .ok none o) ys o) else .ok [] o) xs o).pure.bind fun ys o => if ys.length ≤ cap then .ok (.lst ys) o else .no
def evEs : List IE → Env → Or → R (List D)
  | [], _, o => .ok [] o
  | e :: es, ρ, o => (evE e ρ o).bind fun x o => (evEs es ρ o).bind fun xs o => .ok (x :: xs) o
end

/-! ### statements -/
end
inductive Out where
  | nx (ρ : Env) (o : Or) | rt (d : D) (o : Or) | bk (ρ : Env) (o : Or) | ct (ρ : Env) (o : Or) | xc (c : Nat) (d : D) (ρ : Env) (o : Or) | no
  deriving Inhabited
def R.out {α : Type} (ρ : Env) : R α → (α → Or → Out) → Out
  | .ok a o, f => f a o
  | .exc c d o, _ => .xc c d ρ o
  | .no, _ => .no
@[simp] theorem R.out_ok {α : Type} (ρ : Env) (a : α) (o : Or) (f : α → Or → Out) : (R.ok a o).out ρ f = f a o := rfl
@[simp] theorem R.out_exc {α : Type} (ρ : Env) (c : Nat) (d : D) (o : Or) (f : α → Or → Out) : (R.exc c d o : R α).out ρ f = .xc c d ρ o := rfl
@[simp] theorem R.out_no {α : Type} (ρ : Env) (f : α → Or → Out) : (R.no : R α).out ρ f = .no := rfl
def Out.then : Out → (Env → Or → Out) → Out
  | .nx ρ o, f => f ρ o
  | x, _ => x
@[simp] theorem Out.then_nx (ρ : Env) (o : Or) (f : Env → Or → Out) : (Out.nx ρ o).then f = f ρ o := rfl
@[simp] theorem Out.then_rt (d : D) (o : Or) (f : Env → Or → Out) : (Out.rt d o).then f = .rt d o := rfl
@[simp] theorem Out.then_bk (ρ : Env) (o : Or) (f : Env → Or → Out) : (Out.bk ρ o).then f = .bk ρ o := rfl
@[simp] theorem Out.then_ct (ρ : Env) (o : Or) (f : Env → Or → Out) : (Out.ct ρ o).then f = .ct ρ o := rfl
@[simp] theorem Out.then_xc (c : Nat) (d : D) (ρ : Env) (o : Or) (f : Env → Or → Out) : (Out.xc c d ρ o).then f = .xc c d ρ o := rfl
@[simp] theorem Out.then_no (f : Env → Or → Out) : (Out.no).then f = .no := rfl
/-- one turn of a loop, then what follows -/
def Out.turn : Out → (Env → Or → Out) → Out
  | .nx ρ o, f => f ρ o
  | .ct ρ o, f => f ρ o
  | .bk ρ o, _ => .nx ρ o
  | .rt d o, _ => .rt d o
  | .xc c d ρ o, _ => .xc c d ρ o
  | .no, _ => .no
def forM (f : D → Env → Or → Out) : List D → Env → Or → Out
  | [], ρ, o => .nx ρ o
  | x :: xs, ρ, o => (f x ρ o).turn fun ρ o => forM f xs ρ o
def whileM (c : Env → Or → R D) (f : Env → Or → Out) : Nat → Env → Or → Out
  | 0, _, _ => .no
  | n + 1, ρ, o => (c ρ o).out ρ fun x o => match truth x with
    | some true => (f ρ o).turn fun ρ o => whileM c f n ρ o
    | some false => .nx ρ o
    | none => .no
def parS : List (Nat × Bool) → List D → Env → Option Env
  | [], [], ρ => some ρ
  | (i, b) :: ps, x :: xs, ρ => if b then (match x with
      | .lst _ => parS ps xs (setS ρ i (.own x))
      | _ => none) else parS ps xs (setS ρ i (.val x))
  | _, _, _ => none
section
variable (C : Nat → List D → Or → R D)
mutual
def evS : IS → Env → Or → Out
  | .set p e, ρ, o => (evE C e ρ o).out ρ fun x o => match bindP p x ρ with
    | some ρ => .nx ρ o
    | none => .no
  | .setO i e, ρ, o => (evE C e ρ o).out ρ fun x o => match x with
    | .lst _ => .nx (setS ρ i (.own x)) o
    | _ => .no
  | .par ps es, ρ, o => (evEs C es ρ o).out ρ fun xs o => match parS ps xs ρ with
    | some ρ => .nx ρ o
    | none => .no
  | .app i e, ρ, o => match getS ρ i with
    | .own (.lst xs) => (evE C e ρ o).out ρ fun x o => if xs.length < cap then .nx (setS ρ i (.own (.lst (xs ++ [x])))) o else .no
    | _ => .no
  | .ext i e, ρ, o => match getS ρ i with
    | .own (.lst xs) => (evE C e ρ o).out ρ fun x o => match x with
      | .lst ys => if xs.length + ys.length ≤ cap then .nx (setS ρ i (.own (.lst (xs ++ ys)))) o else .no
      | _ => .no
    | _ => .no
  | .extT i e, ρ, o => match getS ρ i with
    | .own (.lst xs) => (evE C e ρ o).out ρ fun x o => match x with
      | .tup ys => if xs.length + ys.length ≤ cap then .nx (setS ρ i (.own (.lst (xs ++ ys)))) o else .no
      | _ => .no
    | _ => .no
  | .dNew i, ρ, o => .nx (setS ρ i (.own (.dic []))) o
  | .dSet i k e, ρ, o => (evE C e ρ o).out ρ fun v o => match getS ρ i with
    | .own (.dic kds) => (evE C k ρ o).out ρ fun x o => if keyOk x && decide (kds.length < cap) then .nx (setS ρ i (.own (.dic (putD kds x v)))) o else .no
    | _ => .no
  | .stI i k e, ρ, o => (evE C e ρ o).out ρ fun v o => match getS ρ i with
    | .own (.lst xs) => (evE C k ρ o).out ρ fun x o => match x with
      | .int n => match ixN xs.length n with
        | some j => .nx (setS ρ i (.own (.lst (xs.set j v)))) o
        | none => .no
      | _ => .no
    | _ => .no
  | .augI i k b e, ρ, o => match getS ρ i with
    | .own (.lst xs) => (evE C k ρ o).out ρ fun x o => match x with
      | .int n => match ixN xs.length n, atI xs n with
        | some j, some x => if scalar x then (evE C e ρ o).out ρ fun y o => match op2 b x y with
          | some z => .nx (setS ρ i (.own (.lst (xs.set j z)))) o
          | none => .no else .no
        | _, _ => .no
      | _ => .no
    | _ => .no
  | .aug i b e, ρ, o => match getS ρ i with
    | .val x => if scalar x then (evE C e ρ o).out ρ fun y o => match op2 b x y with
        | some z => .nx (setS ρ i (.val z)) o
        | none => .no else .no
    | _ => .no
  | .frz i, ρ, o => match getS ρ i with
    | .own d => .nx (setS ρ i (.val d)) o
    | _ => .nx ρ o
  | .ex e, ρ, o => (evE C e ρ o).out ρ fun _ o => .nx ρ o
  | .ifs c a b, ρ, o => (evE C c ρ o).out ρ fun x o => match truth x with
    | some true => evSs a ρ o
    | some false => evSs b ρ o
    | none => .no
  | .whl n c b, ρ, o => whileM (fun ρ o => evE C c ρ o) (fun ρ o => evSs b ρ o) n ρ o
  | .for_ p s b, ρ, o => (evE C s ρ o).seq.out ρ fun xs o => forM (fun x ρ o => match bindP p x ρ with
        | none => .no
        | some ρ => evSs b ρ o) xs ρ o
  | .ret e, ρ, o => (evE C e ρ o).out ρ fun x o => .rt x o
  | .brk, ρ, o => .bk ρ o
  | .cont, ρ, o => .ct ρ o
  | .pass, ρ, o => .nx ρ o
def evSs : List IS → Env → Or → Out
  | [], ρ, o => .nx ρ o
  | s :: r, ρ, o => (evS s ρ o).then fun ρ o => evSs r ρ o
end
end

/-! ### defs -/
structure Fn where
  ar : Nat
  n : Nat
  body : List IS
  deriving Inhabited
def startS (n : Nat) (xs : List D) : Env := xs.map .val ++ List.replicate (n - xs.length) .un
def Out.fin : Out → R D
  | .rt d o => .ok d o
  | .nx _ o => .ok .non o
  | .xc c d _ o => .exc c d o
  | _ => .no
def callN (T : Nat → Fn) : Nat → Nat → List D → Or → R D
  | 0, _, _, _ => .no
  | k + 1, f, xs, o => if xs.length = (T f).ar then (evSs (callN T k) (T f).body (startS (T f).n xs) o).fin else .no
end BV

end
/-! text: BVp.lean -/
section
set_option autoImplicit false
namespace BV
/-! ### the different numbers in order -/
theorem insI_mem (x : Int) : ∀ (l : List Int) (y : Int), y ∈ insI x l ↔ y = x ∨ y ∈ l
  | [], y => by simp [insI]
  | z :: r, y => by
    simp only [insI]
    split
    · simp
    · split
      · simp only [List.mem_cons, insI_mem x r y]
        constructor
        · rintro (h | h | h) <;> simp [h]
        · rintro (h | h | h) <;> simp [h]
      · have : x = z := by omega
        subst this
        simp
theorem insI_up (x : Int) : ∀ (l : List Int), l.Pairwise (· < ·) → (insI x l).Pairwise (· < ·)
  | [], _ => by simp [insI]
  | z :: r, h => by
    obtain ⟨h1, h2⟩ := List.pairwise_cons.mp h
    simp only [insI]
    split
    · rename_i hx
      refine List.pairwise_cons.mpr ⟨fun y hy => ?_, h⟩
      rcases List.mem_cons.mp hy with rfl | hy
      · exact hx
      · have := h1 y hy; omega
    · split
      · rename_i hx
        refine List.pairwise_cons.mpr ⟨fun y hy => ?_, insI_up x r h2⟩
        rcases (insI_mem x r y).mp hy with rfl | hy
        · exact hx
        · exact h1 y hy
      · exact h
theorem ssetL_mem : ∀ (ns : List Int) (y : Int), y ∈ ssetL ns ↔ y ∈ ns
  | [], y => by simp [ssetL]
  | n :: ns, y => by
    have := ssetL_mem ns y
    unfold ssetL at this ⊢
    rw [List.foldr_cons, insI_mem, this, List.mem_cons]
theorem ssetL_up : ∀ (ns : List Int), (ssetL ns).Pairwise (· < ·)
  | [] => by simp [ssetL]
  | n :: ns => by
    have := ssetL_up ns
    unfold ssetL at this ⊢
    rw [List.foldr_cons]
    exact insI_up _ _ this
/-- only one list has these members in order -/
theorem up_one : ∀ (a b : List Int), a.Pairwise (· < ·) → b.Pairwise (· < ·) → (∀ k, k ∈ a ↔ k ∈ b) → a = b
  | [], [], _, _, _ => rfl
  | [], y :: b, _, _, h => by have := (h y).mpr (by simp); simp at this
  | x :: a, [], _, _, h => by have := (h x).mp (by simp); simp at this
  | x :: a, y :: b, ha, hb, h => by
    obtain ⟨a1, a2⟩ := List.pairwise_cons.mp ha
    obtain ⟨b1, b2⟩ := List.pairwise_cons.mp hb
    have hx := (h x).mp (by simp)
    have hy := (h y).mpr (by simp)
    have exy : x = y := by
      rcases List.mem_cons.mp hx with e | hx
      · exact e
      · rcases List.mem_cons.mp hy with e | hy
        · exact e.symm
        · have := a1 _ hy; have := b1 _ hx; omega
    subst exy
    congr 1
    refine up_one a b a2 b2 fun k => ⟨fun hk => ?_, fun hk => ?_⟩
    · rcases List.mem_cons.mp ((h k).mp (by simp [hk])) with e | e
      · have := a1 k hk; omega
      · exact e
    · rcases List.mem_cons.mp ((h k).mpr (by simp [hk])) with e | e
      · have := b1 k hk; omega
      · exact e
theorem ssetL_eq {ns out : List Int} (h : out.Pairwise (· < ·)) (hm : ∀ k, k ∈ out ↔ k ∈ ns) : out = ssetL ns :=
  up_one _ _ h (ssetL_up ns) fun k => by rw [hm, ssetL_mem]
theorem sset1_some {ns : List Int} {z : D} (h : sset1 ns = some z) : ns.length ≤ 1000 ∧ (ssetL ns).length < 64 ∧ z = .lst ((ssetL ns).map .int) := by
  unfold sset1 at h
  split at h
  · rename_i hh; cases h; exact ⟨hh.1, hh.2, rfl⟩
  · cases h
theorem insI_len (x : Int) : ∀ l : List Int, (insI x l).length ≤ l.length + 1
  | [] => by simp [insI]
  | z :: r => by
    have := insI_len x r
    simp only [insI]
    split
    · simp
    · split
      · simp only [List.length_cons]; omega
      · simp
theorem ssetL_len : ∀ ns : List Int, (ssetL ns).length ≤ ns.length
  | [] => by simp [ssetL]
  | n :: ns => by
    have h1 := ssetL_len ns
    have h2 := insI_len n (ssetL ns)
    unfold ssetL at h1 h2 ⊢
    rw [List.foldr_cons, List.length_cons]
    omega
theorem sset1_of {ns : List Int} (h : ns.length < 64) : sset1 ns = some (.lst ((ssetL ns).map .int)) := by
  have := ssetL_len ns
  unfold sset1
  rw [if_pos ⟨by omega, by omega⟩]
theorem sdic1_of {ns : List Int} (h : ns.length ≤ 1000) : sdic1 ns = some (.lst ((ssetL ns).map .int)) := by unfold sdic1; rw [if_pos h]
theorem keysO_m {α : Type} (f : α → D) (g : α → Int) (h : ∀ a, ∃ x, f a = .tup [.int (g a), x]) : ∀ xs : List α, keysO (xs.map f) = some (xs.map g)
  | [] => rfl
  | x :: xs => by
    obtain ⟨y, e⟩ := h x
    rw [List.map_cons, e, keysO, keysO_m f g h xs]
    rfl
end BV

end
/-! text: BV2.lean -/
section
set_option maxRecDepth 100000
set_option autoImplicit false
set_option maxHeartbeats 4000000
namespace BV
open PySem PySem.Spec PyProof.Rows L2

/-! ### values and what they stand for -/
def cps (s : List Nat) : Str := ⟨s.toArray⟩
/-- a list that is read at a: tracked, not at Av; or a written one -/
def LsA (K : PySem.W.Frag) (Av : Addr → Prop) (H : Hp) (a : Addr) (xs : List V) : Prop :=
  (Rd H a (.lst xs) ∧ ¬ Av a) ∨
    ∃ (o : Obj) (its : Array Value) (n : Nat), K.lookup a = some o ∧ o.cls = .type "list" ∧ o.dict = none ∧ o.data = .seq its n ∧ its.size ≤ sizeLine ∧ Vals xs its.toList
def TpA (K : PySem.W.Frag) (Av : Addr → Prop) (H : Hp) (a : Addr) (xs : List V) : Prop :=
  (Rd H a (.tup xs) ∧ ¬ Av a) ∨
    ∃ (o : Obj) (its : Array Value) (n : Nat), K.lookup a = some o ∧ o.cls = .type "tuple" ∧ o.data = .seq its n ∧ its.size ≤ sizeLine ∧ Vals xs its.toList
/-- a key of a dict -/
def KeyD (k : L2.Key) : D → Prop
  | .int i => k = .inl i
  | .str s => k = .inr (cps s)
  | _ => False
mutual
inductive Rep (K : PySem.W.Frag) (wa : Option Addr) (Av : Addr → Prop) (H : Hp) : V → D → Prop
  | non : Rep K wa Av H .non .non
  | bl (b : Bool) : Rep K wa Av H (.bl b) (.bool b)
  | int (i : Int) : Rep K wa Av H (.int i) (.int i)
  | str (s : List Nat) : Rep K wa Av H (.str (cps s)) (.str s)
  | lst {a : Addr} {xs : List V} {ds : List D} : LsA K Av H a xs → Reps K wa Av H xs ds → Rep K wa Av H (.ref a) (.lst ds)
  | tup {a : Addr} {xs : List V} {ds : List D} : TpA K Av H a xs → Reps K wa Av H xs ds → Rep K wa Av H (.ref a) (.tup ds)
  | dic {a : Addr} {kvs : List (L2.Key × V)} {kds : List (D × D)} : H a = some (.dK kvs) ∧ ¬ Av a → RepsK K wa Av H kvs kds → Rep K wa Av H (.ref a) (.dic kds)
  | tok {a : Addr} : wa = some a → Rep K wa Av H (.ref a) .tok
inductive Reps (K : PySem.W.Frag) (wa : Option Addr) (Av : Addr → Prop) (H : Hp) : List V → List D → Prop
  | nil : Reps K wa Av H [] []
  | cons {v : V} {vs : List V} {d : D} {ds : List D} : Rep K wa Av H v d → Reps K wa Av H vs ds → Reps K wa Av H (v :: vs) (d :: ds)
inductive RepsK (K : PySem.W.Frag) (wa : Option Addr) (Av : Addr → Prop) (H : Hp) : List (L2.Key × V) → List (D × D) → Prop
  | nil : RepsK K wa Av H [] []
  | cons {k : L2.Key} {e : D} {v : V} {d : D} {kvs : List (L2.Key × V)} {kds : List (D × D)} : KeyD k e → Rep K wa Av H v d → RepsK K wa Av H kvs kds → RepsK K wa Av H ((k, v) :: kvs) ((e, d) :: kds)
end
section
variable {K : PySem.W.Frag} {wa : Option Addr} {Av Av' : Addr → Prop} {H H' : Hp}
/-- from one heap to another -/
def Cv (Av Av' : Addr → Prop) (H H' : Hp) : Prop := ∀ a o, H a = some o → ¬ Av a → H' a = some o ∧ ¬ Av' a
theorem Cv.rd (c : Cv Av Av' H H') {a : Addr} {u : HO} (r : Rd H a u) (n : ¬ Av a) : Rd H' a u ∧ ¬ Av' a := by
  rcases r with r | ⟨o, r⟩
  · exact ⟨.inl (c _ _ r n).1, (c _ _ r n).2⟩
  · exact ⟨.inr ⟨o, (c _ _ r n).1⟩, (c _ _ r n).2⟩
theorem LsA.cv (c : Cv Av Av' H H') {a : Addr} {xs : List V} (h : LsA K Av H a xs) : LsA K Av' H' a xs := h.imp (fun h => c.rd h.1 h.2) id
theorem TpA.cv (c : Cv Av Av' H H') {a : Addr} {xs : List V} (h : TpA K Av H a xs) : TpA K Av' H' a xs := h.imp (fun h => c.rd h.1 h.2) id
theorem LsA.sq {a : Addr} {xs : List V} (h : LsA K Av H a xs) : SqL K H a xs := h.imp (fun h => h.1) id
theorem TpA.sq {a : Addr} {xs : List V} (h : TpA K Av H a xs) : SqT K H a xs := h.imp (fun h => h.1) id
mutual
theorem Rep.cv (c : Cv Av Av' H H') : ∀ {v : V} {d : D}, Rep K wa Av H v d → Rep K wa Av' H' v d
  | _, _, .non => .non
  | _, _, .bl b => .bl b
  | _, _, .int i => .int i
  | _, _, .str s => .str s
  | _, _, .lst h r => .lst (h.cv c) (Reps.cv c r)
  | _, _, .tup h r => .tup (h.cv c) (Reps.cv c r)
  | _, _, .dic h r => .dic (c _ _ h.1 h.2) (RepsK.cv c r)
  | _, _, .tok h => .tok h
theorem Reps.cv (c : Cv Av Av' H H') : ∀ {vs : List V} {ds : List D}, Reps K wa Av H vs ds → Reps K wa Av' H' vs ds
  | _, _, .nil => .nil
  | _, _, .cons h r => .cons (Rep.cv c h) (Reps.cv c r)
theorem RepsK.cv (c : Cv Av Av' H H') : ∀ {kvs : List (L2.Key × V)} {kds : List (D × D)}, RepsK K wa Av H kvs kds → RepsK K wa Av' H' kvs kds
  | _, _, .nil => .nil
  | _, _, .cons h r t => .cons h (Rep.cv c r) (RepsK.cv c t)
end
theorem Reps.length : ∀ {vs : List V} {ds : List D}, Reps K wa Av H vs ds → vs.length = ds.length
  | _, _, .nil => rfl
  | _, _, .cons _ r => congrArg (· + 1) (Reps.length r)
theorem Reps.append : ∀ {vs ws : List V} {ds es : List D}, Reps K wa Av H vs ds → Reps K wa Av H ws es → Reps K wa Av H (vs ++ ws) (ds ++ es)
  | _, _, _, _, .nil, q => q
  | _, _, _, _, .cons h r, q => .cons h (Reps.append r q)
theorem Reps.take : ∀ (n : Nat) {vs : List V} {ds : List D}, Reps K wa Av H vs ds → Reps K wa Av H (vs.take n) (ds.take n)
  | 0, _, _, _ => .nil
  | _ + 1, _, _, .nil => .nil
  | n + 1, _, _, .cons h r => .cons h (Reps.take n r)
theorem Reps.drop : ∀ (n : Nat) {vs : List V} {ds : List D}, Reps K wa Av H vs ds → Reps K wa Av H (vs.drop n) (ds.drop n)
  | 0, _, _, r => r
  | _ + 1, _, _, .nil => .nil
  | n + 1, _, _, .cons _ r => Reps.drop n r
theorem Reps.get : ∀ {vs : List V} {ds : List D} {i : Nat} {d : D}, Reps K wa Av H vs ds → ds[i]? = some d → ∃ v, vs[i]? = some v ∧ Rep K wa Av H v d
  | _, _, _, _, .nil, e => by simp at e
  | _, _, 0, _, .cons h _, e => by simp at e; subst e; exact ⟨_, rfl, h⟩
  | _, _, i + 1, d, .cons _ r, e => by
    obtain ⟨v, h1, h2⟩ := Reps.get (i := i) (d := d) r (by simpa using e)
    exact ⟨v, by simpa using h1, h2⟩
theorem Reps.getV : ∀ {vs : List V} {ds : List D} {i : Nat} {v : V}, Reps K wa Av H vs ds → vs[i]? = some v → ∃ d, ds[i]? = some d ∧ Rep K wa Av H v d
  | _, _, _, _, .nil, e => by simp at e
  | _, _, 0, _, .cons h _, e => by simp at e; subst e; exact ⟨_, rfl, h⟩
  | _, _, i + 1, d, .cons _ r, e => by
    obtain ⟨v, h1, h2⟩ := Reps.getV (i := i) (v := d) r (by simpa using e)
    exact ⟨v, by simpa using h1, h2⟩
theorem Reps.rep {vs : List V} {ds : List D} (r : Reps K wa Av H vs ds) : ∀ k : Nat, Reps K wa Av H (List.replicate k vs).flatten (List.replicate k ds).flatten
  | 0 => .nil
  | k + 1 => by
    rw [List.replicate_succ, List.replicate_succ, List.flatten_cons, List.flatten_cons]
    exact r.append (Reps.rep r k)
theorem Reps.ints : ∀ {vs : List V} {ds : List D} {ns : List Int}, Reps K wa Av H vs ds → intsO ds = some ns → vs = ns.map V.int
  | _, _, _, .nil, e => by simp only [intsO, Option.some.injEq] at e; subst e; rfl
  | _, _, ns, .cons (d := d) h r, e => by
    cases h <;> simp only [intsO, reduceCtorEq] at e
    rename_i i
    cases q : intsO _ with
    | none => rw [q] at e; simp at e
    | some ms =>
      rw [q] at e
      simp only [Option.map_some, Option.some.injEq] at e
      subst e
      rw [Reps.ints r q]; rfl
theorem Reps.bools : ∀ {vs : List V} {ds : List D} {ns : List Bool}, Reps K wa Av H vs ds → boolsO ds = some ns → vs = ns.map V.bl
  | _, _, _, .nil, e => by simp only [boolsO, Option.some.injEq] at e; subst e; rfl
  | _, _, ns, .cons (d := d) h r, e => by
    cases h <;> simp only [boolsO, reduceCtorEq] at e
    rename_i i
    cases q : boolsO _ with
    | none => rw [q] at e; simp at e
    | some ms =>
      rw [q] at e
      simp only [Option.map_some, Option.some.injEq] at e
      subst e
      rw [Reps.bools r q]; rfl
end

/-! ### a frame: its entry, the draws' object, what is not to be touched -/
structure Fr where
  H0 : Hp
  wa : Option Addr
  da : Addr × Bool
  Av0 : Addr → Prop
/-- what changes none but the draws' object -/
def Kw (wa : Option Addr) (H H' : Hp) : Prop := ∀ b o, wa ≠ some b → H b = some o → H' b = some o
theorem Kw.refl (wa : Option Addr) (H : Hp) : Kw wa H H := fun _ _ _ h => h
theorem Kw.trans {wa : Option Addr} {H H1 H2 : Hp} (a : Kw wa H H1) (b : Kw wa H1 H2) : Kw wa H H2 := fun c o n h => b c o n (a c o n h)
/-- the draws that are left -/
def DaA (K : PySem.W.Frag) (Av : Addr → Prop) (H : Hp) (da : Addr × Bool) (xs : List V) : Prop :=
  if da.2 = true then ∃ (o : Obj) (its : Array Value) (n : Nat), K.lookup da.1 = some o ∧ o.cls = .type "list" ∧ o.dict = none ∧ o.data = .seq its n ∧ its.size ≤ sizeLine ∧ Vals xs its.toList
  else Rd H da.1 (.lst xs) ∧ ¬ Av da.1
def Orc (K : PySem.W.Frag) (Av : Addr → Prop) (wa : Option Addr) (da : Addr × Bool) (o : Or) (H : Hp) : Prop := match wa with
  | none => True
  | some a => ∃ (n : Nat) (ds : List Int), H a = some (.dK [(.inr "draws", .ref da.1), (.inr "at", .int (n : Nat))]) ∧ DaA K Av H da (ds.map V.int) ∧ o = ds.drop n
/-- what a slot alone holds: a list, a dict -/
def OwO (K : PySem.W.Frag) (wa : Option Addr) (Av : Addr → Prop) (H : Hp) (u : HO) (d : D) : Prop :=
  (∃ vs ds, u = .lst vs ∧ d = .lst ds ∧ Reps K wa Av H vs ds) ∨ ∃ kvs kds, u = .dK kvs ∧ d = .dic kds ∧ RepsK K wa Av H kvs kds
theorem OwO.cv {K : PySem.W.Frag} {wa : Option Addr} {Av Av' : Addr → Prop} {H H' : Hp} {u : HO} {d : D} (h : OwO K wa Av H u d) (c : Cv Av Av' H H') : OwO K wa Av' H' u d := by
  rcases h with ⟨vs, ds, h1, h2, r⟩ | ⟨kvs, kds, h1, h2, r⟩
  · exact .inl ⟨vs, ds, h1, h2, r.cv c⟩
  · exact .inr ⟨kvs, kds, h1, h2, r.cv c⟩
def Own (K : PySem.W.Frag) (wa : Option Addr) (Av : Addr → Prop) (H : Hp) (v : V) (d : D) : Prop :=
  ∃ a u, v = .ref a ∧ H a = some u ∧ OwO K wa Av H u d ∧ Av a ∧ wa ≠ some a
theorem Own.lst {K : PySem.W.Frag} {wa : Option Addr} {Av : Addr → Prop} {H : Hp} {v : V} {ds : List D} (h : Own K wa Av H v (.lst ds)) : ∃ a vs, v = .ref a ∧ H a = some (.lst vs) ∧ Reps K wa Av H vs ds ∧ Av a ∧ wa ≠ some a := by
  obtain ⟨a, u, rfl, ha, h, av, nw⟩ := h
  rcases h with ⟨vs, ds', rfl, e, r⟩ | ⟨_, _, _, e, _⟩
  · cases e; exact ⟨a, vs, rfl, ha, r, av, nw⟩
  · cases e
theorem Own.dic {K : PySem.W.Frag} {wa : Option Addr} {Av : Addr → Prop} {H : Hp} {v : V} {kds : List (D × D)} (h : Own K wa Av H v (.dic kds)) : ∃ a kvs, v = .ref a ∧ H a = some (.dK kvs) ∧ RepsK K wa Av H kvs kds ∧ Av a ∧ wa ≠ some a := by
  obtain ⟨a, u, rfl, ha, h, av, nw⟩ := h
  rcases h with ⟨_, _, _, e, _⟩ | ⟨kvs, kds', rfl, e, r⟩
  · cases e
  · cases e; exact ⟨a, kvs, rfl, ha, r, av, nw⟩
theorem Own.kind {K : PySem.W.Frag} {wa : Option Addr} {Av : Addr → Prop} {H : Hp} {v : V} {d : D} (h : Own K wa Av H v d) : (∃ ds, d = .lst ds) ∨ ∃ kds, d = .dic kds := by
  obtain ⟨a, u, rfl, ha, h, av, nw⟩ := h
  rcases h with ⟨_, ds, _, e, _⟩ | ⟨_, kds, _, e, _⟩
  · exact .inl ⟨ds, e⟩
  · exact .inr ⟨kds, e⟩
def SlOk (K : PySem.W.Frag) (wa : Option Addr) (Av : Addr → Prop) (H : Hp) : Sl → Option (Option V) → Prop
  | .un, _ => True
  | .val d, some (some v) => Rep K wa Av H v d
  | .own d, some (some v) => Own K wa Av H v d
  | _, _ => False
structure RS (K : PySem.W.Frag) (F : Fr) (Av : Addr → Prop) (ρ : Env) (o : Or) (σ : L2.St) (H : Hp) : Prop where
  len : ρ.length = σ.length
  slot : ∀ i, SlOk K F.wa Av H (getS ρ i) σ[i]?
  inj : ∀ i j d e a, getS ρ i = .own d → getS ρ j = .own e → σ[i]? = some (some (.ref a)) → σ[j]? = some (some (.ref a)) → i = j
  orc : Orc K Av F.wa F.da o H
  keep : Kw F.wa F.H0 H
  new : ∀ i d a, getS ρ i = .own d → σ[i]? = some (some (.ref a)) → F.H0 a = none
  av0 : ∀ a, F.Av0 a → Av a
  th0 : ∀ a, F.Av0 a → F.H0 a ≠ none
  there : ∀ a, Av a → H a ≠ none
  waav : ∀ a, F.wa = some a → Av a
/-- a value that may be a list that a slot alone holds: to be read at once -/
def RepB (K : PySem.W.Frag) (wa : Option Addr) (Av : Addr → Prop) (H : Hp) (v : V) (d : D) : Prop := Rep K wa Av H v d ∨ Own K wa Av H v d

section
variable {K : PySem.W.Frag} {F : Fr} {Av Av' : Addr → Prop} {ρ : Env} {o o' : Or} {σ : L2.St} {H H' : Hp}
theorem getS_none : ∀ {ρ : Env} {i : Nat}, ρ.length ≤ i → getS ρ i = .un
  | [], _, _ => rfl
  | _ :: _, 0, h => absurd h (by simp)
  | _ :: r, i + 1, h => getS_none (ρ := r) (by simpa using h)
theorem setS_len : ∀ {ρ : Env} {i : Nat} {x : Sl}, (setS ρ i x).length = ρ.length
  | [], _, _ => rfl
  | _ :: _, 0, _ => rfl
  | _ :: r, i + 1, x => congrArg (· + 1) (setS_len (ρ := r))
theorem getS_setS : ∀ {ρ : Env} {i j : Nat} {x : Sl}, getS (setS ρ i x) j = if i = j ∧ j < ρ.length then x else getS ρ j
  | [], _, _, _ => by simp [setS, getS]
  | _ :: _, 0, 0, _ => by simp [setS, getS]
  | _ :: r, 0, j + 1, x => by simp [setS, getS]
  | _ :: r, i + 1, 0, x => by simp [setS, getS]
  | _ :: r, i + 1, j + 1, x => by
    show getS (setS r i x) j = _
    rw [getS_setS]
    simp [getS]
theorem Cv.kw (k : Kw F.wa H H') (rs : RS K F Av ρ o σ H) : Cv Av Av H H' := fun a u e n => ⟨k a u (fun z => n (rs.waav a z)) e, n⟩
theorem Cv.refl : Cv Av Av H H := fun _ _ e n => ⟨e, n⟩
theorem RS.lt_len (rs : RS K F Av ρ o σ H) {i : Nat} {d : D} (e : getS ρ i = .val d ∨ getS ρ i = .own d) : i < ρ.length := by
  by_cases h : i < ρ.length
  · exact h
  · rw [getS_none (by omega)] at e
    rcases e with e | e <;> cases e
theorem RS.val (rs : RS K F Av ρ o σ H) {i : Nat} {d : D} (e : getS ρ i = .val d) : ∃ v, σ[i]? = some (some v) ∧ Rep K F.wa Av H v d := by
  have h := rs.slot i
  rw [e] at h
  cases q : σ[i]? with
  | none => rw [q] at h; exact h.elim
  | some x =>
    cases x with
    | none => rw [q] at h; exact h.elim
    | some v => rw [q] at h; exact ⟨v, rfl, h⟩
theorem RS.ownG (rs : RS K F Av ρ o σ H) {i : Nat} {d : D} (e : getS ρ i = .own d) : ∃ a u, σ[i]? = some (some (.ref a)) ∧ H a = some u ∧ OwO K F.wa Av H u d ∧ Av a ∧ F.wa ≠ some a := by
  have h := rs.slot i
  rw [e] at h
  cases q : σ[i]? with
  | none => rw [q] at h; exact h.elim
  | some x =>
    cases x with
    | none => rw [q] at h; exact h.elim
    | some v =>
      rw [q] at h
      obtain ⟨a, u, rfl, h⟩ := h
      exact ⟨a, u, rfl, h⟩
theorem RS.own (rs : RS K F Av ρ o σ H) {i : Nat} {ds : List D} (e : getS ρ i = .own (.lst ds)) : ∃ a vs, σ[i]? = some (some (.ref a)) ∧ H a = some (.lst vs) ∧ Reps K F.wa Av H vs ds ∧ Av a ∧ F.wa ≠ some a := by
  obtain ⟨a, u, e1, h⟩ := rs.ownG e
  obtain ⟨a', vs, e2, h⟩ := Own.lst (v := .ref a) ⟨a, u, rfl, h⟩
  cases e2
  exact ⟨a, vs, e1, h⟩
theorem RS.own' (rs : RS K F Av ρ o σ H) {i : Nat} {d : D} (e : getS ρ i = .own d) : (∃ a vs ds, σ[i]? = some (some (.ref a)) ∧ d = .lst ds ∧ H a = some (.lst vs) ∧ Reps K F.wa Av H vs ds ∧ Av a ∧ F.wa ≠ some a) ∨ ∃ kds, d = .dic kds := by
  obtain ⟨a, u, e1, ha, h, av⟩ := rs.ownG e
  rcases h with ⟨vs, ds, rfl, rfl, r⟩ | ⟨kvs, kds, rfl, rfl, r⟩
  · exact .inl ⟨a, vs, ds, e1, rfl, ha, r, av⟩
  · exact .inr ⟨kds, rfl⟩
theorem RS.ownD (rs : RS K F Av ρ o σ H) {i : Nat} {kds : List (D × D)} (e : getS ρ i = .own (.dic kds)) : ∃ a kvs, σ[i]? = some (some (.ref a)) ∧ H a = some (.dK kvs) ∧ RepsK K F.wa Av H kvs kds ∧ Av a ∧ F.wa ≠ some a := by
  obtain ⟨a, u, e1, h⟩ := rs.ownG e
  obtain ⟨a', vs, e2, h⟩ := Own.dic (v := .ref a) ⟨a, u, rfl, h⟩
  cases e2
  exact ⟨a, vs, e1, h⟩
/-- another heap, the same owned objects, all else kept -/
theorem RS.heap (rs : RS K F Av ρ o σ H) (c : Cv Av Av' H H') (ow : ∀ a (u : HO), Av a → F.wa ≠ some a → H a = some u → H' a = some u) (hv : ∀ a, Av a → Av' a)
    (orc : Orc K Av' F.wa F.da o' H') (keep : Kw F.wa F.H0 H') (there : ∀ a, Av' a → H' a ≠ none) : RS K F Av' ρ o' σ H' where
  len := rs.len
  slot := fun i => by
    have h := rs.slot i
    cases q : getS ρ i with
    | un => trivial
    | val d =>
      obtain ⟨v, e, r⟩ := rs.val q
      rw [e]; exact r.cv c
    | own d =>
      obtain ⟨a, u, e, ha, r, av, nw⟩ := rs.ownG q
      rw [e]
      exact ⟨a, u, rfl, ow a u av nw ha, r.cv c, hv a av, nw⟩
  inj := rs.inj
  orc := orc
  keep := keep
  new := rs.new
  av0 := fun a h => hv a (rs.av0 a h)
  th0 := rs.th0
  there := there
  waav := fun a h => hv a (rs.waav a h)
theorem DaA.cv {da : Addr × Bool} {xs : List V} (h : DaA K Av H da xs) (c : Cv Av Av' H H') : DaA K Av' H' da xs := by
  unfold DaA at h ⊢
  split at h
  · rename_i e; rw [if_pos e]; exact h
  · rename_i e; rw [if_neg e]; exact c.rd h.1 h.2
theorem DaA.sq {da : Addr × Bool} {xs : List V} (h : DaA K Av H da xs) : SqL K H da.1 xs := by
  unfold DaA at h
  split at h
  · exact .inr h
  · exact .inl h.1
theorem Orc.cv {wa : Option Addr} {da : Addr × Bool} (h : Orc K Av wa da o H) (c : Cv Av Av' H H') (cw : ∀ a, wa = some a → ∀ u, H a = some u → H' a = some u) : Orc K Av' wa da o H' := by
  cases wa with
  | none => trivial
  | some a =>
    obtain ⟨n', ds, h1, h2, h3⟩ := h
    exact ⟨n', ds, cw a rfl _ h1, h2.cv c, h3⟩
/-- a new object -/
theorem RS.alloc (rs : RS K F Av ρ o σ H) {p : Addr} {u : HO} (hp : H p = none) : RS K F Av ρ o σ (upd H p u) := by
  have ne : ∀ {a : Addr} {x : HO}, H a = some x → a ≠ p := fun e => ne_of_none e hp
  have c : ∀ a x, H a = some x → upd H p u a = some x := fun a x e => by rw [upd_ne (ne e)]; exact e
  exact rs.heap (fun a x e n => ⟨c a x e, n⟩) (fun a vs _ _ e => c a _ e) (fun _ h => h) (rs.orc.cv (fun a x e n => ⟨c a x e, n⟩) fun a _ x e => c a x e) (rs.keep.trans fun b x _ e => c b x e)
    fun a h z => by
      cases q : H a with
      | none => exact rs.there a h q
      | some x => rw [c a x q] at z; cases z
theorem kw_alloc {wa : Option Addr} {p : Addr} {u : HO} (hp : H p = none) : Kw wa H (upd H p u) := fun b x _ e => by rw [upd_ne (ne_of_none e hp)]; exact e
theorem cv_alloc {p : Addr} {u : HO} (hp : H p = none) : Cv Av Av H (upd H p u) := fun b x e n => ⟨by rw [upd_ne (ne_of_none e hp)]; exact e, n⟩
theorem RS.notAv (rs : RS K F Av ρ o σ H) {p : Addr} (hp : H p = none) : ¬ Av p := fun h => rs.there p h hp
theorem RepB.cv (rs : RS K F Av ρ o σ H) (k : Kw F.wa H H') {v : V} {d : D} (r : RepB K F.wa Av H v d) : RepB K F.wa Av H' v d := by
  rcases r with r | ⟨a, u, rfl, h, q, av, nw⟩
  · exact .inl (r.cv (Cv.kw k rs))
  · exact .inr ⟨a, u, rfl, k a _ (fun z => nw z) h, q.cv (Cv.kw k rs), av, nw⟩
/-- a list to be read -/
theorem RepB.lst {v : V} {ds : List D} (r : RepB K F.wa Av H v (.lst ds)) : ∃ a vs, v = .ref a ∧ SqL K H a vs ∧ Reps K F.wa Av H vs ds := by
  rcases r with r | r
  · cases r with
    | lst h q => exact ⟨_, _, rfl, h.sq, q⟩
  · obtain ⟨a, vs, rfl, h, q, _, _⟩ := r.lst
    exact ⟨a, vs, rfl, SqL.of h, q⟩
theorem RepB.tup {v : V} {ds : List D} (r : RepB K F.wa Av H v (.tup ds)) : ∃ a vs, v = .ref a ∧ TpA K Av H a vs ∧ Reps K F.wa Av H vs ds := by
  rcases r with r | r
  · cases r with
    | tup h q => exact ⟨_, _, rfl, h, q⟩
  · rcases r.kind with ⟨_, e⟩ | ⟨_, e⟩ <;> cases e
theorem RepB.int {v : V} {i : Int} (r : RepB K F.wa Av H v (.int i)) : v = .int i := by
  rcases r with r | r
  · cases r; rfl
  · rcases r.kind with ⟨_, e⟩ | ⟨_, e⟩ <;> cases e
theorem RepB.bl {v : V} {i : Bool} (r : RepB K F.wa Av H v (.bool i)) : v = .bl i := by
  rcases r with r | r
  · cases r; rfl
  · rcases r.kind with ⟨_, e⟩ | ⟨_, e⟩ <;> cases e
theorem RepB.str {v : V} {i : List Nat} (r : RepB K F.wa Av H v (.str i)) : v = .str (cps i) := by
  rcases r with r | r
  · cases r; rfl
  · rcases r.kind with ⟨_, e⟩ | ⟨_, e⟩ <;> cases e
theorem RepB.non {v : V} (r : RepB K F.wa Av H v .non) : v = .non := by
  rcases r with r | r
  · cases r; rfl
  · rcases r.kind with ⟨_, e⟩ | ⟨_, e⟩ <;> cases e
/-- new lists and tuples -/
theorem Rep.newLst (rs : RS K F Av ρ o σ H) {p : Addr} (hp : H p = none) {vs : List V} {ds : List D} (r : Reps K F.wa Av H vs ds) : Rep K F.wa Av (upd H p (.lst vs)) (.ref p) (.lst ds) :=
  .lst (.inl ⟨.inl upd_same, rs.notAv hp⟩) (r.cv (cv_alloc hp))
theorem Rep.newTup (rs : RS K F Av ρ o σ H) {p : Addr} (hp : H p = none) {vs : List V} {ds : List D} (r : Reps K F.wa Av H vs ds) : Rep K F.wa Av (upd H p (.tup vs)) (.ref p) (.tup ds) :=
  .tup (.inl ⟨.inl upd_same, rs.notAv hp⟩) (r.cv (cv_alloc hp))
end
end BV

end
/-! text: BV3.lean -/
section
set_option maxRecDepth 100000
set_option autoImplicit false
set_option maxHeartbeats 4000000
namespace BV
open PySem PySem.Spec PyProof.Rows L2

/-! ### readings by the evaluator -/
structure Pg where
  C : Nat → List D → Or → R D
  XP : Nat → D → Value → Option Addr → Hp → Prop
section
variable (K : PySem.W.Frag) (g : Pg) (W : WX) (F : Fr) (Av : Addr → Prop) (ρ : Env) (σ : L2.St)
/-- what is to follow an evaluation; rep: what stands for the outcome -/
def goR {α β : Type} (rep : β → α → Hp → Prop) (H : Hp) : R α → (β → Hp → Prop) → Prop
  | .ok d o, Q => ∀ v H', RS K F Av ρ o σ H' → Kw F.wa H H' → rep v d H' → Q v H'
  | .exc c d o, _ => ∀ cls dx H', RS K F Av ρ o σ H' → Kw F.wa H H' → g.XP c d cls dx H' → W cls dx σ H'
  | .no, _ => False
end
section
variable {K : PySem.W.Frag} {g : Pg} {W : WX} {F : Fr} {Av : Addr → Prop} {ρ : Env} {σ : L2.St} {α β γ δ : Type} {rep : β → α → Hp → Prop} {rep2 : δ → γ → Hp → Prop} {H H' : Hp} {r : R α}
theorem goR.mono {Q Q' : β → Hp → Prop} (h : goR K g W F Av ρ σ rep H r Q) (m : ∀ v H', Q v H' → Q' v H') : goR K g W F Av ρ σ rep H r Q' := by
  cases r with
  | ok d o => exact fun v H' a b c => m _ _ (h v H' a b c)
  | exc c d o => exact h
  | no => exact h
theorem goR.later {Q : β → Hp → Prop} (h : goR K g W F Av ρ σ rep H r Q) (k : Kw F.wa H H') : goR K g W F Av ρ σ rep H' r Q := by
  cases r with
  | ok d o => exact fun v H'' a b c => h v H'' a (k.trans b) c
  | exc c d o => exact fun cls dx H'' a b c => h cls dx H'' a (k.trans b) c
  | no => exact h
/-- one evaluation, then another -/
theorem goR.bind {f : α → Or → R γ} {Q : δ → Hp → Prop} (h : goR K g W F Av ρ σ rep2 H (r.bind f) Q) :
    goR K g W F Av ρ σ rep H r (fun v H1 => ∃ d o1, r = .ok d o1 ∧ RS K F Av ρ o1 σ H1 ∧ Kw F.wa H H1 ∧ rep v d H1 ∧ goR K g W F Av ρ σ rep2 H1 (f d o1) Q) := by
  cases r with
  | ok d o => exact fun v H' a b c => ⟨d, o, rfl, a, b, c, goR.later h b⟩
  | exc c d o => exact h
  | no => exact h
theorem goR.imp {rep' : β → α → Hp → Prop} {Q : β → Hp → Prop} (h : goR K g W F Av ρ σ rep' H r Q) (m : ∀ v d H', rep v d H' → rep' v d H') : goR K g W F Av ρ σ rep H r Q := by
  cases r with
  | ok d o => exact fun v H' a b c => h v H' a b (m _ _ _ c)
  | exc c d o => exact h
  | no => exact h
end

/-- an expression's reading; one that may be a slot's own list; arguments; a test -/
def tI (K : PySem.W.Frag) (g : Pg) (W : WX) (e : IE) : TE := fun σ H Q => ∃ F Av ρ o, RS K F Av ρ o σ H ∧ goR K g W F Av ρ σ (fun v d H' => Rep K F.wa Av H' v d) H (evE g.C e ρ o) Q
def tIB (K : PySem.W.Frag) (g : Pg) (W : WX) (e : IE) : TE := fun σ H Q => ∃ F Av ρ o, RS K F Av ρ o σ H ∧ goR K g W F Av ρ σ (fun v d H' => RepB K F.wa Av H' v d) H (evE g.C e ρ o) Q
def tIs (K : PySem.W.Frag) (g : Pg) (W : WX) (es : List IE) : TA := fun σ H Q => ∃ F Av ρ o, RS K F Av ρ o σ H ∧ goR K g W F Av ρ σ (fun v d H' => Reps K F.wa Av H' v d) H (evEs g.C es ρ o) Q
def tIBs (K : PySem.W.Frag) (g : Pg) (W : WX) (es : List IE) : TA := fun σ H Q => ∃ F Av ρ o, RS K F Av ρ o σ H ∧ goR K g W F Av ρ σ (fun v d H' => Paired (RepB K F.wa Av H') v d) H (evEs g.C es ρ o) Q
def tIT (K : PySem.W.Frag) (g : Pg) (W : WX) (e : IE) : TT := fun σ H Q => ∃ F Av ρ o, RS K F Av ρ o σ H ∧ goR K g W F Av ρ σ (fun (b d : Bool) _ => b = d) H (evE g.C e ρ o).tst Q
abbrev BE (X : Cx) (g : Pg) (W : WX) (e : Expr) (ie : IE) : Prop := PE X e (tI X.K g W ie)
abbrev BB (X : Cx) (g : Pg) (W : WX) (e : Expr) (ie : IE) : Prop := PE X e (tIB X.K g W ie)
abbrev BA (X : Cx) (g : Pg) (W : WX) (es : List Expr) (is : List IE) : Prop := PA X es (tIs X.K g W is)
abbrev BAB (X : Cx) (g : Pg) (W : WX) (es : List Expr) (is : List IE) : Prop := PA X es (tIBs X.K g W is)
abbrev BT (X : Cx) (g : Pg) (W : WX) (e : Expr) (ie : IE) : Prop := PT X e (tIT X.K g W ie)
theorem peW {X : Cx} {e : Expr} {t t' : TE} (h : PE X e t) (w : ∀ σ H Q, t' σ H Q → t σ H Q) : PE X e t' := ⟨fun pins s σ H Q I q => h.run pins s σ H Q I (w σ H Q q)⟩
theorem paW {X : Cx} {e : List Expr} {t t' : TA} (h : PA X e t) (w : ∀ σ H Q, t' σ H Q → t σ H Q) : PA X e t' := ⟨fun pos pins s σ H Q I q => h.run pos pins s σ H Q I (w σ H Q q)⟩
theorem ptW {X : Cx} {e : Expr} {t t' : TT} (h : PT X e t) (w : ∀ σ H Q, t' σ H Q → t σ H Q) : PT X e t' := ⟨fun pins s σ H Q I q => h.run pins s σ H Q I (w σ H Q q)⟩
section
variable {X : Cx} {g : Pg} {W : WX} {e a b c : Expr} {es : List Expr} {ie ia ib ic : IE} {is : List IE} {pos : Pos}
theorem BB.of (h : BE X g W e ie) : BB X g W e ie := peW h fun σ H Q ⟨F, Av, ρ, o, rs, q⟩ => ⟨F, Av, ρ, o, rs, q.imp fun _ _ _ r => .inl r⟩
theorem be_nil : BA X g W [] [] := paW pa_nil fun σ H Q ⟨F, Av, ρ, o, rs, q⟩ => q [] H rs (Kw.refl _ _) .nil
theorem be_nilB : BAB X g W [] [] := paW pa_nil fun σ H Q ⟨F, Av, ρ, o, rs, q⟩ => q [] H rs (Kw.refl _ _) .nil
theorem be_cons (ha : BE X g W e ie) (hr : BA X g W es is) (hs : starEach (e :: es) X.env = (false, eval e X.env) :: starEach es X.env := by rfl) : BA X g W (e :: es) (ie :: is) := by
  refine paW (pa_cons ha hr hs) fun σ H Q ⟨F, Av, ρ, o, rs, q⟩ => ⟨F, Av, ρ, o, rs, ?_⟩
  rw [evEs] at q
  refine q.bind.mono fun v H1 ⟨d, o1, e1, rs1, k1, r1, q1⟩ => ⟨F, Av, ρ, o1, rs1, ?_⟩
  exact q1.bind.mono fun vs H2 ⟨ds, o2, e2, rs2, k2, r2, q2⟩ => q2 (v :: vs) H2 rs2 (Kw.refl _ _) (.cons (r1.cv (Cv.kw k2 rs1)) r2)
theorem be_consB (ha : BB X g W e ie) (hr : BAB X g W es is) (hs : starEach (e :: es) X.env = (false, eval e X.env) :: starEach es X.env := by rfl) : BAB X g W (e :: es) (ie :: is) := by
  refine paW (pa_cons ha hr hs) fun σ H Q ⟨F, Av, ρ, o, rs, q⟩ => ⟨F, Av, ρ, o, rs, ?_⟩
  rw [evEs] at q
  refine q.bind.mono fun v H1 ⟨d, o1, e1, rs1, k1, r1, q1⟩ => ⟨F, Av, ρ, o1, rs1, ?_⟩
  exact q1.bind.mono fun vs H2 ⟨ds, o2, e2, rs2, k2, r2, q2⟩ => q2 (v :: vs) H2 rs2 (Kw.refl _ _) (.cons (RepB.cv rs1 k2 r1) r2)

/-! ### names, constants -/
theorem be_var (i : Nat) {x : Str} (hN : X.N[i]? = some x := by rfl) (hv : Vis X.env.scope x := by first | exact Or.inl rfl | exact Or.inr (Or.inl rfl) | exact Or.inr (Or.inr rfl)) (hd : (x == ("__debug__" : Str)) = false := by decide)
    (hcd : (x == ("__classdict__" : Str)) = false := by decide) : BE X g W (.Name x pos) (.var i) := by
  refine peW (pe_var (i := i) hN hv hd hcd) fun σ H Q ⟨F, Av, ρ, o, rs, q⟩ => ?_
  rw [evE] at q
  cases e : getS ρ i with
  | un => rw [e] at q; exact q.elim
  | own d => rw [e] at q; exact q.elim
  | val d =>
    rw [e] at q
    obtain ⟨v, e2, r⟩ := rs.val e
    exact ⟨v, e2, q v H rs (Kw.refl _ _) r⟩
theorem be_pk (i : Nat) {x : Str} (hN : X.N[i]? = some x := by rfl) (hv : Vis X.env.scope x := by first | exact Or.inl rfl | exact Or.inr (Or.inl rfl) | exact Or.inr (Or.inr rfl)) (hd : (x == ("__debug__" : Str)) = false := by decide)
    (hcd : (x == ("__classdict__" : Str)) = false := by decide) : BB X g W (.Name x pos) (.pk i) := by
  refine peW (pe_var (i := i) hN hv hd hcd) fun σ H Q ⟨F, Av, ρ, o, rs, q⟩ => ?_
  rw [evE] at q
  cases e : getS ρ i with
  | un => rw [e] at q; exact q.elim
  | own d =>
    rw [e] at q
    obtain ⟨a, u, e2, r⟩ := rs.ownG e
    exact ⟨_, e2, q _ H rs (Kw.refl _ _) (.inr ⟨a, u, rfl, r⟩)⟩
  | val d =>
    rw [e] at q
    obtain ⟨v, e2, r⟩ := rs.val e
    exact ⟨v, e2, q v H rs (Kw.refl _ _) (.inl r)⟩
theorem be_cst {d : D} {v : V} (h : PE X e (tC v)) (r : ∀ K wa Av H, Rep K wa Av H v d) : BE X g W e (.cst d) :=
  peW h fun σ H Q ⟨F, Av, ρ, o, rs, q⟩ => q v H rs (Kw.refl _ _) (r _ _ _ _)
theorem be_int {i j} : BE X g W (.Constant (.int i) j pos) (.cst (.int i)) := be_cst pe_int fun _ _ _ _ => .int i
theorem be_bl {b j} : BE X g W (.Constant (.bool b) j pos) (.cst (.bool b)) := be_cst pe_bl fun _ _ _ _ => .bl b
theorem be_non {j} : BE X g W (.Constant .none j pos) (.cst .non) := be_cst pe_non fun _ _ _ _ => .non
theorem be_str {s : List Nat} {x : Str} {j} (h : x = cps s := by rfl) : BE X g W (.Constant (.str x) j pos) (.cst (.str s)) := by
  subst h
  exact be_cst pe_str fun _ _ _ _ => .str s

/-! ### operators -/
/-- an operation on values does what op does on what they stand for -/
def rB (K : PySem.W.Frag) (op : D → D → Option D) : R2 := fun x y H Q => ∃ F Av ρ o σ d e z, RS K F Av ρ o σ H ∧ RepB K F.wa Av H x d ∧ RepB K F.wa Av H y e ∧ op d e = some z ∧
  ∀ w H', RS K F Av ρ o σ H' → Kw F.wa H H' → Rep K F.wa Av H' w z → Q w H'
def rU1 (K : PySem.W.Frag) (op : D → Option D) : V → Hp → VK → Prop := fun x H Q => ∃ F Av ρ o σ d z, RS K F Av ρ o σ H ∧ RepB K F.wa Av H x d ∧ op d = some z ∧
  ∀ w H', RS K F Av ρ o σ H' → Kw F.wa H H' → Rep K F.wa Av H' w z → Q w H'
theorem goR_of {K : PySem.W.Frag} {F : Fr} {Av : Addr → Prop} {ρ : Env} {σ : L2.St} {α β : Type} {rep : β → α → Hp → Prop} {H : Hp} {z : Option α} {o : Or} {Q : β → Hp → Prop} (h : goR K g W F Av ρ σ rep H (R.of z o) Q) :
    ∃ y, z = some y ∧ ∀ w H', RS K F Av ρ o σ H' → Kw F.wa H H' → rep w y H' → Q w H' := by
  cases z with
  | none => exact h.elim
  | some y => exact ⟨y, rfl, h⟩
theorem rB_of {op : O2} (ha : BB X g W a ia) (hb : BB X g W b ib) {σ : L2.St} {H : Hp} {Q : VK} (h : tI X.K g W (.op2 op ia ib) σ H Q) : tOp (rB X.K (op2 op)) (tIB X.K g W ia) (tIB X.K g W ib) σ H Q := by
  obtain ⟨F, Av, ρ, o, rs, q⟩ := h
  rw [evE] at q
  refine ⟨F, Av, ρ, o, rs, q.bind.mono fun v H1 ⟨d, o1, e1, rs1, k1, r1, q1⟩ => ⟨F, Av, ρ, o1, rs1, q1.bind.mono fun u H2 ⟨d2, o2, e2, rs2, k2, r2, q2⟩ => ?_⟩⟩
  obtain ⟨z, hz, q3⟩ := goR_of q2
  exact ⟨F, Av, ρ, o2, σ, d, d2, z, rs2, RepB.cv rs1 k2 r1, r2, hz, q3⟩
theorem be_op {op : O2} {bop : Operator} (ho : OpR X (binaryOp bop) (rB X.K (op2 op))) (ha : BB X g W a ia) (hb : BB X g W b ib) : BE X g W (.BinOp a bop b pos) (.op2 op ia ib) :=
  peW (pe_op ho ha hb) fun _ _ _ h => rB_of ha hb h
theorem be_cmp {op : O2} {cop : CmpOp} (ho : OpR X (compareOp cop) (rB X.K (op2 op))) (ha : BB X g W a ia) (hb : BB X g W b ib) (hm : behindInMarks cop b = false) : BE X g W (.Compare a [cop] [b] pos) (.op2 op ia ib) :=
  peW (pe_cmpR ho ha hb hm) fun _ _ _ h => rB_of ha hb h
theorem be_chn {op oq : O2} {cop coq : CmpOp} (ho : OpR X (compareOp cop) (rB X.K (op2 op))) (hq : OpR X (compareOp coq) (rB X.K (op2 oq))) (ha : BB X g W a ia) (hb : BB X g W b ib) (hc : BB X g W c ic)
    (hm : lastMarks [cop, coq] [b, c] = false := by rfl) : BE X g W (.Compare a [cop, coq] [b, c] pos) (.chn op oq ia ib ic) := by
  refine peW (pe_chain ho hq ha hb hc hm) fun σ H Q ⟨F, Av, ρ, o, rs, q⟩ => ?_
  rw [evE] at q
  refine ⟨F, Av, ρ, o, rs, q.bind.mono fun v H1 ⟨d, o1, e1, rs1, k1, r1, q1⟩ => ⟨F, Av, ρ, o1, rs1, q1.bind.mono fun u H2 ⟨d2, o2, e2, rs2, k2, r2, q2⟩ => ?_⟩⟩
  cases hz : op2 op d d2 with
  | none => rw [hz] at q2; exact q2.elim
  | some z =>
    rw [hz] at q2
    simp only [R.of_some, R.bind_ok] at q2
    refine ⟨F, Av, ρ, o2, σ, d, d2, z, rs2, RepB.cv rs1 k2 r1, r2, hz, fun w H3 rs3 k3 r3 => ?_⟩
    cases z with
    | bool t =>
      cases r3
      refine ⟨t, rfl, ?_⟩
      cases t with
      | false => exact q2 _ H3 rs3 k3 (.bl false)
      | true =>
        refine ⟨F, Av, ρ, o2, rs3, (q2.later k3).bind.mono fun x H4 ⟨d4, o4, e4, rs4, k4, r4, q4⟩ => ?_⟩
        obtain ⟨z, hz, q5⟩ := goR_of q4
        exact ⟨F, Av, ρ, o4, σ, d2, d4, z, rs4, RepB.cv rs2 (k3.trans k4) r2, r4, hz, q5⟩
    | _ => exact q2.elim
theorem be_un {u : O1} {uop : UnaryOp} (ho : UnR X (unaryOp uop) (rU1 X.K (op1 u))) (ha : BB X g W a ia) : BE X g W (.UnaryOp uop a pos) (.op1 u ia) := by
  refine peW (pe_un ho ha) fun σ H Q ⟨F, Av, ρ, o, rs, q⟩ => ?_
  rw [evE] at q
  refine ⟨F, Av, ρ, o, rs, q.bind.mono fun v H1 ⟨d, o1, e1, rs1, k1, r1, q1⟩ => ?_⟩
  obtain ⟨z, hz, q3⟩ := goR_of q1
  exact ⟨F, Av, ρ, o1, σ, d, z, rs1, r1, hz, q3⟩

end
end BV

end
/-! text: BV4.lean -/
section
set_option maxRecDepth 100000
set_option autoImplicit false
set_option maxHeartbeats 4000000
namespace BV
open PySem PySem.Spec PyProof.Rows L2
section
variable {X : Cx} {g : Pg} {W : WX} {e a b c : Expr} {es rest : List Expr} {ie ia ib ic : IE} {is : List IE} {pos : Pos}

/-! ### tests -/
theorem goR.test {K : PySem.W.Frag} {F : Fr} {Av : Addr → Prop} {ρ : Env} {σ : L2.St} {γ δ : Type} {rep2 : δ → γ → Hp → Prop} {H : Hp} {r : R D} {f : Bool → D → Or → R γ} {Q : δ → Hp → Prop}
    (h : goR K g W F Av ρ σ rep2 H (r.test f) Q) :
    goR K g W F Av ρ σ (fun (b d : Bool) _ => b = d) H r.tst (fun b H1 => ∃ d o1, r = .ok d o1 ∧ RS K F Av ρ o1 σ H1 ∧ Kw F.wa H H1 ∧ truth d = some b ∧ goR K g W F Av ρ σ rep2 H1 (f b d o1) Q) := by
  cases r with
  | no => exact h
  | exc c d o => exact h
  | ok d o =>
    simp only [R.tst, R.test, R.bind_ok] at h ⊢
    cases t : truth d with
    | none => rw [t] at h; exact h.elim
    | some b =>
      rw [t] at h
      rintro v H' rs k rfl
      exact ⟨d, o, rfl, rs, k, t, goR.later h k⟩
/-- .. with what it stands for -/
theorem goR.testV {K : PySem.W.Frag} {F : Fr} {Av : Addr → Prop} {ρ : Env} {σ : L2.St} {γ δ : Type} {rep2 : δ → γ → Hp → Prop} {rep : V → D → Hp → Prop} {H : Hp} {r : R D} {f : Bool → D → Or → R γ} {Q : δ → Hp → Prop}
    (h : goR K g W F Av ρ σ rep2 H (r.test f) Q) :
    goR K g W F Av ρ σ rep H r (fun v H1 => ∃ d o1 b, r = .ok d o1 ∧ RS K F Av ρ o1 σ H1 ∧ Kw F.wa H H1 ∧ rep v d H1 ∧ truth d = some b ∧ goR K g W F Av ρ σ rep2 H1 (f b d o1) Q) := by
  refine (goR.bind (rep := rep) h).mono fun v H1 ⟨d, o1, e1, rs1, k1, rp, q⟩ => ?_
  cases t : truth d with
  | none => rw [t] at q; exact q.elim
  | some b => rw [t] at q; exact ⟨d, o1, b, e1, rs1, k1, rp, t, q⟩
theorem truth_ok {F : Fr} {Av : Addr → Prop} {ρ : Env} {o : Or} {σ : L2.St} {H : Hp} (rs : RS X.K F Av ρ o σ H) {v : V} {d : D} {k : Bool} (r : RepB X.K F.wa Av H v d) (t : truth d = some k) : TruV X.K v H k := by
  cases d with
  | non => rw [r.non]; simp only [truth, Option.some.injEq] at t; exact t.symm
  | bool b => rw [r.bl]; simp only [truth, Option.some.injEq] at t; exact t.symm
  | int i => rw [r.int]; simp only [truth, Option.some.injEq] at t; exact t.symm
  | str s =>
    rw [r.str]
    have hs : s.length ≤ cap := by
      by_cases h : s.length ≤ cap
      · exact h
      · simp [truth, h] at t
    simp only [truth, if_pos hs, Option.some.injEq] at t
    refine ⟨hs, ?_⟩
    subst t
    cases s with
    | nil => rfl
    | cons x y =>
      show true = _
      symm
      simp [cps, Str.length]
      omega
  | tup ds =>
    obtain ⟨a, vs, rfl, h, q⟩ := r.tup
    simp only [truth, Option.some.injEq] at t
    subst t
    refine .inr (.inl ⟨vs, h.sq, ?_⟩)
    cases q <;> rfl
  | lst ds =>
    obtain ⟨a, vs, rfl, h, q⟩ := r.lst
    simp only [truth, Option.some.injEq] at t
    subst t
    refine .inl ⟨vs, h, ?_⟩
    cases q <;> rfl
  | dic k =>
    rcases r with r | r
    · cases r with
      | dic h q =>
        simp only [truth, Option.some.injEq] at t
        subst t
        refine .inr (.inr ⟨_, h.1, ?_⟩)
        cases q <;> rfl
    · obtain ⟨a, kvs, rfl, h, q, _⟩ := r.dic
      simp only [truth, Option.some.injEq] at t
      subst t
      refine .inr (.inr ⟨kvs, h, ?_⟩)
      cases q <;> rfl
  | tok => simp [truth] at t
/-- an expression of any kind as a test -/
theorem bt_val (ha : BB X g W a ia) (he : ∀ whole, isTrue a X.env whole = (do let v ← whole; standAt a.pos; holding [v] (truthy v)) := by intro _; rfl) : BT X g W a ia := by
  refine ptW (pt_truth ha he) fun σ H Q ⟨F, Av, ρ, o, rs, q⟩ => ⟨F, Av, ρ, o, rs, ?_⟩
  refine (goR.testV q).mono fun v H1 ⟨d, o1, b, e1, rs1, k1, rp, t, q1⟩ => ⟨b, truth_ok rs1 rp t, q1 b H1 rs1 (Kw.refl _ _) rfl⟩
def isCmp : O2 → Bool
  | .eq | .ne | .lt | .le | .gt | .ge | .isIn | .notIn | .is | .isNot | .inD | .ninD => true
  | _ => false
theorem cmp_bool {op : O2} (h : isCmp op = true) {d e z : D} (q : op2 op d e = some z) : ∃ b, z = .bool b := by
  cases op <;> simp only [isCmp, reduceCtorEq, Bool.false_eq_true] at h <;> simp only [op2] at q
  case eq => cases t : eqO d e <;> rw [t] at q <;> simp at q; exact ⟨_, q.symm⟩
  case ne => cases t : eqO d e <;> rw [t] at q <;> simp at q; exact ⟨_, q.symm⟩
  case isIn => cases t : inO d e <;> rw [t] at q <;> simp at q; exact ⟨_, q.symm⟩
  case notIn => cases t : inO d e <;> rw [t] at q <;> simp at q; exact ⟨_, q.symm⟩
  case inD => cases t : inDO d e <;> rw [t] at q <;> simp at q; exact ⟨_, q.symm⟩
  case ninD => cases t : inDO d e <;> rw [t] at q <;> simp at q; exact ⟨_, q.symm⟩
  all_goals
    split at q <;> first
      | (simp only [Option.some.injEq] at q; exact ⟨_, q.symm⟩)
      | cases q
theorem bt_cmp {op : O2} {cop : CmpOp} (ho : OpR X (compareOp cop) (rB X.K (op2 op))) (ha : BB X g W a ia) (hb : BB X g W b ib) (hm : behindInMarks cop b = false) (hc : isCmp op = true := by rfl) : BT X g W (.Compare a [cop] [b] pos) (.op2 op ia ib) := by
  refine ptW (pt_cmpR ho ha hb hm) fun σ H Q ⟨F, Av, ρ, o, rs, q⟩ => ?_
  refine rB_of ha hb ⟨F, Av, ρ, o, rs, (goR.testV q).mono fun v H1 ⟨d, o1, b, e1, rs1, k1, rp, t, q1⟩ => ?_⟩
  rw [evE] at e1
  have : ∃ b, d = .bool b := by
    cases q2 : evE g.C ia ρ o with
    | no => rw [q2] at e1; cases e1
    | exc _ _ _ => rw [q2] at e1; cases e1
    | ok d1 o1 =>
      rw [q2, R.bind_ok] at e1
      cases q3 : evE g.C ib ρ o1 with
      | no => rw [q3] at e1; cases e1
      | exc _ _ _ => rw [q3] at e1; cases e1
      | ok d2 o2 =>
        rw [q3, R.bind_ok] at e1
        cases q4 : op2 op d1 d2 with
        | none => rw [q4] at e1; cases e1
        | some z => rw [q4] at e1; cases e1; exact cmp_bool hc q4
  obtain ⟨b', rfl⟩ := this
  cases rp
  simp only [truth, Option.some.injEq] at t
  subst t
  exact ⟨_, rfl, q1 _ H1 rs1 (Kw.refl _ _) rfl⟩
abbrev BW (X : Cx) (g : Pg) (W : WX) (e : Expr) (ie : IE) : Prop := PW X e (tIT X.K g W ie)
theorem pwW {X : Cx} {e : Expr} {t t' : TT} (h : PW X e t) (w : ∀ σ H Q, t' σ H Q → t σ H Q) : PW X e t' := ⟨fun wh pins s σ H Q I q => h.run wh pins s σ H Q I (w σ H Q q)⟩
theorem bw_and1 (ha : BT X g W a ia) : BW X g W (.BoolOp .And [a] pos) ia := pw_and1 ha
theorem bw_or1 (ha : BT X g W a ia) : BW X g W (.BoolOp .Or [a] pos) ia := pw_or1 ha
theorem tst_and {C : Nat → List D → Or → R D} {ρ : Env} {o : Or} : (evE C (.and ia ib) ρ o).tst = (evE C ia ρ o).test fun t x o => if t then (evE C ib ρ o).tst else .ok false o := by
  rw [evE]
  cases evE C ia ρ o with
  | no => rfl
  | exc _ _ _ => rfl
  | ok d o =>
    simp only [R.tst, R.test, R.bind_ok]
    cases t : truth d with
    | none => rfl
    | some b =>
      cases b with
      | true => rfl
      | false => simp [t]
theorem tst_or {C : Nat → List D → Or → R D} {ρ : Env} {o : Or} : (evE C (.or ia ib) ρ o).tst = (evE C ia ρ o).test fun t x o => if t then .ok true o else (evE C ib ρ o).tst := by
  rw [evE]
  cases evE C ia ρ o with
  | no => rfl
  | exc _ _ _ => rfl
  | ok d o =>
    simp only [R.tst, R.test, R.bind_ok]
    cases t : truth d with
    | none => rfl
    | some b =>
      cases b with
      | false => rfl
      | true => simp [t]
theorem bw_and (ha : BT X g W a ia) (hb : BW X g W (.BoolOp .And (b :: rest) pos) ib) : BW X g W (.BoolOp .And (a :: b :: rest) pos) (.and ia ib) := by
  refine pwW (pw_and ha hb) fun σ H Q ⟨F, Av, ρ, o, rs, q⟩ => ?_
  rw [tst_and] at q
  refine ⟨F, Av, ρ, o, rs, (goR.test q).mono fun b H1 ⟨d, o1, e1, rs1, k1, t, q1⟩ => ?_⟩
  cases b with
  | true => exact ⟨F, Av, ρ, o1, rs1, q1⟩
  | false => exact q1 false H1 rs1 (Kw.refl _ _) rfl
theorem bw_or (ha : BT X g W a ia) (hb : BW X g W (.BoolOp .Or (b :: rest) pos) ib) : BW X g W (.BoolOp .Or (a :: b :: rest) pos) (.or ia ib) := by
  refine pwW (pw_or ha hb) fun σ H Q ⟨F, Av, ρ, o, rs, q⟩ => ?_
  rw [tst_or] at q
  refine ⟨F, Av, ρ, o, rs, (goR.test q).mono fun b H1 ⟨d, o1, e1, rs1, k1, t, q1⟩ => ?_⟩
  cases b with
  | false => exact ⟨F, Av, ρ, o1, rs1, q1⟩
  | true => exact q1 true H1 rs1 (Kw.refl _ _) rfl
theorem bt_not (ha : BT X g W a ia) : BT X g W (.UnaryOp .Not a pos) (.op1 .not ia) := by
  refine ptW (pt_not ha) fun σ H Q ⟨F, Av, ρ, o, rs, q⟩ => ⟨F, Av, ρ, o, rs, ?_⟩
  rw [evE] at q
  generalize evE g.C ia ρ o = r at q
  cases r with
  | no => exact q
  | exc c d o' => exact q
  | ok d o' =>
    simp only [R.bind_ok, op1, R.tst, R.test] at q ⊢
    cases t : truth d with
    | none => rw [t] at q; exact q.elim
    | some b =>
      rw [t] at q
      simp only [Option.map_some, R.of_some, R.bind_ok, truth] at q
      rintro v H' rs' k' rfl
      exact q _ H' rs' k' rfl

/-! ### and, or, not, if as values -/
theorem be_and1 (ha : BE X g W a ia) : BE X g W (.BoolOp .And [a] pos) ia := peW (pe_one ha) fun _ _ _ h => h
theorem be_or1 (ha : BE X g W a ia) : BE X g W (.BoolOp .Or [a] pos) ia := peW (pe_one ha) fun _ _ _ h => h
theorem be_and (ha : BE X g W a ia) (hb : BE X g W (.BoolOp .And (b :: rest) pos) ib) : BE X g W (.BoolOp .And (a :: b :: rest) pos) (.and ia ib) := by
  refine peW (pe_andT ha hb) fun σ H Q ⟨F, Av, ρ, o, rs, q⟩ => ?_
  rw [evE] at q
  refine ⟨F, Av, ρ, o, rs, (goR.testV q).mono fun v H1 ⟨d, o1, b, e1, rs1, k1, rp, t, q1⟩ => ⟨b, truth_ok rs1 (.inl rp) t, ?_⟩⟩
  cases b with
  | true => exact ⟨F, Av, ρ, o1, rs1, q1⟩
  | false => exact q1 v H1 rs1 (Kw.refl _ _) rp
theorem be_or (ha : BE X g W a ia) (hb : BE X g W (.BoolOp .Or (b :: rest) pos) ib) : BE X g W (.BoolOp .Or (a :: b :: rest) pos) (.or ia ib) := by
  refine peW (pe_orT ha hb) fun σ H Q ⟨F, Av, ρ, o, rs, q⟩ => ?_
  rw [evE] at q
  refine ⟨F, Av, ρ, o, rs, (goR.testV q).mono fun v H1 ⟨d, o1, b, e1, rs1, k1, rp, t, q1⟩ => ⟨b, truth_ok rs1 (.inl rp) t, ?_⟩⟩
  cases b with
  | false => exact ⟨F, Av, ρ, o1, rs1, q1⟩
  | true => exact q1 v H1 rs1 (Kw.refl _ _) rp
theorem be_not (ha : BB X g W a ia) : BE X g W (.UnaryOp .Not a pos) (.op1 .not ia) := by
  refine peW (pe_notT ha) fun σ H Q ⟨F, Av, ρ, o, rs, q⟩ => ?_
  rw [evE] at q
  refine ⟨F, Av, ρ, o, rs, q.bind.mono fun v H1 ⟨d, o1, e1, rs1, k1, rp, q1⟩ => ?_⟩
  cases t : truth d with
  | none => simp only [op1, t] at q1; exact q1.elim
  | some b =>
    simp only [op1, t, Option.map_some, R.of_some] at q1
    exact ⟨b, truth_ok rs1 rp t, q1 _ H1 rs1 (Kw.refl _ _) (.bl _)⟩
theorem be_ite (hc : BT X g W c ic) (ha : BE X g W a ia) (hb : BE X g W b ib) : BE X g W (.IfExp c a b pos) (.ite ic ia ib) := by
  refine peW (pe_ifExp hc ha hb) fun σ H Q ⟨F, Av, ρ, o, rs, q⟩ => ?_
  rw [evE] at q
  refine ⟨F, Av, ρ, o, rs, (goR.test q).mono fun b H1 ⟨d, o1, e1, rs1, k1, t, q1⟩ => ?_⟩
  cases b with
  | true => exact ⟨F, Av, ρ, o1, rs1, q1⟩
  | false => exact ⟨F, Av, ρ, o1, rs1, q1⟩

/-! ### displays -/
theorem evEs_length {C : Nat → List D → Or → R D} {ρ : Env} : ∀ {is : List IE} {o o' : Or} {ds : List D}, evEs C is ρ o = .ok ds o' → ds.length = is.length
  | [], _, _, _, h => by rw [evEs] at h; cases h; rfl
  | i :: is, o, o', ds, h => by
    rw [evEs] at h
    cases q : evE C i ρ o with
    | no => rw [q] at h; cases h
    | exc _ _ _ => rw [q] at h; cases h
    | ok d o1 =>
      rw [q, R.bind_ok] at h
      cases q2 : evEs C is ρ o1 with
      | no => rw [q2] at h; cases h
      | exc _ _ _ => rw [q2] at h; cases h
      | ok es o2 =>
        rw [q2, R.bind_ok] at h
        cases h
        rw [List.length_cons, List.length_cons, evEs_length q2]
theorem le_line {n : Nat} (h : n ≤ 1000) : n ≤ sizeLine := by rw [sizeLine_eq]; omega
theorem be_tup {x1} (h : BA X g W es is) (hl : is.length ≤ 1000 := by decide) : BE X g W (.Tuple es x1 pos) (.tup is) := by
  refine peW (pe_tup h) fun σ H Q ⟨F, Av, ρ, o, rs, q⟩ => ?_
  rw [evE] at q
  refine ⟨F, Av, ρ, o, rs, q.bind.mono fun vs H1 ⟨ds, o1, e1, rs1, k1, r1, q1⟩ => ⟨?_, fun p hp => ?_⟩⟩
  · rw [r1.length, evEs_length e1]; exact le_line hl
  · exact q1 _ _ (rs1.alloc hp) (kw_alloc hp) (Rep.newTup rs1 hp r1)
theorem be_lst (h : BA X g W es is) (hl : is.length ≤ 1000 := by decide) : BE X g W (.List es pos) (.lst is) := by
  refine peW (pe_lst h) fun σ H Q ⟨F, Av, ρ, o, rs, q⟩ => ?_
  rw [evE] at q
  refine ⟨F, Av, ρ, o, rs, q.bind.mono fun vs H1 ⟨ds, o1, e1, rs1, k1, r1, q1⟩ => ⟨?_, fun p hp => ?_⟩⟩
  · rw [r1.length, evEs_length e1]; exact le_line hl
  · exact q1 _ _ (rs1.alloc hp) (kw_alloc hp) (Rep.newLst rs1 hp r1)
end
end BV

end
/-! text: BV5.lean -/
section
set_option maxRecDepth 100000
set_option autoImplicit false
set_option maxHeartbeats 4000000
namespace BV
open PySem PySem.Spec PyProof.Rows L2

theorem cap_eq : cap = sizeLine := by rw [sizeLine_eq]; rfl
/-! ### data as the library has it -/
mutual
def toPy : D → PyData
  | .non => .none
  | .bool b => .bool b
  | .int i => .int i
  | .str s => .str (cps s)
  | .tup xs => .tuple (toPys xs)
  | .lst xs => .list (toPys xs)
  | .dic _ => .none
  | .tok => .none
def toPys : List D → List PyData
  | [] => []
  | x :: xs => toPy x :: toPys xs
end
theorem okN_dp {K : PySem.W.Frag} {wa : Option Addr} {Av : Addr → Prop} {H : Hp} : ∀ (n : Nat) {v : V} {d : D}, okN n d = true → Rep K wa Av H v d → Dp K H v (toPy d) := by
  intro n
  induction n with
  | zero =>
    intro v d h r
    cases r <;> simp only [okN, Bool.false_eq_true] at h <;> constructor
  | succ n ih =>
    have all : ∀ {ds : List D} {vs : List V}, ds.all (okN n) = true → Reps K wa Av H vs ds → DpAll K H vs (toPys ds) := by
      intro ds
      induction ds with
      | nil => intro vs _ r; cases r; exact .nil
      | cons d ds ih2 =>
        intro vs h r
        rw [List.all_cons, Bool.and_eq_true] at h
        cases r with
        | cons r1 r2 => exact .cons (ih h.1 r1) (ih2 h.2 r2)
    intro v d h r
    cases r with
    | non => exact .non
    | bl b => exact .bl b
    | int i => exact .int i
    | str s => exact .str _
    | lst h1 r1 => exact .lst h1.sq (all (by simpa [okN] using h) r1)
    | tup h1 r1 => exact .tup h1.sq (all (by simpa [okN] using h) r1)
    | dic _ _ => simp [okN] at h
    | tok => simp [okN] at h
theorem okN_dpAll {K : PySem.W.Frag} {wa : Option Addr} {Av : Addr → Prop} {H : Hp} (n : Nat) : ∀ {ds : List D} {vs : List V}, ds.all (okN n) = true → Reps K wa Av H vs ds → DpAll K H vs (toPys ds)
  | [], _, _, .nil => .nil
  | d :: ds, _, h, .cons r1 r2 => by
    rw [List.all_cons, Bool.and_eq_true] at h
    exact .cons (okN_dp n h.1 r1) (okN_dpAll n h.2 r2)
theorem okN_lay : ∀ (n : Nat) {d : D}, okN n d = true → (toPy d).canLay0 = true ∧ (toPy d).depth ≤ n + 1 := by
  have leaf : ∀ {s : List Nat}, (s.all fun c => decide (c < 1114112)) = true → (PyData.str (cps s)).canLay0 = true := fun {s} h => by
    simp only [PyData.canLay0, PyData.strOk, cps]
    rw [← Array.all_toList]
    simpa using h
  intro n
  induction n with
  | zero =>
    intro d h
    cases d <;> simp only [okN, Bool.false_eq_true] at h <;> refine ⟨?_, ?_⟩ <;> first
      | rfl
      | exact leaf h
      | (simp only [toPy, PyData.depth]; omega)
  | succ n ih =>
    have all : ∀ {ds : List D}, ds.all (okN n) = true → PyData.canLayAll0 (toPys ds) = true ∧ PyData.depthAll (toPys ds) ≤ n + 1 := by
      intro ds
      induction ds with
      | nil => intro _; exact ⟨rfl, Nat.zero_le _⟩
      | cons d ds ih2 =>
        intro h
        rw [List.all_cons, Bool.and_eq_true] at h
        obtain ⟨a1, a2⟩ := ih h.1
        obtain ⟨b1, b2⟩ := ih2 h.2
        simp only [toPys, PyData.canLayAll0, PyData.depthAll, a1, b1, Bool.and_self, true_and]
        omega
    intro d h
    cases d with
    | tup xs =>
      obtain ⟨a1, a2⟩ := all (ds := xs) (by simpa [okN] using h)
      refine ⟨by simp only [toPy, PyData.canLay0]; exact a1, by simp only [toPy, PyData.depth]; omega⟩
    | lst xs =>
      obtain ⟨a1, a2⟩ := all (ds := xs) (by simpa [okN] using h)
      refine ⟨by simp only [toPy, PyData.canLay0]; exact a1, by simp only [toPy, PyData.depth]; omega⟩
    | str s => exact ⟨leaf (by simpa [okN] using h), by simp only [toPy, PyData.depth]; omega⟩
    | non => exact ⟨rfl, by simp only [toPy, PyData.depth]; omega⟩
    | bool b => exact ⟨rfl, by simp only [toPy, PyData.depth]; omega⟩
    | int i => exact ⟨rfl, by simp only [toPy, PyData.depth]; omega⟩
    | dic k => simp [okN] at h
    | tok => simp [okN] at h
theorem okN_shaped {d : D} (h : okN 60 d = true) : SeqAt.shaped (toPy d) = true := by
  obtain ⟨a, b⟩ := okN_lay 60 h
  unfold SeqAt.shaped
  rw [a, Bool.true_and]
  exact decide_eq_true (by omega)
theorem cps_inj {a b : List Nat} : (cps a = cps b) ↔ a = b := by
  constructor
  · intro h
    have := congrArg (fun s : Str => s.cps.toList) h
    simpa [cps] using this
  · rintro rfl; rfl
theorem cps_beq {a b : List Nat} : (cps a == cps b) = (a == b) := by
  rw [Bool.eq_iff_iff, beq_iff_eq, beq_iff_eq, cps_inj]
mutual
theorem eqv_toPy : ∀ {n m : Nat} {a b : D}, okN n a = true → okN m b = true → PyData.eqv (toPy a) (toPy b) = eqD a b
  | n, m, a, b, ha, hb => by
    cases a <;> cases b <;> first
      | (simp [okN] at ha; done)
      | (simp [okN] at hb; done)
      | (simp only [toPy, PyData.eqv, eqD, cps_beq]; done)
      | skip
    all_goals simp only [toPy, PyData.eqv, eqD]
    all_goals
      cases n with
      | zero => simp [okN] at ha
      | succ n =>
        cases m with
        | zero => simp [okN] at hb
        | succ m => exact eqv_toPys (n := n) (m := m) (by simpa [okN] using ha) (by simpa [okN] using hb)
theorem eqv_toPys : ∀ {n m : Nat} {a b : List D}, a.all (okN n) = true → b.all (okN m) = true → PyData.eqvAll (toPys a) (toPys b) = eqDs a b
  | _, _, [], [], _, _ => by simp only [toPys, PyData.eqvAll, eqDs]
  | _, _, [], _ :: _, _, _ => by simp only [toPys, PyData.eqvAll, eqDs]
  | _, _, _ :: _, [], _, _ => by simp only [toPys, PyData.eqvAll, eqDs]
  | n, m, x :: xs, y :: ys, ha, hb => by
    rw [List.all_cons, Bool.and_eq_true] at ha hb
    simp only [toPys, PyData.eqvAll, eqDs]
    rw [eqv_toPy ha.1 hb.1, eqv_toPys ha.2 hb.2]
end

section
variable {X : Cx} {g : Pg} {W : WX}
theorem RepB.dp {F : Fr} {Av : Addr → Prop} {H : Hp} {v : V} {d : D} (r : RepB X.K F.wa Av H v d) (h : okN 60 d = true) : Dp X.K H v (toPy d) := by
  rcases r with r | r
  · exact okN_dp 60 h r
  · rcases r.kind with ⟨ds, rfl⟩ | ⟨kds, rfl⟩
    · obtain ⟨a, vs, rfl, ha, q, _, _⟩ := r.lst
      exact .lst (SqL.of ha) (okN_dpAll 59 (by simpa [okN] using h) q)
    · simp [okN] at h
/-! ### operators by their rules -/
theorem cat_lists {prog : Program} {w : World} {A : Around} {E : Value → Shared → Prop} {s : Shared} {l b : Addr} {vs ws : List Value} {Q : Value → Shared → Prop} (hl : s.heap.IsList l vs.toArray) (hb : s.heap.IsList b ws.toArray)
    (h : Q (.ref s.heap.objs.size) { s with heap := s.heap.push { cls := .type "list", data := .seq (vs ++ ws).toArray } }) (hsz : vs.length + ws.length ≤ sizeLine) :
    wpAny (model prog w) A (binaryOp .Add (.ref l) (.ref b)) Q E s := by
  obtain ⟨⟨cls, dd, data, sl⟩, ho, hc, n, hd⟩ := id hl
  obtain ⟨⟨cls2, dd2, data2, sl2⟩, ho2, hc2, n2, hd2⟩ := id hb
  simp only at hc hd hc2 hd2
  subst hc hd hc2 hd2
  have e : vs.toArray ++ ws.toArray = (vs ++ ws).toArray := by simp
  refine concat_meets ⟨_, ho, rfl⟩ ⟨_, ho2, rfl⟩ noFill_list_add seq_list_add PySem.F.slot_list_add PySem.F.entry_list_add (PySem.F.args_list_add_2 _ _) (list_addW l b vs.toArray ws.toArray n n2 dd dd2 sl sl2 (by simpa using hsz)) ⟨ho, ho2, ?_⟩
  rw [e]
  exact h
theorem o_add : OpR X (binaryOp .Add) (rB X.K (op2 .add)) := by
  intro pins s σ H x y v u Q I rx ry ⟨F, Av, ρ, o, σ', d, e, z, rs, rd, re, hz, q⟩
  simp only [op2] at hz
  unfold addO at hz
  split at hz
  · cases hz
    rw [rd.int] at rx; rw [re.int] at ry
    exact op_add pins s σ H _ _ v u Q I rx ry ⟨_, _, rfl, rfl, q _ H rs (Kw.refl _ _) (.int _)⟩
  · rename_i s1 s2
    split at hz
    · rename_i hl
      cases hz
      rw [rd.str] at rx; rw [re.str] at ry
      refine op_add_str pins s σ H _ _ v u Q I rx ry ⟨_, _, rfl, rfl, ?_, ?_⟩
      · simp only [cps, Str.length, List.size_toArray]; rw [← cap_eq]; exact hl
      · have e1 : cps s1 ++ cps s2 = cps (s1 ++ s2) := by simp only [cps, HAppend.hAppend, Append.append]; simp [Str.append]
        rw [e1]
        exact q _ H rs (Kw.refl _ _) (.str _)
    · cases hz
  · rename_i s1 s2
    split at hz
    · rename_i hl
      cases hz
      obtain ⟨a, vs, rfl, h1, r1⟩ := rd.tup
      obtain ⟨b, ws, rfl, h2, r2⟩ := re.tup
      have l1 := r1.length
      have l2 := r2.length
      refine op_catA pins s σ H _ _ v u Q I rx ry ⟨a, b, vs, ws, rfl, rfl, h1.sq, h2.sq, by rw [l1, l2, ← cap_eq]; exact hl, fun e1 => ?_, fun e1 e2 => ?_, fun e1 e2 p hp => ?_⟩
      · subst e1
        cases r1
        exact q _ H rs (Kw.refl _ _) (.tup h2 r2)
      · subst e2
        cases r2
        rw [List.append_nil] at q
        exact q _ H rs (Kw.refl _ _) (.tup h1 r1)
      · exact q _ _ (rs.alloc hp) (kw_alloc hp) (Rep.newTup rs hp (r1.append r2))
    · cases hz
  · rename_i s1 s2
    split at hz
    · rename_i hl
      cases hz
      obtain ⟨a, vs, rfl, h1, r1⟩ := rd.lst
      obtain ⟨b, ws, rfl, h2, r2⟩ := re.lst
      have l1 := r1.length
      have l2 := r2.length
      cases rx
      cases ry
      obtain ⟨its, rv, p1, hlen⟩ := I.list h1
      obtain ⟨its2, rv2, p2, hlen2⟩ := I.list h2
      have hl1 := rv.length
      have hl2 := rv2.length
      have hz : (vs ++ ws).length ≤ sizeLine := by rw [List.length_append, l1, l2, ← cap_eq]; exact hl
      refine cat_lists p1.isList p2.isList ⟨.ref _, _, I.lnew (t' := s.toks) (rv.append rv2) hz, rfl, ?_⟩ (by rw [← hl1, ← hl2, ← List.length_append]; exact hz)
      exact q _ _ (rs.alloc I.fresh) (kw_alloc I.fresh) (Rep.newLst rs I.fresh (r1.append r2))
    · cases hz
  · cases hz
theorem o_sub : OpR X (binaryOp .Sub) (rB X.K (op2 .sub)) := by
  intro pins s σ H x y v u Q I rx ry ⟨F, Av, ρ, o, σ', d, e, z, rs, rd, re, hz, q⟩
  simp only [op2] at hz
  split at hz
  · cases hz
    rw [rd.int] at rx; rw [re.int] at ry
    exact op_sub pins s σ H _ _ v u Q I rx ry ⟨_, _, rfl, rfl, q _ H rs (Kw.refl _ _) (.int _)⟩
  · cases hz
/-- a tuple, once -/
theorem tuple_mul1 (l : Addr) (items : Array Value) (n : Nat) (dd : Option Addr) (sl : Array (Option Value)) (x : Int) (u : Tok) (c0 : (decide (x < -(2 ^ 63)) || decide (x ≥ 2 ^ 63)) = false) (c1 : (items.isEmpty || x == 1) = true) :
    Meets (Builtin.«tuple.__mul__» ⟨[.ref l, .int x u], []⟩) (fun _ R s => s.heap.get? l = some { cls := .type "tuple", dict := dd, data := .seq items n, slots := sl } ∧
      R (.ok (.ret (Value.ref l))) { s with heap := s.heap, toks := s.toks }) :=
  .of_wp fun prog w A R s h => by
    obtain ⟨hp, g, d, tk, os⟩ := s
    obtain ⟨hl, h⟩ := h
    have f1 := AutoSeq1.idx_int
    wp_walk using wpAny_loadPart' hl
    repeat (first
      | (refine wpAny_ite_false (decide_eq_false (by rw [c0]; exact Bool.false_ne_true)) ?_; wp_walk using wpAny_loadPart' hl)
      | (refine wpAny_ite_true (decide_eq_true (by rw [c1])) ?_; wp_walk using wpAny_loadPart' hl))
    exact ⟨_, rfl, h⟩
theorem o_mul : OpR X (binaryOp .Mult) (rB X.K (op2 .mul)) := by
  intro pins s σ H x y v u Q I rx ry ⟨F, Av, ρ, o, σ', d, e, z, rs, rd, re, hz, q⟩
  simp only [op2] at hz
  unfold mulO at hz
  split at hz
  · rename_i i j
    split at hz
    · rename_i hl
      cases hz
      rw [rd.int] at rx; rw [re.int] at ry
      refine op_mul pins s σ H _ _ v u Q I rx ry ⟨_, _, rfl, rfl, ?_, q _ H rs (Kw.refl _ _) (.int _)⟩
      simpa [mulOk, CMul] using hl
    · cases hz
  · rename_i ds k
    split at hz
    · rename_i hl
      cases hz
      obtain ⟨a, vs, rfl, h1, r1⟩ := rd.tup
      rw [re.int] at ry
      have l1 := r1.length
      simp only [repOk, Bool.and_eq_true, decide_eq_true_eq] at hl
      obtain ⟨⟨⟨k1, k2⟩, n1⟩, n2⟩ := hl
      by_cases hk : k = 1
      · subst hk
        cases rx
        obtain ⟨t, rfl⟩ := ry
        obtain ⟨its, r, ⟨⟨cls, dd, data, sl⟩, ho, hc, n, hd⟩, hs⟩ := I.tuple h1.sq
        simp only at hc hd
        subst hc hd
        refine wpAny_binaryOp_repeat_ref (T := "tuple") (U := "int") (by decide) ⟨_, ho, rfl⟩ (fun s' => typeIs_int s' 1 t) noFill_tuple_mul PySem.F.fills_int_mul PySem.F.slot_int_rmul repeat_tuple PySem.F.slot_int_index.lookup
          (call_meets PySem.F.slot_int_rmul (typeIs_int s 1 t) PySem.F.entry_int_rmul (PySem.F.args_int_rmul_2 _ _) (int_rmul_tuple 1 t a its.toArray n dd sl)
            ⟨ho, rfl, ⟨_, ho, rfl⟩, call_meets PySem.F.slot_tuple_mul ⟨_, ho, rfl⟩ PySem.F.entry_tuple_mul (PySem.F.args_tuple_mul_2 _ _) (tuple_mul1 a its.toArray n dd sl 1 t (by decide) (by simp)) ⟨ho, ?_⟩⟩)
        have e1 : rep ds (1 : Int).toNat = ds := by simp [rep]
        rw [e1] at q
        exact ⟨.ref a, H, I, rfl, q _ H rs (Kw.refl _ _) (.tup h1 r1)⟩
      · refine op_repT pins s σ H _ _ v u Q I rx ry ⟨a, k, vs, rfl, rfl, h1.sq, fun e1 => ?_, by omega, k2, by omega, fun p hp => ?_⟩
        · subst e1
          simp at l1
          omega
        · exact q _ _ (rs.alloc hp) (kw_alloc hp) (Rep.newTup rs hp (r1.rep _))
    · cases hz
  · cases hz
end
end BV

end
/-! text: BV6.lean -/
section
set_option maxRecDepth 100000
set_option autoImplicit false
set_option maxHeartbeats 4000000
namespace BV
open PySem PySem.Spec PyProof.Rows L2
section
variable {X : Cx} {g : Pg} {W : WX} {e a b c : Expr} {es rest : List Expr} {ie ia ib ic il ih : IE} {is : List IE} {pos : Pos}
theorem o_fdiv : OpR X (binaryOp .FloorDiv) (rB X.K (op2 .fdiv)) := by
  intro pins s σ H x y v u Q I rx ry ⟨F, Av, ρ, o, σ', d, e, z, rs, rd, re, hz, q⟩
  simp only [op2] at hz
  split at hz
  · split at hz
    · rename_i hl
      cases hz
      rw [rd.int] at rx; rw [re.int] at ry
      exact op_fdiv pins s σ H _ _ v u Q I rx ry ⟨_, _, rfl, rfl, hl, q _ H rs (Kw.refl _ _) (.int _)⟩
    · cases hz
  · cases hz
theorem o_mod : OpR X (binaryOp .Mod) (rB X.K (op2 .mod)) := by
  intro pins s σ H x y v u Q I rx ry ⟨F, Av, ρ, o, σ', d, e, z, rs, rd, re, hz, q⟩
  simp only [op2] at hz
  split at hz
  · split at hz
    · rename_i hl
      cases hz
      rw [rd.int] at rx; rw [re.int] at ry
      exact op_mod pins s σ H _ _ v u Q I rx ry ⟨_, _, rfl, rfl, hl, q _ H rs (Kw.refl _ _) (.int _)⟩
    · cases hz
  · cases hz
theorem o_pow : OpR X (binaryOp .Pow) (rB X.K (op2 .pow)) := by
  intro pins s σ H x y v u Q I rx ry ⟨F, Av, ρ, o, σ', d, e, z, rs, rd, re, hz, q⟩
  simp only [op2] at hz
  split at hz
  · split at hz
    · rename_i hl
      cases hz
      rw [rd.int] at rx; rw [re.int] at ry
      exact op_pow pins s σ H _ _ v u Q I rx ry ⟨_, _, rfl, rfl, ⟨by omega, by omega, by omega⟩, q _ H rs (Kw.refl _ _) (.int _)⟩
    · cases hz
  · cases hz
theorem scal_of {F : Fr} {Av : Addr → Prop} {H : Hp} {x y : V} {d e : D} (h : scalD d e = true) (rd : RepB X.K F.wa Av H x d) (re : RepB X.K F.wa Av H y e) : scal x y = true ∧ decide (x = y) = eqD d e := by
  cases d <;> cases e <;> first
    | (simp only [scalD, Bool.false_eq_true] at h; done)
    | skip
  all_goals first
    | rw [rd.non] | rw [rd.bl] | rw [rd.int] | rw [rd.str]
  all_goals first
    | rw [re.non] | rw [re.bl] | rw [re.int] | rw [re.str]
  all_goals refine ⟨rfl, ?_⟩
  all_goals first
    | rfl
    | (rw [Bool.eq_iff_iff]; simp [eqD]; done)
    | (rw [Bool.eq_iff_iff]; simp [eqD, cps_inj]; done)
theorem o_eq (hu : X.A.units + 64 < cLine) : OpR X (compareOp .Eq) (rB X.K (op2 .eq)) := by
  intro pins s σ H x y v u Q I rx ry ⟨F, Av, ρ, o, σ', d, e, z, rs, rd, re, hz, q⟩
  simp only [op2, eqO] at hz
  split at hz
  · rename_i hs
    obtain ⟨h1, h2⟩ := scal_of hs rd re
    simp only [Option.map_some, Option.some.injEq] at hz
    subst hz
    refine op_eq pins s σ H _ _ v u Q I rx ry ⟨h1, ?_⟩
    rw [h2]
    exact q _ H rs (Kw.refl _ _) (.bl _)
  · split at hz
    · rename_i ho
      rw [Bool.and_eq_true] at ho
      simp only [Option.map_some, Option.some.injEq] at hz
      subst hz
      refine op_eqD hu pins s σ H _ _ v u Q I rx ry ⟨_, _, rd.dp ho.1, re.dp ho.2, okN_shaped ho.1, okN_shaped ho.2, ?_⟩
      rw [eqv_toPy ho.1 ho.2]
      exact q _ H rs (Kw.refl _ _) (.bl _)
    · cases hz
theorem o_ne (hu : X.A.units + 64 < cLine) : OpR X (compareOp .NotEq) (rB X.K (op2 .ne)) := by
  intro pins s σ H x y v u Q I rx ry ⟨F, Av, ρ, o, σ', d, e, z, rs, rd, re, hz, q⟩
  simp only [op2, eqO] at hz
  split at hz
  · rename_i hs
    obtain ⟨h1, h2⟩ := scal_of hs rd re
    simp only [Option.map_some, Option.some.injEq] at hz
    subst hz
    refine op_ne pins s σ H _ _ v u Q I rx ry ⟨h1, ?_⟩
    rw [h2]
    exact q _ H rs (Kw.refl _ _) (.bl _)
  · split at hz
    · rename_i ho
      rw [Bool.and_eq_true] at ho
      simp only [Option.map_some, Option.some.injEq] at hz
      subst hz
      refine op_neD hu pins s σ H _ _ v u Q I rx ry ⟨_, _, rd.dp ho.1, re.dp ho.2, okN_shaped ho.1, okN_shaped ho.2, ?_⟩
      rw [eqv_toPy ho.1 ho.2]
      exact q _ H rs (Kw.refl _ _) (.bl _)
    · cases hz
theorem o_lt : OpR X (compareOp .Lt) (rB X.K (op2 .lt)) := by
  intro pins s σ H x y v u Q I rx ry ⟨F, Av, ρ, o, σ', d, e, z, rs, rd, re, hz, q⟩
  simp only [op2] at hz
  split at hz
  · cases hz
    rw [rd.int] at rx; rw [re.int] at ry
    exact op_lt pins s σ H _ _ v u Q I rx ry ⟨_, _, rfl, rfl, q _ H rs (Kw.refl _ _) (.bl _)⟩
  · cases hz
theorem o_le : OpR X (compareOp .LtE) (rB X.K (op2 .le)) := by
  intro pins s σ H x y v u Q I rx ry ⟨F, Av, ρ, o, σ', d, e, z, rs, rd, re, hz, q⟩
  simp only [op2] at hz
  split at hz
  · cases hz
    rw [rd.int] at rx; rw [re.int] at ry
    exact op_le pins s σ H _ _ v u Q I rx ry ⟨_, _, rfl, rfl, q _ H rs (Kw.refl _ _) (.bl _)⟩
  · cases hz
theorem o_gt : OpR X (compareOp .Gt) (rB X.K (op2 .gt)) := by
  intro pins s σ H x y v u Q I rx ry ⟨F, Av, ρ, o, σ', d, e, z, rs, rd, re, hz, q⟩
  simp only [op2] at hz
  split at hz
  · cases hz
    rw [rd.int] at rx; rw [re.int] at ry
    exact op_gt pins s σ H _ _ v u Q I rx ry ⟨_, _, rfl, rfl, q _ H rs (Kw.refl _ _) (.bl _)⟩
  · cases hz
theorem o_ge : OpR X (compareOp .GtE) (rB X.K (op2 .ge)) := by
  intro pins s σ H x y v u Q I rx ry ⟨F, Av, ρ, o, σ', d, e, z, rs, rd, re, hz, q⟩
  simp only [op2] at hz
  split at hz
  · cases hz
    rw [rd.int] at rx; rw [re.int] at ry
    exact op_ge pins s σ H _ _ v u Q I rx ry ⟨_, _, rfl, rfl, q _ H rs (Kw.refl _ _) (.bl _)⟩
  · cases hz
/-! ### in -/
theorem flat_of {F : Fr} {Av : Addr → Prop} {H : Hp} {x : V} {d : D} (h : flat d = true) (rd : RepB X.K F.wa Av H x d) : flatV x = true := by
  cases d <;> first
    | (simp only [flat, Bool.false_eq_true] at h; done)
    | skip
  all_goals first
    | rw [rd.non] | rw [rd.bl] | rw [rd.int] | rw [rd.str]
  all_goals rfl
theorem eqV_of {F : Fr} {Av : Addr → Prop} {H : Hp} {x y : V} {d e : D} (h : flat d = true) (h' : flat e = true) (rd : RepB X.K F.wa Av H x d) (re : RepB X.K F.wa Av H y e) : eqV x y = eqD d e := by
  cases d <;> first
    | (simp only [flat, Bool.false_eq_true] at h; done)
    | skip
  all_goals cases e <;> first
    | (simp only [flat, Bool.false_eq_true] at h'; done)
    | skip
  all_goals first
    | rw [rd.non] | rw [rd.bl] | rw [rd.int] | rw [rd.str]
  all_goals first
    | rw [re.non] | rw [re.bl] | rw [re.int] | rw [re.str]
  all_goals first
    | rfl
    | (simp only [eqV, eqD, cps_beq]; done)
theorem flats_of {wa : Option Addr} {Av : Addr → Prop} {H : Hp} : ∀ {vs : List V} {ds : List D}, ds.all flat = true → Reps X.K wa Av H vs ds → vs.all flatV = true
  | _, _, _, .nil => rfl
  | _, _, h, .cons r1 r2 => by
    rw [List.all_cons, Bool.and_eq_true] at h
    rw [List.all_cons, flat_of (F := ⟨H, wa, (0, false), Av⟩) h.1 (.inl r1), flats_of h.2 r2]
    rfl
theorem inV_of {wa : Option Addr} {Av : Addr → Prop} {H : Hp} {x : V} {d : D} (h : flat d = true) (rd : RepB X.K wa Av H x d) : ∀ {vs : List V} {ds : List D}, ds.all flat = true → Reps X.K wa Av H vs ds → inV x vs = ds.any fun y => eqD y d
  | _, _, _, .nil => rfl
  | _, _, h', .cons r1 r2 => by
    rw [List.all_cons, Bool.and_eq_true] at h'
    have ih := inV_of h rd h'.2 r2
    unfold inV at ih ⊢
    rw [List.any_cons, List.any_cons, ih, eqV_of (F := ⟨H, wa, (0, false), Av⟩) h'.1 h (.inl r1) rd]
theorem o_in : OpR X (compareOp .In) (rB X.K (op2 .isIn)) := by
  intro pins s σ H x y v u Q I rx ry ⟨F, Av, ρ, o, σ', d, e, z, rs, rd, re, hz, q⟩
  simp only [op2] at hz
  unfold inO at hz
  split at hz
  · split at hz
    · rename_i ys hf
      rw [Bool.and_eq_true] at hf
      simp only [Option.map_some, Option.some.injEq] at hz
      subst hz
      obtain ⟨p, vs, rfl, h1, r1⟩ := re.tup
      refine op_in_seq pins s σ H _ _ v u Q I rx ry ⟨p, vs, rfl, .inr h1.sq, flat_of hf.1 rd, flats_of hf.2 r1, ?_⟩
      rw [inV_of hf.1 rd hf.2 r1]
      exact q _ H rs (Kw.refl _ _) (.bl _)
    · simp at hz
  · split at hz
    · rename_i ys hf
      rw [Bool.and_eq_true] at hf
      simp only [Option.map_some, Option.some.injEq] at hz
      subst hz
      obtain ⟨p, vs, rfl, h1, r1⟩ := re.lst
      refine op_in_seq pins s σ H _ _ v u Q I rx ry ⟨p, vs, rfl, .inl h1, flat_of hf.1 rd, flats_of hf.2 r1, ?_⟩
      rw [inV_of hf.1 rd hf.2 r1]
      exact q _ H rs (Kw.refl _ _) (.bl _)
    · simp at hz
  · simp at hz
theorem o_notIn : OpR X (compareOp .NotIn) (rB X.K (op2 .notIn)) := by
  intro pins s σ H x y v u Q I rx ry ⟨F, Av, ρ, o, σ', d, e, z, rs, rd, re, hz, q⟩
  simp only [op2] at hz
  unfold inO at hz
  split at hz
  · split at hz
    · rename_i ys hf
      rw [Bool.and_eq_true] at hf
      simp only [Option.map_some, Option.some.injEq] at hz
      subst hz
      obtain ⟨p, vs, rfl, h1, r1⟩ := re.tup
      refine op_notIn_seq pins s σ H _ _ v u Q I rx ry ⟨p, vs, rfl, .inr h1.sq, flat_of hf.1 rd, flats_of hf.2 r1, ?_⟩
      rw [inV_of hf.1 rd hf.2 r1]
      exact q _ H rs (Kw.refl _ _) (.bl _)
    · simp at hz
  · split at hz
    · rename_i ys hf
      rw [Bool.and_eq_true] at hf
      simp only [Option.map_some, Option.some.injEq] at hz
      subst hz
      obtain ⟨p, vs, rfl, h1, r1⟩ := re.lst
      refine op_notIn_seq pins s σ H _ _ v u Q I rx ry ⟨p, vs, rfl, .inl h1, flat_of hf.1 rd, flats_of hf.2 r1, ?_⟩
      rw [inV_of hf.1 rd hf.2 r1]
      exact q _ H rs (Kw.refl _ _) (.bl _)
    · simp at hz
  · simp at hz
/-! ### is -/
theorem isn_of {F : Fr} {Av : Addr → Prop} {H : Hp} {x : V} {d : D} (rd : RepB X.K F.wa Av H x d) : decide (x = .non) = isNon d := by
  rcases rd with r | r
  · cases r <;> rfl
  · obtain ⟨a, u, rfl, _, h, _⟩ := r
    rcases h with ⟨_, _, _, rfl, _⟩ | ⟨_, _, _, rfl, _⟩ <;> rfl
theorem o_is : OpR X (compareOp .Is) (rB X.K (op2 .is)) := by
  intro pins s σ H x y v u Q I rx ry ⟨F, Av, ρ, o, σ', d, e, z, rs, rd, re, hz, q⟩
  simp only [op2] at hz
  split at hz
  · cases hz
    rw [re.non] at ry
    refine op_isN pins s σ H _ _ v u Q I rx ry ⟨rfl, ?_⟩
    rw [isn_of rd]
    exact q _ H rs (Kw.refl _ _) (.bl _)
  · cases hz
theorem o_isNot : OpR X (compareOp .IsNot) (rB X.K (op2 .isNot)) := by
  intro pins s σ H x y v u Q I rx ry ⟨F, Av, ρ, o, σ', d, e, z, rs, rd, re, hz, q⟩
  simp only [op2] at hz
  split at hz
  · cases hz
    rw [re.non] at ry
    refine op_notN pins s σ H _ _ v u Q I rx ry ⟨rfl, ?_⟩
    rw [isn_of rd]
    exact q _ H rs (Kw.refl _ _) (.bl _)
  · cases hz
theorem u_neg : UnR X (unaryOp .USub) (rU1 X.K (op1 .neg)) := by
  intro pins s σ H x v Q I rx ⟨F, Av, ρ, o, σ', d, z, rs, rd, hz, q⟩
  simp only [op1] at hz
  split at hz
  · cases hz
    rw [rd.int] at rx
    exact un_neg pins s σ H _ v Q I rx ⟨_, rfl, q _ H rs (Kw.refl _ _) (.int _)⟩
  · cases hz

/-! ### places -/
theorem ixN_lt {n : Nat} {i : Int} {j : Nat} (h : ixN n i = some j) : j < n := by
  unfold ixN at h
  split at h
  · split at h <;> simp at h
    omega
  · split at h <;> simp at h
    omega
theorem ixN_eq (n : Nat) (i : Int) : BV.ixN n i = L2.ixN n i := rfl
theorem atI_rep {K : PySem.W.Frag} {wa : Option Addr} {Av : Addr → Prop} {H : Hp} {vs : List V} {ds : List D} {i : Int} {z : D} (r : Reps K wa Av H vs ds) (h : BV.atI ds i = some z) : ∃ v, L2.atI vs i = some v ∧ Rep K wa Av H v z := by
  unfold BV.atI at h
  cases q : BV.ixN ds.length i with
  | none => rw [q] at h; cases h
  | some j =>
    rw [q] at h
    simp only [Option.bind_some] at h
    obtain ⟨v, h1, h2⟩ := r.get h
    refine ⟨v, ?_, h2⟩
    unfold L2.atI
    rw [r.length, ← ixN_eq, q]
    exact h1
theorem x_ix : IxR X (rB X.K (op2 .ix)) := by
  intro value slice pins s σ H x y v u Q I rx ry ⟨F, Av, ρ, o, σ', d, e, z, rs, rd, re, hz, q⟩ hs
  simp only [op2] at hz
  split at hz
  · obtain ⟨a, vs, rfl, h1, r1⟩ := rd.tup
    rw [re.int] at ry
    obtain ⟨w, h2, h3⟩ := atI_rep r1 hz
    exact ix_tup value slice pins s σ H _ _ v u Q I rx ry ⟨a, vs, _, w, rfl, rfl, h1.sq, h2, q _ H rs (Kw.refl _ _) h3⟩ hs
  · obtain ⟨a, vs, rfl, h1, r1⟩ := rd.lst
    rw [re.int] at ry
    obtain ⟨w, h2, h3⟩ := atI_rep r1 hz
    exact ix_list value slice pins s σ H _ _ v u Q I rx ry ⟨a, vs, _, w, rfl, rfl, h1, h2, q _ H rs (Kw.refl _ _) h3⟩ hs
  · rename_i st i
    split at hz
    · rename_i hl
      rw [rd.str] at rx
      rw [re.int] at ry
      cases q2 : BV.atI st i with
      | none => rw [q2] at hz; cases hz
      | some c =>
        rw [q2] at hz
        cases hz
        refine ix_str value slice pins s σ H _ _ v u Q I rx ry ⟨_, i, c, rfl, rfl, by simp only [cps, Str.length, List.size_toArray]; rw [← cap_eq]; exact hl, q2, q _ H rs (Kw.refl _ _) (.str [c])⟩ hs
    · cases hz
  · cases hz
theorem be_ix (ha : BB X g W a ia) (hb : BB X g W b ib) (hs : PlainIx b := by intro _ _; rfl) : BE X g W (.Subscript a b pos) (.op2 .ix ia ib) :=
  peW (pe_ix x_ix ha hb hs) fun _ _ _ h => rB_of ha hb h

/-! ### slices -/
def tIO (K : PySem.W.Frag) (g : Pg) (W : WX) (e : IE) : TO := fun σ H Q => ∃ F Av ρ o, RS K F Av ρ o σ H ∧ goR K g W F Av ρ σ (fun (l : Option Int) d _ => partO d = some l) H (evE g.C e ρ o) Q
abbrev BO (X : Cx) (g : Pg) (W : WX) (e : Option Expr) (ie : IE) : Prop := PO X e (tIO X.K g W ie)
theorem poW {X : Cx} {e : Option Expr} {t t' : TO} (h : PO X e t) (w : ∀ σ H Q, t' σ H Q → t σ H Q) : PO X e t' := ⟨fun pins s σ H Q I q => h.run pins s σ H Q I (w σ H Q q)⟩
theorem bo_none : BO X g W none (.cst .non) := poW po_none fun σ H Q ⟨F, Av, ρ, o, rs, q⟩ => q none H rs (Kw.refl _ _) rfl
theorem bo_some (ha : BE X g W a ia) : BO X g W (some a) (.op1 .chkI ia) := by
  refine poW (po_some ha) fun σ H Q ⟨F, Av, ρ, o, rs, q⟩ => ⟨F, Av, ρ, o, rs, ?_⟩
  rw [evE] at q
  refine q.bind.mono fun v H1 ⟨d, o1, e1, rs1, k1, r1, q1⟩ => ?_
  cases d <;> first
    | (exact q1.elim)
    | skip
  cases r1
  exact ⟨_, rfl, q1 _ H1 rs1 (Kw.refl _ _) rfl⟩
theorem sIx_eq (n d : Nat) (o : Option Int) : BV.sIx n d o = HT.sIx n d o := by
  cases o with
  | none => rfl
  | some v => simp only [BV.sIx]; rfl
theorem Reps.cut {K : PySem.W.Frag} {wa : Option Addr} {Av : Addr → Prop} {H : Hp} {vs : List V} {ds : List D} (r : Reps K wa Av H vs ds) (lo hi : Option Int) : Reps K wa Av H (cutV vs lo hi) (cut ds lo hi) := by
  unfold cutV BV.cut
  rw [sIx_eq, sIx_eq, r.length]
  exact (r.drop _).take _
def rSl (K : PySem.W.Frag) : V → Option Int → Option Int → Hp → VK → Prop := fun x lo hi H Q => ∃ F Av ρ o σ d z, RS K F Av ρ o σ H ∧ RepB K F.wa Av H x d ∧
  (match d with
    | .tup xs => some (.tup (cut xs lo hi))
    | .lst xs => some (.lst (cut xs lo hi))
    | .str s => if s.length ≤ cap then some (.str (cut s lo hi)) else none
    | _ => none) = some z ∧ ∀ w H', RS K F Av ρ o σ H' → Kw F.wa H H' → Rep K F.wa Av H' w z → Q w H'
theorem cut_whole {α : Type} {xs : List α} {lo hi : Option Int} (h : BV.sIx xs.length 0 lo = 0 ∧ BV.sIx xs.length xs.length hi = xs.length) : cut xs lo hi = xs := by
  unfold BV.cut
  rw [h.1, h.2]
  simp
theorem cps_cut (s : List Nat) (lo hi : Option Int) : cutS (cps s) lo hi = cps (cut s lo hi) := by
  unfold cutS BV.cut
  simp only [cps, Str.length, List.size_toArray, sIx_eq]
theorem x_sl : SlR X (rSl X.K) := by
  intro pins s σ H x v vl vu lo hi sl Q I rx hs pl pu ⟨F, Av, ρ, o, σ', d, z, rs, rd, hz, q⟩
  split at hz
  · cases hz
    obtain ⟨a, vs, rfl, h1, r1⟩ := rd.tup
    refine sl_tupA pins s σ H _ v vl vu lo hi sl Q I rx hs pl pu ⟨a, vs, rfl, h1.sq, fun hw => ?_, fun _ p hp => ?_⟩
    · have e1 : cut _ lo hi = _ := cut_whole (xs := vs) (lo := lo) (hi := hi) (by rw [sIx_eq, sIx_eq]; exact hw)
      rw [r1.length, ← sIx_eq, ← sIx_eq] at hw
      rw [cut_whole hw] at q
      exact q _ H rs (Kw.refl _ _) (.tup h1 r1)
    · exact q _ _ (rs.alloc hp) (kw_alloc hp) (Rep.newTup rs hp (r1.cut lo hi))
  · cases hz
    obtain ⟨a, vs, rfl, h1, r1⟩ := rd.lst
    exact sl_list pins s σ H _ v vl vu lo hi sl Q I rx hs pl pu ⟨a, vs, rfl, h1, fun p hp => q _ _ (rs.alloc hp) (kw_alloc hp) (Rep.newLst rs hp (r1.cut lo hi))⟩
  · split at hz
    · rename_i hl
      cases hz
      rw [rd.str] at rx
      refine sl_str pins s σ H _ v vl vu lo hi sl Q I rx hs pl pu ⟨_, rfl, by simp only [cps, Str.length, List.size_toArray]; rw [← cap_eq]; exact hl, ?_⟩
      rw [cps_cut]
      exact q _ H rs (Kw.refl _ _) (.str _)
    · cases hz
  · cases hz
theorem be_slice {lo hi : Option Expr} {p2 : Pos} (ha : BB X g W a ia) (hl : BO X g W lo il) (hh : BO X g W hi ih) : BE X g W (.Subscript a (.Slice lo hi none p2) pos) (.slice ia il ih) := by
  refine peW (pe_slice x_sl ha hl hh) fun σ H Q ⟨F, Av, ρ, o, rs, q⟩ => ⟨F, Av, ρ, o, rs, ?_⟩
  rw [evE] at q
  refine q.bind.mono fun v H1 ⟨d, o1, e1, rs1, k1, r1, q1⟩ => ⟨F, Av, ρ, o1, rs1, ?_⟩
  refine q1.bind.mono fun l H2 ⟨dl, o2, e2, rs2, k2, r2, q2⟩ => ⟨F, Av, ρ, o2, rs2, ?_⟩
  refine q2.bind.mono fun h H3 ⟨dh, o3, e3, rs3, k3, r3, q3⟩ => ?_
  obtain ⟨z, hz, q4⟩ := goR_of q3
  simp only [sliceO, r2, r3] at hz
  exact ⟨F, Av, ρ, o3, σ, d, z, rs3, RepB.cv rs1 (k2.trans k3) r1, hz, q4⟩
end
end BV

end
/-! text: BV7.lean -/
section
set_option maxRecDepth 100000
set_option autoImplicit false
set_option maxHeartbeats 4000000
namespace BV
open PySem PySem.Spec PyProof.Rows L2

/-! ### the frame behind a change -/
section
variable {K : PySem.W.Frag} {F : Fr} {Av Av' : Addr → Prop} {ρ ρ' : Env} {o o' : Or} {σ σ' : L2.St} {H H' : Hp}
theorem getV_set {σ : L2.St} {i j : Nat} {x : Option V} : (σ.set i x)[j]? = if i = j ∧ j < σ.length then some x else σ[j]? := by
  rw [List.getElem?_set]
  by_cases h : i = j
  · subst h
    by_cases h2 : i < σ.length
    · simp [h2]
    · simp [h2]
  · simp [h]
/-- a slot stored -/
theorem RS.set (rs : RS K F Av ρ o σ H) {i : Nat} {v : V} {d : D} (r : Rep K F.wa Av H v d) : RS K F Av (setS ρ i (.val d)) o (σ.set i (some v)) H where
  len := by rw [setS_len, List.length_set]; exact rs.len
  slot := fun j => by
    rw [getS_setS, getV_set, rs.len]
    split
    · exact r
    · exact rs.slot j
  inj := fun j k d' e a h1 h2 h3 h4 => by
    rw [getS_setS, rs.len] at h1 h2
    rw [getV_set] at h3 h4
    split at h1
    · cases h1
    · split at h2
      · cases h2
      · rename_i n1 n2
        rw [if_neg n1] at h3
        rw [if_neg n2] at h4
        exact rs.inj j k d' e a h1 h2 h3 h4
  orc := rs.orc
  keep := rs.keep
  new := fun j d' a h1 h2 => by
    rw [getS_setS, rs.len] at h1
    rw [getV_set] at h2
    split at h1
    · cases h1
    · rename_i n1
      rw [if_neg n1] at h2
      exact rs.new j d' a h1 h2
  av0 := rs.av0
  th0 := rs.th0
  there := rs.there
  waav := rs.waav
theorem RS.unset (rs : RS K F Av ρ o σ H) {i : Nat} {x : Option V} : RS K F Av (setS ρ i .un) o (σ.set i x) H where
  len := by rw [setS_len, List.length_set]; exact rs.len
  slot := fun j => by
    rw [getS_setS, getV_set, rs.len]
    split
    · trivial
    · exact rs.slot j
  inj := fun j k d' e a h1 h2 h3 h4 => by
    rw [getS_setS, rs.len] at h1 h2
    rw [getV_set] at h3 h4
    split at h1
    · cases h1
    · split at h2
      · cases h2
      · rename_i n1 n2
        rw [if_neg n1] at h3
        rw [if_neg n2] at h4
        exact rs.inj j k d' e a h1 h2 h3 h4
  orc := rs.orc
  keep := rs.keep
  new := fun j d' a h1 h2 => by
    rw [getS_setS, rs.len] at h1
    rw [getV_set] at h2
    split at h1
    · cases h1
    · rename_i n1
      rw [if_neg n1] at h2
      exact rs.new j d' a h1 h2
  av0 := rs.av0
  th0 := rs.th0
  there := rs.there
  waav := rs.waav
theorem RS.wipe (rs : RS K F Av ρ o σ H) : ∀ vs : List Nat, RS K F Av (wipeS ρ vs) o (wipe σ vs) H
  | [] => rs
  | v :: vs => (RS.wipe rs vs).unset
theorem orc_there {wa : Option Addr} {da : Addr × Bool} {a : Addr} (h : Orc K Av wa da o H) (e : wa = some a) : H a ≠ none := by
  subst e
  obtain ⟨n, ds, h1, _⟩ := h
  rw [h1]
  exact fun z => nomatch z
/-- behind what changed none but the draws -/
theorem RS.kw (rs : RS K F Av ρ o σ H) (k : Kw F.wa H H') (oc : Orc K Av F.wa F.da o' H') : RS K F Av ρ o' σ H' :=
  rs.heap (Cv.kw k rs) (fun a vs av nw e => k a _ (fun z => nw z) e) (fun _ h => h) oc (rs.keep.trans k) fun a h => by
    by_cases e : F.wa = some a
    · exact orc_there oc e
    · cases q : H a with
      | none => exact absurd q (rs.there a h)
      | some u => rw [k a u e q]; exact fun z => nomatch z
/-- one more address that is not to be touched: a new one -/
def Av1 (Av : Addr → Prop) (D : Addr) : Addr → Prop := fun a => Av a ∨ a = D
theorem cv_av1 {D : Addr} {u : HO} (hD : H D = none) : Cv Av (Av1 Av D) H (upd H D u) := fun a x e n => by
  have ne : a ≠ D := ne_of_none e hD
  exact ⟨by rw [upd_ne ne]; exact e, fun z => z.elim n ne⟩
theorem RS.fresh (rs : RS K F Av ρ o σ H) {D : Addr} {u : HO} (hD : H D = none) : RS K F (Av1 Av D) ρ o σ (upd H D u) :=
  rs.heap (cv_av1 hD) (fun a vs av _ e => by rw [upd_ne (ne_of_none e hD)]; exact e) (fun _ h => .inl h)
    (rs.orc.cv (cv_av1 hD) fun a _ x e => by rw [upd_ne (ne_of_none e hD)]; exact e)
    (rs.keep.trans (kw_alloc hD)) fun a h => by
      rcases h with h | rfl
      · cases q : H a with
        | none => exact absurd q (rs.there a h)
        | some x => rw [upd_ne (ne_of_none q hD), q]; exact fun z => nomatch z
      · rw [upd_same]; exact fun z => nomatch z
/-- an object of ours is written -/
theorem cv_upd {D : Addr} {u : HO} (hD : Av D) : Cv Av Av H (upd H D u) := fun a x e n => ⟨by rw [upd_ne (fun z => n (by rw [z]; exact hD))]; exact e, n⟩
end

/-! ### targets -/
mutual
def gI (K : PySem.W.Frag) : IP → TG
  | .slot i => gName i
  | .tup ps => gTup K (lenP ps) (gIs K ps)
def gIs (K : PySem.W.Frag) : List IP → TGs
  | [] => gNil
  | p :: ps => gCons (gI K p) (gIs K ps)
def lenP : List IP → Nat
  | [] => 0
  | _ :: ps => lenP ps + 1
end
section
variable {K : PySem.W.Frag} {F : Fr} {Av : Addr → Prop} {o : Or} {H : Hp}
theorem wipe_set {σ : L2.St} {i : Nat} {x : Option V} : ∀ {vs : List Nat}, i ∈ vs → wipe (σ.set i x) vs = wipe σ vs
  | v :: vs, h => by
    unfold wipe
    by_cases e : i ∈ vs
    · rw [wipe_set e]
    · have : i = v := by
        rcases List.mem_cons.mp h with h | h
        · exact h
        · exact absurd h e
      subst this
      have : ∀ (ws : List Nat), i ∉ ws → wipe (σ.set i x) ws = (wipe σ ws).set i x := by
        intro ws
        induction ws with
        | nil => intro _; rfl
        | cons w ws ih =>
          intro hn
          unfold wipe
          rw [ih (fun z => hn (List.mem_cons_of_mem _ z)), List.set_comm _ _ (fun z => hn (by rw [z]; exact List.mem_cons_self))]
      rw [this vs e, List.set_set]
theorem bindPs_len : ∀ {ps : List IP} {ds : List D} {ρ ρ' : Env}, bindPs ps ds ρ = some ρ' → ds.length = lenP ps
  | [], [], _, _, _ => rfl
  | [], _ :: _, _, _, h => by simp [bindPs] at h
  | _ :: _, [], _, _, h => by simp [bindPs] at h
  | p :: ps, d :: ds, ρ, ρ', h => by
    rw [bindPs] at h
    cases q : bindP p d ρ with
    | none => rw [q] at h; cases h
    | some ρ1 =>
      rw [q] at h
      show ds.length + 1 = lenP ps + 1
      rw [bindPs_len h]
mutual
theorem gI_ok : ∀ (p : IP) {ρ ρ' : Env} {σ : L2.St} {v : V} {d : D} {Q : L2.St → Hp → Prop}, RS K F Av ρ o σ H → Rep K F.wa Av H v d → bindP p d ρ = some ρ' →
    (∀ σ', RS K F Av ρ' o σ' H → (∀ vs, (∀ i ∈ slotsP p, i ∈ vs) → wipe σ' vs = wipe σ vs) → Q σ' H) → gI K p v σ H Q
  | .slot i, ρ, ρ', σ, v, d, Q, rs, r, h, q => by
    rw [bindP] at h
    cases h
    exact q _ (rs.set r) fun vs hv => wipe_set (hv i (by simp [slotsP]))
  | .tup ps, ρ, ρ', σ, v, d, Q, rs, r, h, q => by
    cases d <;> simp only [bindP, reduceCtorEq] at h
    cases r with
    | tup h1 r1 =>
      rw [gI]
      refine ⟨_, _, rfl, h1.sq, ?_, ?_⟩
      · rw [r1.length]; exact bindPs_len h
      · exact gIs_ok ps rs r1 h fun σ' rs' w => q σ' rs' fun vs hv => w vs (by simpa [slotsP] using hv)
theorem gIs_ok : ∀ (ps : List IP) {ρ ρ' : Env} {σ : L2.St} {vs : List V} {ds : List D} {Q : L2.St → Hp → Prop}, RS K F Av ρ o σ H → Reps K F.wa Av H vs ds → bindPs ps ds ρ = some ρ' →
    (∀ σ', RS K F Av ρ' o σ' H → (∀ ws, (∀ i ∈ slotsPs ps, i ∈ ws) → wipe σ' ws = wipe σ ws) → Q σ' H) → gIs K ps vs σ H Q
  | [], ρ, ρ', σ, vs, ds, Q, rs, r, h, q => by
    cases ds with
    | nil =>
      cases r
      rw [bindPs] at h
      cases h
      exact ⟨rfl, q σ rs fun _ _ => rfl⟩
    | cons d ds => simp [bindPs] at h
  | p :: ps, ρ, ρ', σ, vs, ds, Q, rs, r, h, q => by
    cases ds with
    | nil => simp [bindPs] at h
    | cons d ds =>
      cases r with
      | cons r1 r2 =>
        rw [bindPs] at h
        cases e : bindP p d ρ with
        | none => rw [e] at h; cases h
        | some ρ1 =>
          rw [e] at h
          rw [gIs]
          refine ⟨_, _, rfl, gI_ok p rs r1 e fun σ1 rs1 w1 => gIs_ok ps rs1 r2 h fun σ2 rs2 w2 => q σ2 rs2 fun ws hw => ?_⟩
          rw [w2 ws fun i hi => hw i (by simp [slotsPs, hi]), w1 ws fun i hi => hw i (by simp [slotsPs, hi])]
end
end
section
variable {X : Cx} {pos : Pos}
abbrev BG (X : Cx) (tg : Expr) (p : IP) : Prop := PG X tg (gI X.K p)
theorem bg_slot (i : Nat) {x : Str} (hN : X.N.Nodup) (hi : X.N[i]? = some x := by rfl) (hx : Loc X.env.scope x := by first | exact Or.inl rfl | exact Or.inr rfl) (hf : X.fn x = true ∨ X.env.scope.names.lookup x = some .local := by first | exact .inl rfl | exact .inr rfl | assumption) : BG X (.Name x pos) (.slot i) :=
  pg_name hN hi hx hf
theorem bgs_nil : PGs X [] (gIs X.K []) := pgs_nil
theorem bgs_cons {e : Expr} {es : List Expr} {p : IP} {ps : List IP} (h1 : BG X e p) (h2 : PGs X es (gIs X.K ps))
    (hs : (assignEach (e :: es) X.env).map (·.2) = assign e X.env :: (assignEach es X.env).map (·.2) := by rfl) : PGs X (e :: es) (gIs X.K (p :: ps)) := pgs_cons h1 h2 hs
theorem bg_tup {es : List Expr} {k : Nat} {ps : List IP} (hc : X.calm = true) (h : PGs X es (gIs X.K ps))
    (hn : (assignEach es X.env).length = lenP ps := by rfl) (hst : (assignEach es X.env).findIdx? (·.1) = none := by rfl) : BG X (.Tuple es k pos) (.tup ps) := pg_tup hc h hn hst
end

/-! ### what is walked -/
/-- J yields what xs stands for, whatever changes but what must not -/
def ItOk (K : PySem.W.Frag) (b : Bool) (wa : Option Addr) (Av : Addr → Prop) (J : It) (xs : List D) (H : Hp) : Prop :=
  xs.length ≤ sizeLine ∧ ∀ (Av' : Addr → Prop) (H' : Hp), Cv Av Av' H H' → (b = true → Kw wa H H') → (∀ a, Av' a → H' a ≠ none) →
    J.stop xs.length H' ∧ ∀ i, i < xs.length → J.go i H' ∧ ∀ x H'', J.yld i H' x H'' → (H'' = H' ∨ ∃ p u, H' p = none ∧ H'' = upd H' p u) ∧ ∃ d, xs[i]? = some d ∧ Rep K wa Av' H'' x d
def tII (K : PySem.W.Frag) (g : Pg) (W : WX) (b : Bool) (e : IE) : TI := fun σ H R => ∃ F Av ρ o, RS K F Av ρ o σ H ∧ goR K g W F Av ρ σ (fun (J : It) xs H1 => ItOk K b F.wa Av J xs H1) H (evE g.C e ρ o).seq R
abbrev BI (X : Cx) (g : Pg) (W : WX) (b : Bool) (tg e : Expr) (ie : IE) : Prop := PI X tg e (tII X.K g W b ie)
theorem ItOk.list {K : PySem.W.Frag} {b : Bool} {wa : Option Addr} {Av : Addr → Prop} {H : Hp} {a : Addr} {vs : List V} {ds : List D} (r : Reps K wa Av H vs ds)
    (h : ∀ (Av' : Addr → Prop) (H' : Hp), Cv Av Av' H H' → (b = true → Kw wa H H') → SqL K H' a vs) (hz : vs.length ≤ sizeLine) : ItOk K b wa Av (Itl K a) ds H := ⟨by rw [← r.length]; exact hz, fun Av' H' c k th => by
  have hq := h Av' H' c k
  have hl := r.length
  refine ⟨⟨vs, hq, by omega⟩, fun i hi => ?_⟩
  obtain ⟨d, hd⟩ : ∃ d, ds[i]? = some d := ⟨_, List.getElem?_eq_getElem hi⟩
  obtain ⟨v, hv, rv⟩ := r.get hd
  refine ⟨⟨vs, v, hq, hv⟩, fun x H'' hy => ⟨.inl hy.1, d, hd, ?_⟩⟩
  have e := hy.2 vs hq
  rw [hv] at e
  cases e
  rw [hy.1]
  exact rv.cv c⟩
theorem ItOk.tup {K : PySem.W.Frag} {b : Bool} {wa : Option Addr} {Av : Addr → Prop} {H : Hp} {a : Addr} {vs : List V} {ds : List D} (r : Reps K wa Av H vs ds)
    (h : TpA K Av H a vs) (hz : vs.length ≤ sizeLine) : ItOk K b wa Av (Itt K a) ds H := ⟨by rw [← r.length]; exact hz, fun Av' H' c k th => by
  have hq := (h.cv c).sq
  have hl := r.length
  refine ⟨⟨vs, hq, by omega⟩, fun i hi => ?_⟩
  obtain ⟨d, hd⟩ : ∃ d, ds[i]? = some d := ⟨_, List.getElem?_eq_getElem hi⟩
  obtain ⟨v, hv, rv⟩ := r.get hd
  refine ⟨⟨vs, v, hq, hv⟩, fun x H'' hy => ⟨.inl hy.1, d, hd, ?_⟩⟩
  have e := hy.2 vs hq
  rw [hv] at e
  cases e
  rw [hy.1]
  exact rv.cv c⟩
theorem upto_len : ∀ (n : Nat) (lo : Int), (upto lo n).length = n
  | 0, _ => rfl
  | n + 1, lo => by simp [upto, upto_len n]
theorem upto_get : ∀ (n : Nat) (lo : Int) (i : Nat), i < n → (upto lo n)[i]? = some (.int (lo + i))
  | n + 1, lo, 0, _ => by simp [upto]
  | n + 1, lo, i + 1, h => by
    simp only [upto, List.getElem?_cons_succ]
    rw [upto_get n (lo + 1) i (by omega)]
    congr 2
    omega
theorem ItOk.range {K : PySem.W.Frag} {b : Bool} {wa : Option Addr} {Av : Addr → Prop} {H : Hp} (lo : Int) (n : Nat) (hn : n ≤ cap) : ItOk K b wa Av (Itr lo n) (upto lo n) H := ⟨by rw [upto_len, ← cap_eq]; exact hn, fun Av' H' c k th => by
  refine ⟨by show n ≤ (upto lo n).length; rw [upto_len]; exact Nat.le_refl _, fun i hi => ⟨by rw [upto_len] at hi; exact hi, fun x H'' hy => ?_⟩⟩
  rw [upto_len] at hi
  exact ⟨.inl hy.1, _, upto_get n lo i hi, by rw [hy.2]; exact .int _⟩⟩
theorem ItOk.str {K : PySem.W.Frag} {b : Bool} {wa : Option Addr} {Av : Addr → Prop} {H : Hp} (s : List Nat) (hn : s.length ≤ cap) : ItOk K b wa Av (Its (cps s)) (s.map fun c => .str [c]) H := ⟨by rw [List.length_map, ← cap_eq]; exact hn, fun Av' H' c k th => by
  refine ⟨by show (cps s).cps.size ≤ _; simp [cps], fun i hi => ?_⟩
  rw [List.length_map] at hi
  refine ⟨by show i < (cps s).cps.size; simpa [cps] using hi, fun x H'' hy => ⟨.inl hy.1, .str [s[i]], by simp [hi], ?_⟩⟩
  obtain ⟨c, e1, e2⟩ := hy.2
  have : s[i] = c := by
    simp [cps, hi] at e1
    exact e1
  rw [e2, this]
  exact .str [c]⟩
section
variable {X : Cx} {g : Pg} {W : WX} {tg l a b : Expr} {ie ia ib : IE} {pos p : Pos}
/-- as pi_list, pi_tup: with the bound of the length -/
def iListB (K : PySem.W.Frag) (tl : TE) : TI := fun σ H R => tl σ H fun x H1 => ∃ a, x = .ref a ∧ (∃ xs, SqL K H1 a xs) ∧ ((∀ xs, SqL K H1 a xs → xs.length ≤ sizeLine) → R (Itl K a) H1)
def iTupB (K : PySem.W.Frag) (tl : TE) : TI := fun σ H R => tl σ H fun x H1 => ∃ a, x = .ref a ∧ (∃ xs, SqT K H1 a xs) ∧ ((∀ xs, SqT K H1 a xs → xs.length ≤ sizeLine) → R (Itt K a) H1)
theorem pi_listB {tl : TE} (hl : PE X l tl) : PI X tg l (iListB X.K tl) := by
  refine ⟨fun pins s σ H R I h => ?_⟩
  refine thn (hl.run pins s σ H _ I h) fun v s1 ⟨x, H1, I1, r1, q1⟩ => ?_
  obtain ⟨a, e, ⟨xs, hq⟩, q⟩ := q1
  subst e
  cases r1
  obtain ⟨its, rv, p, hz⟩ := I1.list hq
  refine wpAny_pyIter_list p.isList ?_
  refine ⟨s1.heap.objs.size, [s1.heap.objs.size], _, _, H1, rfl, I1.kept (t' := s1.toks) fun b o e => Heap.get?_push_of_some _ e, turn_list a _, ⟨_, Heap.get?_push_size _ rfl, rfl, rfl⟩, fun b hb => ?_, q fun ys hy => by rw [I1.list_inj hy hq]; exact hz⟩
  have e : b = s1.heap.objs.size := by simpa using hb
  subst e
  exact I1.fpOk (Nat.le_refl _) (I1.hok.fresh (Nat.le_refl _))
theorem pi_tupB {tl : TE} (hl : PE X l tl) : PI X tg l (iTupB X.K tl) := by
  refine ⟨fun pins s σ H R I h => ?_⟩
  refine thn (hl.run pins s σ H _ I h) fun v s1 ⟨x, H1, I1, r1, q1⟩ => ?_
  obtain ⟨a, e, ⟨xs, hq⟩, q⟩ := q1
  subst e
  cases r1
  obtain ⟨its, rv, p, hz⟩ := I1.tuple hq
  refine wpAny_pyIter_tuple (show s1.heap.IsTuple a its.toArray from p) ?_
  refine ⟨s1.heap.objs.size, [s1.heap.objs.size], _, _, H1, rfl, I1.kept (t' := s1.toks) fun b o e => Heap.get?_push_of_some _ e, turn_tuple a _, ⟨_, Heap.get?_push_size _ rfl, rfl, rfl⟩, fun b hb => ?_, q fun ys hy => by rw [I1.tuple_inj hy hq]; exact hz⟩
  have e : b = s1.heap.objs.size := by simpa using hb
  subst e
  exact I1.fpOk (Nat.le_refl _) (I1.hok.fresh (Nat.le_refl _))
/-- a list, a tuple, a text -/
theorem bi_seq (hl : BE X g W l ie) : BI X g W false tg l ie := by
  refine ⟨fun pins s σ H R I ⟨F, Av, ρ, o, rs, q⟩ => ?_⟩
  cases e : evE g.C ie ρ o with
  | no => rw [e] at q; exact q.elim
  | exc c d o' =>
    refine (pi_listB hl).run pins s σ H R I ⟨F, Av, ρ, o, rs, ?_⟩
    rw [e] at q ⊢
    exact q
  | ok d o' =>
    cases d with
    | lst xs =>
      refine (pi_listB hl).run pins s σ H R I ⟨F, Av, ρ, o, rs, ?_⟩
      rw [e] at q ⊢
      intro v H' rs' k' r
      cases r with
      | lst h1 r1 => exact ⟨_, rfl, ⟨_, h1.sq⟩, fun hz => q _ H' rs' k' (ItOk.list r1 (fun _ _ c _ => (h1.cv c).sq) (hz _ h1.sq))⟩
    | tup xs =>
      refine (pi_tupB hl).run pins s σ H R I ⟨F, Av, ρ, o, rs, ?_⟩
      rw [e] at q ⊢
      intro v H' rs' k' r
      cases r with
      | tup h1 r1 => exact ⟨_, rfl, ⟨_, h1.sq⟩, fun hz => q _ H' rs' k' (ItOk.tup r1 h1 (hz _ h1.sq))⟩
    | str st =>
      refine (pi_str hl).run pins s σ H R I ⟨F, Av, ρ, o, rs, ?_⟩
      rw [e] at q ⊢
      intro v H' rs' k' r
      have hs : st.length ≤ cap := by
        by_cases h : st.length ≤ cap
        · exact h
        · simp [BV.R.seq, items, h] at q
          exact q.elim
      simp only [BV.R.seq, items, if_pos hs, BV.R.bind_ok, BV.R.of_some] at q
      cases r
      exact ⟨_, rfl, q _ H' rs' k' (ItOk.str st hs)⟩
    | _ => rw [e] at q; exact q.elim
/-- .. in a comprehension: a slot's own list too -/
theorem bi_seqB (hl : BB X g W l ie) : BI X g W true tg l ie := by
  refine ⟨fun pins s σ H R I ⟨F, Av, ρ, o, rs, q⟩ => ?_⟩
  cases e : evE g.C ie ρ o with
  | no => rw [e] at q; exact q.elim
  | exc c d o' =>
    refine (pi_listB hl).run pins s σ H R I ⟨F, Av, ρ, o, rs, ?_⟩
    rw [e] at q ⊢
    exact q
  | ok d o' =>
    cases d with
    | lst xs =>
      refine (pi_listB hl).run pins s σ H R I ⟨F, Av, ρ, o, rs, ?_⟩
      rw [e] at q ⊢
      rintro v H' rs' k' (r | r)
      · cases r with
        | lst h1 r1 => exact ⟨_, rfl, ⟨_, h1.sq⟩, fun hz => q _ H' rs' k' (ItOk.list r1 (fun _ _ c _ => (h1.cv c).sq) (hz _ h1.sq))⟩
      · obtain ⟨a, vs, rfl, ha, r1, av, nw⟩ := r.lst
        exact ⟨a, rfl, ⟨_, SqL.of ha⟩, fun hz => q _ H' rs' k' (ItOk.list r1 (fun _ _ _ k => SqL.of (k rfl a _ (fun z => nw z) ha)) (hz _ (SqL.of ha)))⟩
    | tup xs =>
      refine (pi_tupB hl).run pins s σ H R I ⟨F, Av, ρ, o, rs, ?_⟩
      rw [e] at q ⊢
      rintro v H' rs' k' (r | r)
      · cases r with
        | tup h1 r1 => exact ⟨_, rfl, ⟨_, h1.sq⟩, fun hz => q _ H' rs' k' (ItOk.tup r1 h1 (hz _ h1.sq))⟩
      · rcases r.kind with ⟨_, e⟩ | ⟨_, e⟩ <;> cases e
    | str st =>
      refine (pi_str hl).run pins s σ H R I ⟨F, Av, ρ, o, rs, ?_⟩
      rw [e] at q ⊢
      intro v H' rs' k' r
      have hs : st.length ≤ cap := by
        by_cases h : st.length ≤ cap
        · exact h
        · simp [BV.R.seq, items, h] at q
          exact q.elim
      simp only [BV.R.seq, items, if_pos hs, BV.R.bind_ok, BV.R.of_some] at q
      rw [r.str]
      exact ⟨_, rfl, q _ H' rs' k' (ItOk.str st hs)⟩
    | _ => rw [e] at q; exact q.elim
theorem piW {tg e : Expr} {t t' : TI} (h : PI X tg e t) (w : ∀ σ H R, t' σ H R → t σ H R) : PI X tg e t' := ⟨fun pins s σ H R I q => h.run pins s σ H R I (w σ H R q)⟩
end
end BV

end
/-! text: BV8.lean -/
section
set_option maxRecDepth 100000
set_option autoImplicit false
set_option maxHeartbeats 4000000
namespace BV
open PySem PySem.Spec PyProof.Rows L2
section
variable {X : Cx} {g : Pg} {W : WX} {tg l a b elt iter : Expr} {ie ia ib ic il : IE} {pos p : Pos} {es : List Expr} {is : List IE} {kb : Bool}
theorem rangeO_some {lo hi : Int} {z : D} (h : rangeO lo hi = some z) : (-(2 ^ 62) ≤ lo ∧ lo < 2 ^ 62 ∧ -(2 ^ 62) ≤ hi ∧ hi < 2 ^ 62 ∧ (hi - lo).toNat ≤ cap) ∧ z = .lst (upto lo (hi - lo).toNat) := by
  unfold rangeO at h
  split at h
  · cases h; exact ⟨by assumption, rfl⟩
  · cases h
/-- the reading of a walk over what a built-in makes of arguments -/
theorem seq_bi {F : Fr} {Av : Addr → Prop} {ρ : Env} {o : Or} {σ : L2.St} {H : Hp} {b : Bi} {R : It → Hp → Prop}
    (q : goR X.K g W F Av ρ σ (fun (J : It) xs H1 => ItOk X.K kb F.wa Av J xs H1) H (evE g.C (.bi b is) ρ o).seq R) :
    goR X.K g W F Av ρ σ (fun v d H' => Paired (RepB X.K F.wa Av H') v d) H (evEs g.C is ρ o) (fun vs H1 => ∃ ds o1, ds.length = is.length ∧ RS X.K F Av ρ o1 σ H1 ∧ Kw F.wa H H1 ∧ Paired (RepB X.K F.wa Av H1) vs ds ∧
      ∃ z xs, biF b ds = some z ∧ items z = some xs ∧ ∀ J H', RS X.K F Av ρ o1 σ H' → Kw F.wa H1 H' → ItOk X.K kb F.wa Av J xs H' → R J H') := by
  rw [evE] at q
  unfold BV.R.seq at q
  cases e : evEs g.C is ρ o with
  | no => rw [e] at q; exact q.elim
  | exc c d o' => rw [e] at q; exact q
  | ok ds o1 =>
    rw [e] at q
    simp only [BV.R.bind_ok] at q
    intro vs H1 rs1 k1 rp
    cases hz : biF b ds with
    | none => rw [hz] at q; exact q.elim
    | some z =>
      rw [hz] at q
      simp only [BV.R.of_some, BV.R.bind_ok] at q
      cases hx : items z with
      | none => rw [hx] at q; exact q.elim
      | some xs =>
        rw [hx] at q
        exact ⟨ds, o1, evEs_length e, rs1, k1, rp, z, xs, hz, hx, fun J H' rs' k' i => q J H' rs' (k1.trans k') i⟩
theorem pair1 {α β : Type} {P : α → β → Prop} {vs : List α} {ds : List β} (h : Paired P vs ds) (hl : ds.length = 1) : ∃ v d, vs = [v] ∧ ds = [d] ∧ P v d := by
  cases h with
  | nil => simp at hl
  | cons r1 r2 =>
    cases r2 with
    | nil => exact ⟨_, _, rfl, rfl, r1⟩
    | cons _ _ => simp at hl
theorem pair2 {α β : Type} {P : α → β → Prop} {vs : List α} {ds : List β} (h : Paired P vs ds) (hl : ds.length = 2) : ∃ v d w e, vs = [v, w] ∧ ds = [d, e] ∧ P v d ∧ P w e := by
  cases h with
  | nil => simp at hl
  | cons r1 r2 =>
    obtain ⟨w, e, rfl, rfl, r3⟩ := pair1 r2 (by simpa using hl)
    exact ⟨_, _, _, _, rfl, rfl, r1, r3⟩
theorem bi_range1 (hg : Gl X "range") (hm : X.mg "range" = none) (ha : BAB X g W [a] [ia]) (hs : starEach [a] X.env = [(false, eval a X.env)] := by rfl) : BI X g W kb tg (.Call (.Name "range" p) [a] [] pos) (.bi .range [ia]) := by
  refine piW (pi_range1 hg hm ha hs) fun σ H R ⟨F, Av, ρ, o, rs, q⟩ => ⟨F, Av, ρ, o, rs, (seq_bi q).mono fun vs H1 ⟨ds, o1, hl, rs1, k1, rp, z, xs, hz, hx, q1⟩ => ?_⟩
  obtain ⟨v, d, rfl, rfl, r1⟩ := pair1 rp hl
  cases d <;> simp only [biF, range1O, reduceCtorEq] at hz
  rename_i j
  obtain ⟨⟨h1, h2, h3, h4, h5⟩, rfl⟩ := rangeO_some hz
  refine ⟨j, by rw [r1.int], h3, h4, ?_⟩
  cases hx
  have := q1 (Itr 0 (j - 0).toNat) H1 rs1 (Kw.refl _ _) (ItOk.range 0 _ h5)
  simpa using this
theorem bi_range2 (hg : Gl X "range") (hm : X.mg "range" = none) (ha : BAB X g W [a, b] [ia, ib]) (hs : starEach [a, b] X.env = [(false, eval a X.env), (false, eval b X.env)] := by rfl) (hs2 : starEach [b] X.env = [(false, eval b X.env)] := by rfl) :
    BI X g W kb tg (.Call (.Name "range" p) [a, b] [] pos) (.bi .range [ia, ib]) := by
  refine piW (pi_range2 hg hm ha hs hs2) fun σ H R ⟨F, Av, ρ, o, rs, q⟩ => ⟨F, Av, ρ, o, rs, (seq_bi q).mono fun vs H1 ⟨ds, o1, hl, rs1, k1, rp, z, xs, hz, hx, q1⟩ => ?_⟩
  obtain ⟨v, d, v2, d2, rfl, rfl, r1, r2⟩ := pair2 rp hl
  cases d <;> cases d2 <;> simp only [biF, range2O, reduceCtorEq] at hz
  rename_i i j
  obtain ⟨⟨h1, h2, h3, h4, h5⟩, rfl⟩ := rangeO_some hz
  refine ⟨i, j, by rw [r1.int, r2.int], ⟨h1, h2, h3, h4⟩, ?_⟩
  cases hx
  exact q1 (Itr i (j - i).toNat) H1 rs1 (Kw.refl _ _) (ItOk.range i _ h5)

/-! ### comprehensions -/
/-- what a turn of a comprehension does -/
def turnC (C : Nat → List D → Or → R D) (p : IP) (c e : IE) (ρ : Env) : D → Or → R (Option D) := fun x o => match bindP p x (wipeS ρ (slotsP p)) with
  | none => .no
  | some ρ => (evE C c ρ o).test fun t _ o => if t then (evE C e ρ o).bind fun y o => .ok (some y) o else .ok none o
theorem evE_comp {C : Nat → List D → Or → R D} {p : IP} {s c e : IE} {ρ : Env} {o : Or} : evE C (.comp p s c e) ρ o = (evE C s ρ o).seq.bind fun xs o => (compM (turnC C p c e ρ) xs o).pure.bind fun ys o => .ok (.lst ys) o := by
  rw [evE]; rfl
/-- a test that holds always -/
def tYesI (K : PySem.W.Frag) (g : Pg) (W : WX) : TT := fun σ H Q => ∃ F Av ρ o, RS K F Av ρ o σ H ∧ (∀ H', RS K F Av ρ o σ H' → Kw F.wa H H' → Q true H')
abbrev W0 : WX := fun _ _ _ _ => False
abbrev BTs (X : Cx) (g : Pg) (ifs : List Expr) (ic : IE) : Prop := PTs X ifs (tIT X.K g W0 ic)
theorem bts_nil : BTs X g [] (.cst (.bool true)) := ⟨fun pins s σ H Q I ⟨F, Av, ρ, o, rs, q⟩ => pts_nil.run pins s σ H Q I (q true H rs (Kw.refl _ _) rfl)⟩
theorem bts_one {c : Expr} (h : BT X g W0 c ic) : BTs X g [c] ic := pts_one h
theorem wipe_wipe (σ : L2.St) : ∀ vs : List Nat, wipe (wipe σ vs) vs = wipe σ vs := by
  have h : ∀ (vs ws : List Nat), (∀ v ∈ ws, v ∈ vs) → wipe (wipe σ ws) vs = wipe σ vs := by
    intro vs ws
    induction ws with
    | nil => intro _; rfl
    | cons w ws ih =>
      intro hw
      show wipe ((wipe σ ws).set w none) vs = _
      rw [wipe_set (hw w List.mem_cons_self), ih fun v hv => hw v (List.mem_cons_of_mem _ hv)]
  exact fun vs => h vs vs fun _ h => h
/-- a turn yields RS for the element's frame -/
theorem RS.upd_own {K : PySem.W.Frag} {F : Fr} {Av : Addr → Prop} {ρ : Env} {o : Or} {σ : L2.St} {H : Hp} {D : Addr} {u : HO} (rs : RS K F Av ρ o σ H) (hD : Av D) (nw : F.wa ≠ some D) (h0 : F.H0 D = none)
    (ho : ∀ i d, getS ρ i = .own d → σ[i]? ≠ some (some (.ref D))) : RS K F Av ρ o σ (upd H D u) where
  len := rs.len
  slot := fun i => by
    have h := rs.slot i
    cases q : getS ρ i with
    | un => trivial
    | val d =>
      obtain ⟨v, e, r⟩ := rs.val q
      rw [e]; exact r.cv (cv_upd hD)
    | own d =>
      obtain ⟨a, u', e, ha, r, av, nw⟩ := rs.ownG q
      rw [e]
      exact ⟨a, u', rfl, by rw [upd_ne (fun z => ho i _ q (by rw [e, z]))]; exact ha, r.cv (cv_upd hD), av, nw⟩
  inj := rs.inj
  orc := rs.orc.cv (cv_upd hD) fun a ha x e => by rw [upd_ne (fun z => nw (by rw [ha, z]))]; exact e
  keep := fun b x n e => by rw [upd_ne (fun z => by rw [z, h0] at e; cases e)]; exact rs.keep b x n e
  new := rs.new
  av0 := rs.av0
  th0 := rs.th0
  there := fun a h => by
    by_cases e : a = D
    · rw [e, upd_same]; exact fun z => nomatch z
    · rw [upd_ne e]; exact rs.there a h
  waav := rs.waav
theorem compM_cons {f : D → Or → R (Option D)} {x : D} {xs ys : List D} {o oN : Or} (h : compM f (x :: xs) o = .ok ys oN) :
    ∃ y o1 zs, f x o = .ok y o1 ∧ compM f xs o1 = .ok zs oN ∧ ys = (match y with | some y => y :: zs | none => zs) := by
  rw [compM] at h
  cases e : f x o with
  | no => rw [e] at h; cases h
  | exc _ _ _ => rw [e] at h; cases h
  | ok y o1 =>
    rw [e, BV.R.bind_ok] at h
    cases e2 : compM f xs o1 with
    | no => rw [e2] at h; cases h
    | exc _ _ _ => rw [e2] at h; cases h
    | ok zs o2 =>
      rw [e2, BV.R.bind_ok] at h
      cases y with
      | none => cases h; exact ⟨none, o1, _, rfl, e2, rfl⟩
      | some y => cases h; exact ⟨some y, o1, _, rfl, e2, rfl⟩
/-- the reading of a comprehension -/
theorem lc_read {K : PySem.W.Frag} {p : IP} {F : Fr} {Av : Addr → Prop} {ρ : Env} {σ : L2.St} {vs : List Nat} (hv : vs = slotsP p) {J : It} {H1 : Hp} {xs ys : List D} {o1 oN : Or} {Q : VK}
    (rs1 : RS K F Av ρ o1 σ H1) (it : ItOk K true F.wa Av J xs H1) (hc : compM (turnC g.C p ic ie ρ) xs o1 = .ok ys oN)
    (q : ∀ v H', RS K F Av ρ oN σ H' → Kw F.wa H1 H' → Rep K F.wa Av H' v (.lst ys) → (∃ a, v = .ref a ∧ H1 a = none ∧ ∃ vs, H' a = some (.lst vs) ∧ Reps K F.wa (Av1 Av a) H' vs ys ∧ RS K F (Av1 Av a) ρ oN σ H') → Q v H') :
    ∀ D, H1 D = none → ∃ W : Nat → Nat → Hp → Prop, (∃ m, W 0 m (upd H1 D (.lst []))) ∧ ∀ i m H, W i m H →
      (J.stop i H ∧ Q (.ref D) H) ∨ (J.go i H ∧ ∃ Nx : Hp → Prop, (∀ H', Nx H' → ∃ m', m' < m ∧ W (i + 1) m' H') ∧ ∀ x H', J.yld i H x H' → gI K p x (wipe σ vs) H' fun σ2 H2 => wipe σ2 vs = wipe σ vs ∧ tIT K g W0 ic σ2 H2 fun b H3 =>
        if b = true then tI K g W0 ie σ2 H3 fun y H4 => ∃ acc, H4 D = some (.lst acc) ∧ acc.length < sizeLine ∧ Nx (upd H4 D (.lst (acc ++ [y]))) else Nx H3) := by
  intro D hD
  have fr := rs1.fresh (u := .lst []) hD
  have h0D : F.H0 D = none := by
    cases e : F.H0 D with
    | none => rfl
    | some u =>
      by_cases w : F.wa = some D
      · exact absurd hD (rs1.there D (rs1.waav D w))
      · rw [rs1.keep D u w e] at hD; cases hD
  have nwD : F.wa ≠ some D := fun w => rs1.there D (rs1.waav D w) hD
  have avD : Av1 Av D D := .inr rfl
  -- the invariant
  refine ⟨fun i m H => m = xs.length - i ∧ i ≤ xs.length ∧ ∃ o' acc ds zs, RS K F (Av1 Av D) ρ o' σ H ∧ Kw F.wa H1 H ∧ H D = some (.lst acc) ∧ Reps K F.wa (Av1 Av D) H acc ds ∧ acc.length ≤ i ∧ compM (turnC g.C p ic ie ρ) (xs.drop i) o' = .ok zs oN ∧ ys = ds ++ zs,
    ⟨xs.length, rfl, Nat.zero_le _, o1, [], [], ys, fr, kw_alloc hD, upd_same, .nil, Nat.le_refl _, hc, rfl⟩, ?_⟩
  rintro i m H ⟨rfl, hi, o', acc, ds, zs, rs, k, hacc, rp, hal, hcm, rfl⟩
  have cvD : Cv Av (Av1 Av D) H1 H := fun a u e n => by
    have na : a ≠ D := ne_of_none e hD
    exact ⟨k a u (fun w => n (rs1.waav a w)) e, fun z => z.elim n na⟩
  have hx := it.1
  obtain ⟨hst, hgo⟩ := it.2 (Av1 Av D) H cvD (fun _ => k) rs.there
  by_cases hlt : i < xs.length
  · obtain ⟨hg1, hy1⟩ := hgo i hlt
    have hdrop : xs.drop i = xs[i] :: xs.drop (i + 1) := List.drop_eq_getElem_cons hlt
    rw [hdrop] at hcm
    obtain ⟨y, o2, zs', hf, hcm', hzs⟩ := compM_cons hcm
    refine .inr ⟨hg1, fun H' => ∃ o' acc ds zs, RS K F (Av1 Av D) ρ o' σ H' ∧ Kw F.wa H1 H' ∧ H' D = some (.lst acc) ∧ Reps K F.wa (Av1 Av D) H' acc ds ∧ acc.length ≤ i + 1 ∧ compM (turnC g.C p ic ie ρ) (xs.drop (i + 1)) o' = .ok zs oN ∧ (ds : List BV.D) ++ zs = _,
      fun H' ⟨o', acc, ds, zs, a1, a2, a3, a4, a5, a6, a7⟩ => ⟨xs.length - (i + 1), by omega, rfl, hlt, o', acc, ds, zs, a1, a2, a3, a4, a5, a6, a7.symm⟩, fun x H' hy => ?_⟩
    obtain ⟨hgrow, d, hd, rx⟩ := hy1 x H' hy
    have hxd : xs[i] = d := by
      rw [List.getElem?_eq_getElem hlt] at hd
      exact Option.some.inj hd
    have kH : Kw F.wa H H' := by
      rcases hgrow with rfl | ⟨p', u, hp, rfl⟩
      · exact Kw.refl _ _
      · exact kw_alloc hp
    have rs' : RS K F (Av1 Av D) ρ o' σ H' := by
      rcases hgrow with rfl | ⟨p', u, hp, rfl⟩
      · exact rs
      · exact rs.alloc hp
    have hD' : H' D = some (.lst acc) := kH D _ nwD hacc
    have rp' : Reps K F.wa (Av1 Av D) H' acc ds := rp.cv (Cv.kw kH rs)
    rw [hxd] at hf
    unfold turnC at hf
    cases hb : bindP p d (wipeS ρ (slotsP p)) with
    | none => rw [hb] at hf; cases hf
    | some ρ' =>
      rw [hb] at hf
      subst hv
      refine gI_ok p (rs'.wipe (slotsP p)) rx hb fun σ' rsb hw => ⟨?_, ?_⟩
      · rw [hw _ fun _ h => h, wipe_wipe]
      · simp only at hf
        cases e1 : evE g.C ic ρ' o' with
        | no => rw [e1] at hf; cases hf
        | exc _ _ _ => rw [e1] at hf; cases hf
        | ok t o3 =>
          rw [e1] at hf
          simp only [BV.R.test, BV.R.bind_ok] at hf
          cases e2 : truth t with
          | none => rw [e2] at hf; cases hf
          | some b =>
            rw [e2] at hf
            refine ⟨F, Av1 Av D, ρ', o', rsb, ?_⟩
            rw [e1]
            simp only [BV.R.tst, BV.R.test, BV.R.bind_ok, e2]
            rintro b' H3 rs3 k3 rfl
            have kk : Kw F.wa H H3 := kH.trans k3
            have rso : RS K F (Av1 Av D) ρ o3 σ H3 := rs.kw kk rs3.orc
            cases b' with
            | false =>
              simp only [Bool.false_eq_true, if_false] at hf ⊢
              cases hf
              exact ⟨o2, acc, ds, zs', rso, k.trans kk, kk D _ nwD hacc, rp.cv (Cv.kw kk rs), by omega, hcm', by rw [hzs]⟩
            | true =>
              simp only [if_true] at hf ⊢
              cases e3 : evE g.C ie ρ' o3 with
              | no => rw [e3] at hf; cases hf
              | exc _ _ _ => rw [e3] at hf; cases hf
              | ok y' o4 =>
                rw [e3] at hf
                cases hf
                refine ⟨F, Av1 Av D, ρ', o3, rs3, ?_⟩
                rw [e3]
                intro w H4 rs4 k4 r4
                have kk4 : Kw F.wa H H4 := kk.trans k4
                have hacc4 : H4 D = some (.lst acc) := kk4 D _ nwD hacc
                have rso4 : RS K F (Av1 Av D) ρ o2 σ H4 := rs.kw kk4 rs4.orc
                refine ⟨acc, hacc4, by omega, o2, acc ++ [w], ds ++ [y'], zs', ?_, ?_, upd_same, ?_, by simp; omega, hcm', by rw [hzs]; simp⟩
                · exact rso4.upd_own avD nwD h0D fun i' d' e e' => by
                    obtain ⟨a, u', e5, ha, _, av, _⟩ := rs1.ownG e
                    rw [e'] at e5
                    cases e5
                    rw [hD] at ha
                    cases ha
                · intro a u n e
                  rw [upd_ne (ne_of_none e hD)]
                  exact kk4 a u n (k a u n e)
                · exact (rp.cv (Cv.kw kk4 rs)).append (.cons r4 .nil) |>.cv (cv_upd avD)
  · have hie : i = xs.length := by omega
    subst hie
    rw [List.drop_length] at hcm
    simp only [compM] at hcm
    cases hcm
    refine .inl ⟨hst, ?_⟩
    rw [List.append_nil] at q
    have rsA : RS K F Av ρ oN σ H := rs1.kw k (by
      have := rs.orc
      exact this.cv (fun a u e n => ⟨e, fun z => n (.inl z)⟩) fun _ _ _ e => e)
    refine q _ _ rsA k ?_ ⟨D, rfl, hD, acc, hacc, rp, rs⟩
    exact .lst (.inl ⟨.inl hacc, rs1.notAv hD⟩) (rp.cv fun a u e n => ⟨e, fun z => n (.inl z)⟩)
end
end BV

end
/-! text: BV9.lean -/
section
set_option maxRecDepth 100000
set_option autoImplicit false
set_option maxHeartbeats 4000000
namespace BV
open PySem PySem.Spec PyProof.Rows L2

/-! ### comprehensions as values; new lists -/
/-- a reading whose outcome is a new list -/
def tIF (K : PySem.W.Frag) (g : Pg) (W : WX) (e : IE) : TE := fun σ H Q => ∃ F Av ρ o, RS K F Av ρ o σ H ∧ (match evE g.C e ρ o with
  | .ok d o' => ∀ v H' a vs ds, RS K F Av ρ o' σ H' → Kw F.wa H H' → v = .ref a → d = .lst ds → H a = none → H' a = some (.lst vs) → Reps K F.wa (Av1 Av a) H' vs ds → RS K F (Av1 Av a) ρ o' σ H' → Q v H'
  | .exc c d o' => ∀ cls dx H', RS K F Av ρ o' σ H' → Kw F.wa H H' → g.XP c d cls dx H' → W cls dx σ H'
  | .no => False)
abbrev BF (X : Cx) (g : Pg) (W : WX) (e : Expr) (ie : IE) : Prop := PE X e (tIF X.K g W ie)
section
variable {X : Cx} {g : Pg} {W : WX} {tg elt iter e : Expr} {ifs : List Expr} {ie ic il : IE} {p : IP} {pos : Pos} {es : List Expr} {is : List IE} {scope : Scope} {own : List (Str × Nat)}
/-- from a comprehension's reading to the rule's -/
theorem comp_read {σ : L2.St} {H : Hp} {Q : VK} {F : Fr} {Av : Addr → Prop} {ρ : Env} {o : Or} (rs : RS X.K F Av ρ o σ H)
    (q : match evE g.C (.comp p il ic ie) ρ o with
      | .ok d o' => ∀ v H' a vs ds, RS X.K F Av ρ o' σ H' → Kw F.wa H H' → v = .ref a → d = .lst ds → H a = none → H' a = some (.lst vs) → Reps X.K F.wa (Av1 Av a) H' vs ds → RS X.K F (Av1 Av a) ρ o' σ H' → Q v H'
      | .exc c d o' => ∀ cls dx H', RS X.K F Av ρ o' σ H' → Kw F.wa H H' → g.XP c d cls dx H' → W cls dx σ H'
      | .no => False) : tLc (tII X.K g W true il) (gI X.K p) (tIT X.K g W0 ic) (tI X.K g W0 ie) (slotsP p) σ H Q := by
  refine ⟨F, Av, ρ, o, rs, ?_⟩
  rw [evE_comp] at q
  cases e1 : (evE g.C il ρ o).seq with
  | no => rw [e1] at q; exact q.elim
  | exc c d o' => rw [e1] at q; exact q
  | ok xs o1 =>
    rw [e1] at q
    simp only [BV.R.bind_ok] at q
    intro J H1 rs1 k1 it
    cases e2 : compM (turnC g.C p ic ie ρ) xs o1 with
    | no => rw [e2] at q; exact q.elim
    | exc c d o' => rw [e2] at q; exact q.elim
    | ok ys oN =>
      rw [e2] at q
      simp only [BV.R.pure_ok, BV.R.bind_ok] at q
      refine lc_read (Av := Av) rfl rs1 it e2 fun v H' rs' k' r' ⟨a, ea, ha, vs, hv, rp, rsa⟩ => q v H' a vs ys rs' (k1.trans k') ea rfl ?_ hv rp rsa
      by_cases n : F.wa = some a
      · exact absurd ha (rs1.there a (rs1.waav a n))
      · cases z : H a with
        | none => rfl
        | some u => rw [k1 a u n z] at ha; cases ha
theorem BE.ofF (h : BF X g W e ie) (hq : ∀ σ H Q F Av ρ o, RS X.K F Av ρ o σ H → goR X.K g W F Av ρ σ (fun v d H' => Rep X.K F.wa Av H' v d) H (evE g.C ie ρ o) Q → goR X.K g W F Av ρ σ (fun v d H' => Rep X.K F.wa Av H' v d) H (evE g.C ie ρ o) Q := by intros; assumption) : BE X g W e ie := by
  refine peW h fun σ H Q ⟨F, Av, ρ, o, rs, q⟩ => ⟨F, Av, ρ, o, rs, ?_⟩
  cases e1 : evE g.C ie ρ o with
  | no => rw [e1] at q; exact q
  | exc c d o' => rw [e1] at q; exact q
  | ok d o' =>
    rw [e1] at q
    rintro v H' a vs ds rs' k' rfl rfl ha hv rp rsa
    refine q _ H' rs' k' (.lst (.inl ⟨.inl hv, fun av => rs.there a av ha⟩) (rp.cv fun b u e n => ⟨e, fun z => n (.inl z)⟩))
theorem bf_comp (hc : X.calm = true) (hN : X.N.Nodup) (hi : BI X g W true tg iter il) (ok : BlkOk X.N X.env.scope scope own) (hv : own.map (·.2) = slotsP p)
    (hg : ∀ (s : Shared) (H : Hp) (C : Addr) (cl : List (Str × Addr)) (fp : List Addr), BG (X.blk s H scope (compEnvC scope cl C X.env) fp) tg p) (ht : ∀ (s : Shared) (H : Hp) (C : Addr) (cl : List (Str × Addr)) (fp : List Addr), BTs (X.blk s H scope (compEnvC scope cl C X.env) fp) g ifs ic)
    (he : ∀ (s : Shared) (H : Hp) (C : Addr) (cl : List (Str × Addr)) (fp : List Addr), BE (X.blk s H scope (compEnvC scope cl C X.env) fp) g W0 elt ie) (hs : ∀ x, foldedSetIterable iter X.env x = pure x := by intro _; rfl) :
    BF X g W (.ListComp elt [⟨tg, iter, ifs, 0⟩] scope pos) (.comp p il ic ie) := by
  refine peW (pe_lc (g := gI X.K p) (tt := tIT X.K g W0 ic) (te := tI X.K g W0 ie) hc hN hi ok hg ht he hs) fun σ H Q ⟨F, Av, ρ, o, rs, q⟩ => ?_
  rw [hv]
  exact comp_read rs q
theorem be_comp (hc : X.calm = true) (hN : X.N.Nodup) (hi : BI X g W true tg iter il) (ok : BlkOk X.N X.env.scope scope own) (hv : own.map (·.2) = slotsP p)
    (hg : ∀ (s : Shared) (H : Hp) (C : Addr) (cl : List (Str × Addr)) (fp : List Addr), BG (X.blk s H scope (compEnvC scope cl C X.env) fp) tg p) (ht : ∀ (s : Shared) (H : Hp) (C : Addr) (cl : List (Str × Addr)) (fp : List Addr), BTs (X.blk s H scope (compEnvC scope cl C X.env) fp) g ifs ic)
    (he : ∀ (s : Shared) (H : Hp) (C : Addr) (cl : List (Str × Addr)) (fp : List Addr), BE (X.blk s H scope (compEnvC scope cl C X.env) fp) g W0 elt ie) (hs : ∀ x, foldedSetIterable iter X.env x = pure x := by intro _; rfl) :
    BE X g W (.ListComp elt [⟨tg, iter, ifs, 0⟩] scope pos) (.comp p il ic ie) := BE.ofF (bf_comp hc hN hi ok hv hg ht he hs)
theorem bf_lst (h : BA X g W es is) (hl : is.length ≤ 1000 := by decide) : BF X g W (.List es pos) (.lst is) := by
  refine peW (pe_lst h) fun σ H Q ⟨F, Av, ρ, o, rs, q⟩ => ⟨F, Av, ρ, o, rs, ?_⟩
  rw [evE] at q
  cases e1 : evEs g.C is ρ o with
  | no => rw [e1] at q; exact q
  | exc c d o' => rw [e1] at q; exact q
  | ok ds o' =>
    rw [e1] at q
    simp only [BV.R.bind_ok] at q
    intro vs H1 rs1 k1 r1
    refine ⟨by rw [r1.length, evEs_length e1]; exact le_line hl, fun p hp => ?_⟩
    refine q _ _ p vs ds (rs1.alloc hp) (k1.trans (kw_alloc hp)) rfl rfl ?_ upd_same (r1.cv (cv_av1 hp)) (rs1.fresh hp)
    by_cases n : F.wa = some p
    · exact absurd hp (rs1.there p (rs1.waav p n))
    · cases z : H p with
      | none => rfl
      | some u => rw [k1 p u n z] at hp; cases hp
end

/-! ### statements -/
section
variable (K : PySem.W.Frag) (g : Pg) (W : WX) (F : Fr) (Av : Addr → Prop) (H : Hp)
def goS (D : Ends) : Out → Prop
  | .nx ρ o => ∀ Av' σ' H', RS K F Av' ρ o σ' H' → Cv Av Av' H H' → D.nx σ' H'
  | .bk ρ o => ∀ Av' σ' H', RS K F Av' ρ o σ' H' → Cv Av Av' H H' → D.bk σ' H'
  | .ct ρ o => ∀ Av' σ' H', RS K F Av' ρ o σ' H' → Cv Av Av' H H' → D.ct σ' H'
  | .rt d o => ∀ v H', Kw F.wa F.H0 H' → Orc K F.Av0 F.wa F.da o H' → Rep K F.wa F.Av0 H' v d → D.rt v H'
  | .xc c d ρ o => ∀ Av' cls dx σ' H', RS K F Av' ρ o σ' H' → Cv Av Av' H H' → g.XP c d cls dx H' → W cls dx σ' H'
  | .no => False
end
def tS (K : PySem.W.Frag) (g : Pg) (W : WX) (is : List IS) : TS := fun D σ H => ∃ F Av ρ o, RS K F Av ρ o σ H ∧ goS K g W F Av H D (evSs g.C is ρ o)
abbrev BS (X : Cx) (g : Pg) (W : WX) (st : Stmt) (is : IS) : Prop := PS X st (tS X.K g W [is])
abbrev BSs (X : Cx) (g : Pg) (W : WX) (st : List Stmt) (is : List IS) : Prop := PSs X st (tS X.K g W is)
theorem psW {X : Cx} {e : Stmt} {t t' : TS} (h : PS X e t) (w : ∀ D σ H, t' D σ H → t D σ H) : PS X e t' := ⟨fun pins s σ H D I q => h.run pins s σ H D I (w D σ H q)⟩
theorem pssW {X : Cx} {e : List Stmt} {t t' : TS} (h : PSs X e t) (w : ∀ D σ H, t' D σ H → t D σ H) : PSs X e t' := ⟨fun pins s σ H D I q => h.run pins s σ H D I (w D σ H q)⟩
theorem Cv.trans {Av Av1 Av2 : Addr → Prop} {H H1 H2 : Hp} (a : Cv Av Av1 H H1) (b : Cv Av1 Av2 H1 H2) : Cv Av Av2 H H2 := fun x u e n => b x u (a x u e n).1 (a x u e n).2
section
variable {K : PySem.W.Frag} {g : Pg} {W : WX} {F : Fr} {Av Av' : Addr → Prop} {H H' : Hp} {D D' : Ends}
theorem goS.later {r : Out} (h : goS K g W F Av H D r) (c : Cv Av Av' H H') : goS K g W F Av' H' D r := by
  cases r with
  | nx ρ o => exact fun A σ H2 a b => h A σ H2 a (c.trans b)
  | bk ρ o => exact fun A σ H2 a b => h A σ H2 a (c.trans b)
  | ct ρ o => exact fun A σ H2 a b => h A σ H2 a (c.trans b)
  | rt d o => exact h
  | xc k d ρ o => exact fun A cls dx σ H2 a b => h A cls dx σ H2 a (c.trans b)
  | no => exact h
/-- one block, then another -/
theorem goS.seq {r : Out} {f : Env → Or → Out} (h : goS K g W F Av H D (r.then f)) :
    goS K g W F Av H { D with nx := fun σ' H' => ∃ F Av' ρ o, RS K F Av' ρ o σ' H' ∧ goS K g W F Av' H' D (f ρ o) } r := by
  cases r with
  | nx ρ o => exact fun A σ H2 a b => ⟨F, A, ρ, o, a, goS.later h b⟩
  | bk ρ o => exact h
  | ct ρ o => exact h
  | rt d o => exact h
  | xc k d ρ o => exact h
  | no => exact h
/-- an expression, then a statement's work -/
theorem goR.out {α β : Type} {rep : β → α → Hp → Prop} {ρ : Env} {o : Or} {σ : L2.St} {r : R α} {f : α → Or → Out} (rs : RS K F Av ρ o σ H) (h : goS K g W F Av H D (r.out ρ f)) :
    goR K g W F Av ρ σ rep H r (fun v H1 => ∃ d o1, r = .ok d o1 ∧ RS K F Av ρ o1 σ H1 ∧ Kw F.wa H H1 ∧ rep v d H1 ∧ goS K g W F Av H1 D (f d o1)) := by
  cases r with
  | ok d o1 => exact fun v H1 a b c => ⟨d, o1, rfl, a, b, c, goS.later h (Cv.kw b rs)⟩
  | exc c d o1 => exact fun cls dx H1 a b x => h Av cls dx σ H1 a (Cv.kw b rs) x
  | no => exact h
end
theorem evSs_one {C : Nat → List D → Or → R D} {i : IS} {ρ : Env} {o : Or} : evSs C [i] ρ o = evS C i ρ o := by
  rw [evSs]
  cases evS C i ρ o <;> simp [evSs, Out.then]
section
variable {X : Cx} {g : Pg} {W : WX} {st : Stmt} {sts : List Stmt} {e a b c : Expr} {ie ia ib ic : IE} {is js : List IS} {i : IS} {pos : Pos}
theorem bss_nil : BSs X g W [] [] := by
  refine pssW pss_nil fun D σ H ⟨F, Av, ρ, o, rs, q⟩ => ?_
  rw [evSs] at q
  exact q Av σ H rs Cv.refl
theorem bss_cons (h1 : BS X g W st i) (h2 : BSs X g W sts is) : BSs X g W (st :: sts) (i :: is) := by
  refine pssW (pss_cons h1 h2) fun D σ H ⟨F, Av, ρ, o, rs, q⟩ => ⟨F, Av, ρ, o, rs, ?_⟩
  rw [evSs] at q
  rw [evSs_one]
  exact q.seq
theorem bss_one (h1 : BS X g W st i) : BSs X g W [st] [i] := pssW (pss_one h1) fun _ _ _ h => h
/-- a list of a slot's own is let go: others may hold it from here on -/
theorem RS.frz {K : PySem.W.Frag} {F : Fr} {Av : Addr → Prop} {ρ : Env} {o : Or} {σ : L2.St} {H : Hp} (rs : RS K F Av ρ o σ H) {i : Nat} {d : D} (e : getS ρ i = .own d) : ∃ Av', RS K F Av' (setS ρ i (.val d)) o σ H ∧ Cv Av Av' H H := by
  obtain ⟨a, u0, ea, ha, r, av, nw⟩ := rs.ownG e
  have hi := rs.lt_len (.inr e)
  have c : Cv Av (fun b => Av b ∧ b ≠ a) H H := fun b u h n => ⟨h, fun z => n z.1⟩
  refine ⟨fun b => Av b ∧ b ≠ a, ⟨by rw [setS_len]; exact rs.len, fun j => ?_, fun j k d' e' b h1 h2 h3 h4 => ?_, ?_, rs.keep, fun j d' b h1 h2 => ?_, fun b h => ⟨rs.av0 b h, fun z => ?_⟩, rs.th0, fun b h => rs.there b h.1, fun b h => ⟨rs.waav b h, fun z => nw (by rw [h, z])⟩⟩, c⟩
  · rw [getS_setS]
    by_cases hj : i = j ∧ j < ρ.length
    · rw [if_pos hj]
      obtain ⟨rfl, _⟩ := hj
      rw [ea]
      rcases r with ⟨vs, ds, rfl, rfl, r⟩ | ⟨kvs, kds, rfl, rfl, r⟩
      · exact .lst (.inl ⟨.inl ha, fun z => z.2 rfl⟩) (r.cv c)
      · exact .dic ⟨ha, fun z => z.2 rfl⟩ (r.cv c)
    · rw [if_neg hj]
      cases q : getS ρ j with
      | un => trivial
      | val d' =>
        obtain ⟨v, e1, r1⟩ := rs.val q
        rw [e1]; exact r1.cv c
      | own d' =>
        obtain ⟨b, u1, e1, hb, r1, av1, nw1⟩ := rs.ownG q
        rw [e1]
        have hne : i ≠ j := fun z => hj ⟨z, by rw [← z]; exact hi⟩
        exact ⟨b, u1, rfl, hb, r1.cv c, ⟨av1, fun z => hne (rs.inj i j _ _ a e q ea (by rw [e1, z]))⟩, nw1⟩
  · rw [getS_setS] at h1 h2
    split at h1
    · cases h1
    · split at h2
      · cases h2
      · exact rs.inj j k d' e' b h1 h2 h3 h4
  · exact rs.orc.cv c fun _ _ _ e => e
  · rw [getS_setS] at h1
    split at h1
    · cases h1
    · exact rs.new j d' b h1 h2
  · rw [z] at h
    exact rs.th0 a h (rs.new i _ a e ea)
theorem bss_frz {j : Nat} (h : BSs X g W sts is) : BSs X g W sts (.frz j :: is) := by
  refine pssW h fun D σ H ⟨F, Av, ρ, o, rs, q⟩ => ?_
  rw [evSs, evS] at q
  cases e : getS ρ j with
  | own d =>
    rw [e] at q
    obtain ⟨Av', rs', c⟩ := rs.frz e
    exact ⟨F, Av', _, o, rs', goS.later q c⟩
  | un => rw [e] at q; exact ⟨F, Av, ρ, o, rs, q⟩
  | val d => rw [e] at q; exact ⟨F, Av, ρ, o, rs, q⟩

/-! ### assignments -/
/-- name = value -/
theorem bs_set {j : Nat} {x : Str} {pos' : Pos} (hN : X.N.Nodup) (hi : X.N[j]? = some x) (hx : Loc X.env.scope x) (he : BE X g W e ie) (hs : swapsWith e (some (.Name x pos')) pos.line X.env = pure false := by rfl) (hf : X.fn x = true ∨ X.env.scope.names.lookup x = some .local := by first | exact .inl rfl | exact .inr rfl | assumption) :
    BS X g W (.Assign [.Name x pos'] e pos) (.set (.slot j) ie) := by
  refine psW (ps_set (i := j) hN hi hx he hs hf) fun D σ H ⟨F, Av, ρ, o, rs, q⟩ => ⟨F, Av, ρ, o, rs, ?_⟩
  rw [evSs_one, evS] at q
  refine (goR.out rs q).mono fun v H1 ⟨d, o1, e1, rs1, k1, r1, q1⟩ => ?_
  simp only [bindP] at q1
  exact q1 Av _ H1 (rs1.set r1) Cv.refl
/-- a slot's own list stored -/
theorem RS.setOwn {K : PySem.W.Frag} {F : Fr} {Av : Addr → Prop} {ρ : Env} {o : Or} {σ : L2.St} {H : Hp} (rs : RS K F Av ρ o σ H) {i : Nat} {a : Addr} {u : HO} {d : D} (ha : H a = some u) (r : OwO K F.wa Av H u d) (av : Av a) (nw : F.wa ≠ some a) (h0 : F.H0 a = none)
    (nh : ∀ j d, getS ρ j = .own d → σ[j]? = some (some (.ref a)) → j = i) : RS K F Av (setS ρ i (.own d)) o (σ.set i (some (.ref a))) H where
  len := by rw [setS_len, List.length_set]; exact rs.len
  slot := fun j => by
    rw [getS_setS, getV_set, rs.len]
    split
    · exact ⟨a, u, rfl, ha, r, av, nw⟩
    · exact rs.slot j
  inj := fun j k d' e b h1 h2 h3 h4 => by
    rw [getS_setS, rs.len] at h1 h2
    rw [getV_set] at h3 h4
    split at h1
    · rename_i c1
      rw [if_pos c1] at h3
      split at h2
      · rename_i c2
        exact c1.1.symm.trans c2.1
      · rename_i c2
        rw [if_neg c2] at h4
        have : a = b := by simpa using h3
        subst this
        exact absurd ⟨(nh k e h2 h4).symm, by have := rs.lt_len (.inr h2); rw [← rs.len]; exact this⟩ c2
    · rename_i c1
      rw [if_neg c1] at h3
      split at h2
      · rename_i c2
        rw [if_pos c2] at h4
        have : a = b := by simpa using h4
        subst this
        exact absurd ⟨(nh j d' h1 h3).symm, by have := rs.lt_len (.inr h1); rw [← rs.len]; exact this⟩ c1
      · rename_i c2
        rw [if_neg c2] at h4
        exact rs.inj j k d' e b h1 h2 h3 h4
  orc := rs.orc
  keep := rs.keep
  new := fun j d' b h1 h2 => by
    rw [getS_setS, rs.len] at h1
    rw [getV_set] at h2
    split at h1
    · rename_i c1
      rw [if_pos c1] at h2
      have : a = b := by simpa using h2
      rw [← this]; exact h0
    · rename_i c1
      rw [if_neg c1] at h2
      exact rs.new j d' b h1 h2
  av0 := rs.av0
  th0 := rs.th0
  there := rs.there
  waav := rs.waav
theorem RS.setOwnL {K : PySem.W.Frag} {F : Fr} {Av : Addr → Prop} {ρ : Env} {o : Or} {σ : L2.St} {H : Hp} (rs : RS K F Av ρ o σ H) {i : Nat} {a : Addr} {vs : List V} {ds : List D} (ha : H a = some (.lst vs)) (r : Reps K F.wa Av H vs ds) (av : Av a) (nw : F.wa ≠ some a) (h0 : F.H0 a = none)
    (nh : ∀ j d, getS ρ j = .own d → σ[j]? = some (some (.ref a)) → j = i) : RS K F Av (setS ρ i (.own (.lst ds))) o (σ.set i (some (.ref a))) H := rs.setOwn ha (.inl ⟨_, _, rfl, rfl, r⟩) av nw h0 nh
theorem RS.h0 {K : PySem.W.Frag} {F : Fr} {Av : Addr → Prop} {ρ : Env} {o : Or} {σ : L2.St} {H : Hp} (rs : RS K F Av ρ o σ H) {a : Addr} (h : H a = none) : F.H0 a = none ∧ F.wa ≠ some a := by
  have nw : F.wa ≠ some a := fun z => rs.there a (rs.waav a z) h
  refine ⟨?_, nw⟩
  cases e : F.H0 a with
  | none => rfl
  | some u => rw [rs.keep a u nw e] at h; cases h
theorem RS.nh {K : PySem.W.Frag} {F : Fr} {Av : Addr → Prop} {ρ : Env} {o : Or} {σ : L2.St} {H : Hp} (rs : RS K F Av ρ o σ H) {a : Addr} (h : H a = none) (j : Nat) (d : D) (e : getS ρ j = .own d) : σ[j]? ≠ some (some (.ref a)) := fun z => by
  obtain ⟨b, u, e1, hb, _⟩ := rs.ownG e
  rw [e1] at z
  have : b = a := by simpa using z
  rw [this, h] at hb
  cases hb
/-- name = a new list of the slot's own -/
theorem bs_setO {j : Nat} {x : Str} {pos' : Pos} (hN : X.N.Nodup) (hi : X.N[j]? = some x) (hx : Loc X.env.scope x) (he : BF X g W e ie) (hs : swapsWith e (some (.Name x pos')) pos.line X.env = pure false := by rfl) (hf : X.fn x = true ∨ X.env.scope.names.lookup x = some .local := by first | exact .inl rfl | exact .inr rfl | assumption) :
    BS X g W (.Assign [.Name x pos'] e pos) (.setO j ie) := by
  refine psW (ps_set (i := j) hN hi hx he hs hf) fun D σ H ⟨F, Av, ρ, o, rs, q⟩ => ⟨F, Av, ρ, o, rs, ?_⟩
  rw [evSs_one, evS] at q
  cases e1 : evE g.C ie ρ o with
  | no => rw [e1] at q; exact q.elim
  | exc c d o1 => rw [e1] at q; exact fun cls dx H1 a b x => q Av cls dx σ H1 a (Cv.kw b rs) x
  | ok d o1 =>
    rw [e1] at q
    rintro v H1 a vs ds rs1 k1 rfl rfl ha hv r1 rsa
    obtain ⟨h0, nw⟩ := rs.h0 ha
    refine q (Av1 Av a) _ H1 (rsa.setOwn hv (.inl ⟨_, _, rfl, rfl, r1⟩) (.inr rfl) nw h0 fun k d' e' z => absurd z (rs.nh ha k d' e')) fun b u e n => ?_
    have nb : b ≠ a := ne_of_none e ha
    exact ⟨k1 b u (fun z => n (rs.waav b z)) e, fun z => z.elim n nb⟩
/-- name = [..] (a comprehension on one line) -/
theorem bs_setC {tg elt iter : Expr} {ifs : List Expr} {il : IE} {p : IP} {scope : Scope} {own : List (Str × Nat)} {j : Nat} {y : Str} {py spos : Pos} (hc : X.calm = true) (hN : X.N.Nodup) (hy : X.N[j]? = some y) (hyl : X.env.scope.names.lookup y = some .local)
    (hsw : swapsWith (.ListComp elt [⟨tg, iter, ifs, 0⟩] scope pos) (some (.Name y py)) spos.line X.env = pure true) (hi : BI X g W true tg iter il) (ok : BlkOk X.N X.env.scope scope own) (hv : own.map (·.2) = slotsP p)
    (hg : ∀ (s : Shared) (H : Hp) (C : Addr) (cl : List (Str × Addr)) (fp : List Addr), BG (X.blk s H scope (compEnvC scope cl C X.env) fp) tg p) (ht : ∀ (s : Shared) (H : Hp) (C : Addr) (cl : List (Str × Addr)) (fp : List Addr), BTs (X.blk s H scope (compEnvC scope cl C X.env) fp) g ifs ic)
    (he : ∀ (s : Shared) (H : Hp) (C : Addr) (cl : List (Str × Addr)) (fp : List Addr), BE (X.blk s H scope (compEnvC scope cl C X.env) fp) g W0 elt ie) (hs : ∀ x, foldedSetIterable iter X.env x = pure x := by intro _; rfl) :
    BS X g W (.Assign [.Name y py] (.ListComp elt [⟨tg, iter, ifs, 0⟩] scope pos) spos) (.set (.slot j) (.comp p il ic ie)) := by
  refine psW (ps_setLc (i := j) (g := gI X.K p) (tt := tIT X.K g W0 ic) (te := tI X.K g W0 ie) hc hN hy hyl hsw hi ok hg ht he hs) fun D σ H ⟨F, Av, ρ, o, rs, q⟩ => ?_
  rw [evSs_one, evS] at q
  show tLc _ _ _ _ _ σ H _
  rw [hv]
  refine comp_read rs ?_
  cases e1 : evE g.C (.comp p il ic ie) ρ o with
  | no => rw [e1] at q; exact q.elim
  | exc c d o1 => rw [e1] at q; exact fun cls dx H1 a b x => q Av cls dx σ H1 a (Cv.kw b rs) x
  | ok d o1 =>
    rw [e1] at q
    rintro v H1 a vs ds rs1 k1 rfl rfl ha hv r1 rsa
    simp only [BV.R.out_ok, bindP] at q
    exact q Av _ H1 (rs1.set (.lst (.inl ⟨.inl hv, fun av => rs.there a av ha⟩) (r1.cv fun b u e n => ⟨e, fun z => n (.inl z)⟩))) (Cv.kw k1 rs)
theorem bs_setOC {tg elt iter : Expr} {ifs : List Expr} {il : IE} {p : IP} {scope : Scope} {own : List (Str × Nat)} {j : Nat} {y : Str} {py spos : Pos} (hc : X.calm = true) (hN : X.N.Nodup) (hy : X.N[j]? = some y) (hyl : X.env.scope.names.lookup y = some .local)
    (hsw : swapsWith (.ListComp elt [⟨tg, iter, ifs, 0⟩] scope pos) (some (.Name y py)) spos.line X.env = pure true) (hi : BI X g W true tg iter il) (ok : BlkOk X.N X.env.scope scope own) (hv : own.map (·.2) = slotsP p)
    (hg : ∀ (s : Shared) (H : Hp) (C : Addr) (cl : List (Str × Addr)) (fp : List Addr), BG (X.blk s H scope (compEnvC scope cl C X.env) fp) tg p) (ht : ∀ (s : Shared) (H : Hp) (C : Addr) (cl : List (Str × Addr)) (fp : List Addr), BTs (X.blk s H scope (compEnvC scope cl C X.env) fp) g ifs ic)
    (he : ∀ (s : Shared) (H : Hp) (C : Addr) (cl : List (Str × Addr)) (fp : List Addr), BE (X.blk s H scope (compEnvC scope cl C X.env) fp) g W0 elt ie) (hs : ∀ x, foldedSetIterable iter X.env x = pure x := by intro _; rfl) :
    BS X g W (.Assign [.Name y py] (.ListComp elt [⟨tg, iter, ifs, 0⟩] scope pos) spos) (.setO j (.comp p il ic ie)) := by
  refine psW (ps_setLc (i := j) (g := gI X.K p) (tt := tIT X.K g W0 ic) (te := tI X.K g W0 ie) hc hN hy hyl hsw hi ok hg ht he hs) fun D σ H ⟨F, Av, ρ, o, rs, q⟩ => ?_
  rw [evSs_one, evS] at q
  show tLc _ _ _ _ _ σ H _
  rw [hv]
  refine comp_read rs ?_
  cases e1 : evE g.C (.comp p il ic ie) ρ o with
  | no => rw [e1] at q; exact q.elim
  | exc c d o1 => rw [e1] at q; exact fun cls dx H1 a b x => q Av cls dx σ H1 a (Cv.kw b rs) x
  | ok d o1 =>
    rw [e1] at q
    rintro v H1 a vs ds rs1 k1 rfl rfl ha hv r1 rsa
    obtain ⟨h0, nw⟩ := rs.h0 ha
    refine q (Av1 Av a) _ H1 (rsa.setOwn hv (.inl ⟨_, _, rfl, rfl, r1⟩) (.inr rfl) nw h0 fun k d' e' z => absurd z (rs.nh ha k d' e')) fun b u e n => ?_
    have nb : b ≠ a := ne_of_none e ha
    exact ⟨k1 b u (fun z => n (rs.waav b z)) e, fun z => z.elim n nb⟩
/-- targets = a value -/
theorem bs_asg {tg : Expr} {p : IP} (he : BE X g W e ie) (hg : BG X tg p) (hs : swapsWithSole [tg] e pos.line X.env = pure false := by rfl) (hw : swappedStores [tg] e X.env = pure none := by rfl)
    (h1 : (assignEach [tg] X.env).map (·.2) = [assign tg X.env] := by rfl) : BS X g W (.Assign [tg] e pos) (.set p ie) := by
  refine psW (ps_asg he hg hs hw h1) fun D σ H ⟨F, Av, ρ, o, rs, q⟩ => ⟨F, Av, ρ, o, rs, ?_⟩
  rw [evSs_one, evS] at q
  refine (goR.out rs q).mono fun v H1 ⟨d, o1, e1, rs1, k1, r1, q1⟩ => ?_
  cases hb : bindP p d ρ with
  | none => rw [hb] at q1; exact q1.elim
  | some ρ' =>
    rw [hb] at q1
    exact gI_ok p rs1 r1 hb fun σ' rs' _ => q1 Av σ' H1 rs' Cv.refl
end
end BV

end
/-! text: BVc.lean -/
section
set_option maxRecDepth 100000
set_option autoImplicit false
set_option maxHeartbeats 4000000
namespace BV
open PySem PySem.Spec PyProof.Rows L2
/-! ### comprehensions of two walks -/
def turnL (C : Nat → List D → Or → R D) (p : IP) (c : IE) (p1 : IP) (s1 c1 e : IE) (ρ : Env) : D → Or → R (List D) := fun x o => match bindP p x (wipeS ρ (slotsP p ++ slotsP p1)) with
  | none => .no
  | some ρ => (evE C c ρ o).test fun t _ o => if t then (evE C s1 ρ o).seq.bind fun ys o => compM (turnC C p1 c1 e ρ) ys o else .ok [] o
theorem evE_comp2 {C : Nat → List D → Or → R D} {p p1 : IP} {s c s1 c1 e : IE} {ρ : Env} {o : Or} : evE C (.comp2 p s c p1 s1 c1 e) ρ o = (evE C s ρ o).seq.bind fun xs o => (compL (turnL C p c p1 s1 c1 e ρ) xs o).pure.bind fun ys o => if ys.length ≤ cap then .ok (.lst ys) o else .no := by
  rw [evE]; rfl
theorem compL_cons {f : D → Or → R (List D)} {x : D} {xs ys : List D} {o oN : Or} (h : compL f (x :: xs) o = .ok ys oN) :
    ∃ y o1 zs, f x o = .ok y o1 ∧ compL f xs o1 = .ok zs oN ∧ ys = y ++ zs := by
  rw [compL] at h
  cases e : f x o with
  | no => rw [e] at h; cases h
  | exc _ _ _ => rw [e] at h; cases h
  | ok y o1 =>
    rw [e, BV.R.bind_ok] at h
    cases e2 : compL f xs o1 with
    | no => rw [e2] at h; cases h
    | exc _ _ _ => rw [e2] at h; cases h
    | ok zs o2 => rw [e2, BV.R.bind_ok] at h; cases h; exact ⟨y, o1, _, rfl, e2, rfl⟩
/-! own slots stay what they were -/
theorem own_setV {ρ : Env} {i j : Nat} {d e : D} (h : getS (setS ρ i (.val d)) j = .own e) : getS ρ j = .own e := by
  rw [getS_setS] at h
  split at h
  · cases h
  · exact h
theorem own_unset {ρ : Env} {i j : Nat} {e : D} (h : getS (setS ρ i .un) j = .own e) : getS ρ j = .own e ∧ i ≠ j := by
  rw [getS_setS] at h
  split at h
  · cases h
  · rename_i hn
    refine ⟨h, fun z => hn ⟨z, ?_⟩⟩
    have : ∀ (ρ : Env) (j : Nat), getS ρ j = .own e → j < ρ.length := by
      intro ρ
      induction ρ with
      | nil => intro j h; simp [getS] at h
      | cons y ρ ih =>
        intro j h
        cases j with
        | zero => simp
        | succ j => simpa using ih j h
    exact this ρ j h
mutual
theorem own_bind : ∀ (p : IP) {ρ ρ' : Env} {d e : D} {j : Nat}, bindP p d ρ = some ρ' → getS ρ' j = .own e → getS ρ j = .own e
  | .slot i, ρ, ρ', d, e, j, h, g => by
    rw [bindP] at h
    cases h
    exact own_setV g
  | .tup ps, ρ, ρ', d, e, j, h, g => by
    cases d <;> simp only [bindP, reduceCtorEq] at h
    exact own_binds ps h g
theorem own_binds : ∀ (ps : List IP) {ρ ρ' : Env} {ds : List D} {e : D} {j : Nat}, bindPs ps ds ρ = some ρ' → getS ρ' j = .own e → getS ρ j = .own e
  | [], ρ, ρ', ds, e, j, h, g => by
    cases ds <;> simp only [bindPs, reduceCtorEq] at h
    cases h
    exact g
  | p :: ps, ρ, ρ', ds, e, j, h, g => by
    cases ds with
    | nil => simp [bindPs] at h
    | cons d ds =>
      rw [bindPs] at h
      cases q : bindP p d ρ with
      | none => rw [q] at h; cases h
      | some ρ1 =>
        rw [q] at h
        exact own_bind p q (own_binds ps h g)
end
theorem own_wipe {ρ : Env} {e : D} {j : Nat} : ∀ {vs : List Nat}, getS (wipeS ρ vs) j = .own e → getS ρ j = .own e ∧ j ∉ vs
  | [], h => ⟨h, by simp⟩
  | v :: vs, h => by
    obtain ⟨h1, h2⟩ := own_unset (show getS (setS (wipeS ρ vs) v .un) j = .own e from h)
    obtain ⟨h3, h4⟩ := own_wipe h1
    exact ⟨h3, fun z => (List.mem_cons.mp z).elim (fun z => h2 z.symm) h4⟩
theorem wipe_get {σ : L2.St} {j : Nat} : ∀ {vs : List Nat}, j ∉ vs → (wipe σ vs)[j]? = σ[j]?
  | [], _ => rfl
  | v :: vs, h => by
    show ((wipe σ vs).set v none)[j]? = _
    rw [List.getElem?_set_ne (fun z => h (by simp [z])), wipe_get fun z => h (by simp [z])]
theorem wipe_sub (σ : L2.St) {vs ws : List Nat} (h : ∀ v ∈ ws, v ∈ vs) : wipe (wipe σ ws) vs = wipe σ vs := by
  induction ws with
  | nil => rfl
  | cons w ws ih =>
    show wipe ((wipe σ ws).set w none) vs = _
    rw [wipe_set (h w List.mem_cons_self), ih fun v hv => h v (List.mem_cons_of_mem _ hv)]
section
variable {X : Cx} {g : Pg} {W : WX} {tg elt iter e : Expr} {ifs : List Expr} {ie ic il il1 ic1 : IE} {p p1 : IP} {pos : Pos} {scope : Scope} {own : List (Str × Nat)}
/-- what the inner walk leaves -/
def NxL (K : PySem.W.Frag) (F : Fr) (Av : Addr → Prop) (D : Addr) (ρ : Env) (σ : L2.St) (H1 : Hp) (o : Or) (ds : List BV.D) (H' : Hp) : Prop :=
  ∃ acc, RS K F (Av1 Av D) ρ o σ H' ∧ Kw F.wa H1 H' ∧ H' D = some (.lst acc) ∧ Reps K F.wa (Av1 Av D) H' acc ds
theorem inner_read {K : PySem.W.Frag} {F : Fr} {Av : Addr → Prop} {ρ ρ' : Env} {σ σ2 : L2.St} {J : It} {H1 H3 : Hp} {xs zs ds : List BV.D} {o3 oN : Or} {D : Addr} {Nx : Hp → Prop}
    (rsO : RS K F (Av1 Av D) ρ o3 σ H3) (rsI : RS K F (Av1 Av D) ρ' o3 σ2 H3) (k : Kw F.wa H1 H3) {acc : List V} (hacc : H3 D = some (.lst acc)) (rp : Reps K F.wa (Av1 Av D) H3 acc ds) (hD : H1 D = none) (nwD : F.wa ≠ some D) (h0D : F.H0 D = none)
    (noO : ∀ i d, getS ρ i = .own d → σ[i]? ≠ some (some (.ref D))) (noI : ∀ i d, getS ρ' i = .own d → σ2[i]? ≠ some (some (.ref D)))
    (it : ItOk K false F.wa (Av1 Av D) J xs H3) (hc : compM (turnC g.C p1 ic1 ie ρ') xs o3 = .ok zs oN) (hlen : ds.length + zs.length ≤ cap)
    (hN : ∀ H', NxL K F Av D ρ σ H1 oN (ds ++ zs) H' → Nx H') :
    ∃ W1 : Nat → Nat → Hp → Prop, (∃ m, W1 0 m H3) ∧ ∀ j k H, W1 j k H →
      (J.stop j H ∧ Nx H) ∨ (J.go j H ∧ ∃ Nx1 : Hp → Prop, (∀ H', Nx1 H' → ∃ k', k' < k ∧ W1 (j + 1) k' H') ∧ ∀ x H', J.yld j H x H' → gI K p1 x (wipe σ2 (slotsP p1)) H' fun σ3 H5 => wipe σ3 (slotsP p1) = wipe σ2 (slotsP p1) ∧ tIT K g W0 ic1 σ3 H5 fun b H6 =>
        if b = true then tI K g W0 ie σ3 H6 fun y H7 => ∃ acc, H7 D = some (.lst acc) ∧ acc.length < sizeLine ∧ Nx1 (upd H7 D (.lst (acc ++ [y]))) else Nx1 H6) := by
  have avD : Av1 Av D D := .inr rfl
  let IV : Nat → Hp → Prop := fun i H => ∃ o' acc ds' zs', RS K F (Av1 Av D) ρ o' σ H ∧ RS K F (Av1 Av D) ρ' o' σ2 H ∧ Kw F.wa H1 H ∧ H D = some (.lst acc) ∧ Reps K F.wa (Av1 Av D) H acc ds' ∧ compM (turnC g.C p1 ic1 ie ρ') (xs.drop i) o' = .ok zs' oN ∧ ds ++ zs = ds' ++ zs' ∧ Cv (Av1 Av D) (Av1 Av D) H3 H
  refine ⟨fun i m H => m = xs.length - i ∧ i ≤ xs.length ∧ IV i H, ⟨xs.length, rfl, Nat.zero_le _, o3, acc, ds, zs, rsO, rsI, k, hacc, rp, hc, rfl, Cv.refl⟩, ?_⟩
  rintro i m H ⟨rfl, hi, o', acc, ds', zs', rs, rsi, kw, ha, rp', hcm, heq, cv⟩
  have hx := it.1
  obtain ⟨hst, hgo⟩ := it.2 (Av1 Av D) H cv (fun z => nomatch z) rs.there
  by_cases hlt : i < xs.length
  · obtain ⟨hg1, hy1⟩ := hgo i hlt
    have hdrop : xs.drop i = xs[i] :: xs.drop (i + 1) := List.drop_eq_getElem_cons hlt
    rw [hdrop] at hcm
    obtain ⟨y, o2, zs2, hf, hcm', hzs⟩ := compM_cons hcm
    refine .inr ⟨hg1, IV (i + 1), fun H' h => ⟨xs.length - (i + 1), by omega, rfl, hlt, h⟩, fun x H' hy => ?_⟩
    obtain ⟨hgrow, d, hd, rx⟩ := hy1 x H' hy
    have hxd : xs[i] = d := by
      rw [List.getElem?_eq_getElem hlt] at hd
      exact Option.some.inj hd
    have kH : Kw F.wa H H' := by
      rcases hgrow with rfl | ⟨p', u, hp, rfl⟩
      · exact Kw.refl _ _
      · exact kw_alloc hp
    have both : RS K F (Av1 Av D) ρ o' σ H' ∧ RS K F (Av1 Av D) ρ' o' σ2 H' := by
      rcases hgrow with rfl | ⟨p', u, hp, rfl⟩
      · exact ⟨rs, rsi⟩
      · exact ⟨rs.alloc hp, rsi.alloc hp⟩
    obtain ⟨rs', rsi'⟩ := both
    rw [hxd] at hf
    unfold turnC at hf
    cases hb : bindP p1 d (wipeS ρ' (slotsP p1)) with
    | none => rw [hb] at hf; cases hf
    | some ρ3 =>
      rw [hb] at hf
      refine gI_ok p1 (rsi'.wipe (slotsP p1)) rx hb fun σ3 rsb hw => ⟨?_, ?_⟩
      · rw [hw _ fun _ h => h, wipe_wipe]
      · simp only at hf
        cases e1 : evE g.C ic1 ρ3 o' with
        | no => rw [e1] at hf; cases hf
        | exc _ _ _ => rw [e1] at hf; cases hf
        | ok t o3' =>
          rw [e1] at hf
          simp only [BV.R.test, BV.R.bind_ok] at hf
          cases e2 : truth t with
          | none => rw [e2] at hf; cases hf
          | some b =>
            rw [e2] at hf
            refine ⟨F, Av1 Av D, ρ3, o', rsb, ?_⟩
            rw [e1]
            simp only [BV.R.tst, BV.R.test, BV.R.bind_ok, e2]
            rintro b' H4 rs4 k4 rfl
            have kk : Kw F.wa H H4 := kH.trans k4
            have rso : RS K F (Av1 Av D) ρ o3' σ H4 := rs.kw kk rs4.orc
            have rsI4 : RS K F (Av1 Av D) ρ' o3' σ2 H4 := rsi.kw kk rs4.orc
            have ck : Cv (Av1 Av D) (Av1 Av D) H H4 := Cv.kw kk rs
            cases b' with
            | false =>
              simp only [Bool.false_eq_true, if_false] at hf ⊢
              cases hf
              exact ⟨o2, acc, ds', zs2, rso, rsI4, kw.trans kk, kk D _ nwD ha, rp'.cv ck, hcm', by rw [heq, hzs], cv.trans ck⟩
            | true =>
              simp only [if_true] at hf ⊢
              cases e3 : evE g.C ie ρ3 o3' with
              | no => rw [e3] at hf; cases hf
              | exc _ _ _ => rw [e3] at hf; cases hf
              | ok y' o4 =>
                rw [e3] at hf
                cases hf
                refine ⟨F, Av1 Av D, ρ3, o3', rs4, ?_⟩
                rw [e3]
                intro w H5 rs5 k5 r5
                have kk5 : Kw F.wa H H5 := kk.trans k5
                have hacc5 : H5 D = some (.lst acc) := kk5 D _ nwD ha
                have c5 : Cv (Av1 Av D) (Av1 Av D) H H5 := Cv.kw kk5 rs
                have hl := rp'.length
                have hz := congrArg List.length heq
                rw [hzs] at hz
                simp only [List.length_append, List.length_cons] at hz
                refine ⟨acc, hacc5, by rw [← cap_eq]; omega, o2, acc ++ [w], ds' ++ [y'], zs2, ?_, ?_, ?_, upd_same, ?_, hcm', by rw [heq, hzs]; simp, cv.trans (c5.trans (cv_upd avD))⟩
                · exact (rs.kw kk5 rs5.orc).upd_own avD nwD h0D noO
                · exact (rsi.kw kk5 rs5.orc).upd_own avD nwD h0D noI
                · intro a u n e
                  rw [upd_ne (ne_of_none e hD)]
                  exact kk5 a u n (kw a u n e)
                · exact ((rp'.cv c5).append (.cons r5 .nil)).cv (cv_upd avD)
  · have hie : i = xs.length := by omega
    subst hie
    rw [List.drop_length] at hcm
    simp only [compM] at hcm
    cases hcm
    exact .inl ⟨hst, hN H ⟨acc, rs, kw, ha, by rw [heq, List.append_nil]; exact rp'⟩⟩

theorem lc2_read {K : PySem.W.Frag} {F : Fr} {Av : Addr → Prop} {ρ : Env} {σ : L2.St} {vs : List Nat} (hv : vs = slotsP p ++ slotsP p1) {J : It} {H1 : Hp} {xs ys : List BV.D} {o1 oN : Or} {Q : VK}
    (rs1 : RS K F Av ρ o1 σ H1) (it : ItOk K true F.wa Av J xs H1) (hc : compL (turnL g.C p ic p1 il1 ic1 ie ρ) xs o1 = .ok ys oN) (hcap : ys.length ≤ cap)
    (q : ∀ v H', RS K F Av ρ oN σ H' → Kw F.wa H1 H' → Rep K F.wa Av H' v (.lst ys) → (∃ a, v = .ref a ∧ H1 a = none ∧ ∃ vs, H' a = some (.lst vs) ∧ Reps K F.wa (Av1 Av a) H' vs ys ∧ RS K F (Av1 Av a) ρ oN σ H') → Q v H') :
    ∀ D, H1 D = none → ∃ W : Nat → Nat → Hp → Prop, (∃ m, W 0 m (upd H1 D (.lst []))) ∧ ∀ i m H, W i m H →
      (J.stop i H ∧ Q (.ref D) H) ∨ (J.go i H ∧ ∃ Nx : Hp → Prop, (∀ H', Nx H' → ∃ m', m' < m ∧ W (i + 1) m' H') ∧ ∀ x H', J.yld i H x H' → gI K p x (wipe σ vs) H' fun σ2 H2 => wipe σ2 vs = wipe σ vs ∧ tIT K g W0 ic σ2 H2 fun b H3 =>
        if b = true then tII K g W0 false il1 σ2 H3 fun J1 H4 => ∃ W1 : Nat → Nat → Hp → Prop, (∃ m, W1 0 m H4) ∧ ∀ j k H, W1 j k H →
          (J1.stop j H ∧ Nx H) ∨ (J1.go j H ∧ ∃ Nx1 : Hp → Prop, (∀ H', Nx1 H' → ∃ k', k' < k ∧ W1 (j + 1) k' H') ∧ ∀ x H', J1.yld j H x H' → gI K p1 x (wipe σ2 (slotsP p1)) H' fun σ3 H5 => wipe σ3 (slotsP p1) = wipe σ2 (slotsP p1) ∧ tIT K g W0 ic1 σ3 H5 fun b H6 =>
            if b = true then tI K g W0 ie σ3 H6 fun y H7 => ∃ acc, H7 D = some (.lst acc) ∧ acc.length < sizeLine ∧ Nx1 (upd H7 D (.lst (acc ++ [y]))) else Nx1 H6)
        else Nx H3) := by
  intro D hD
  have fr := rs1.fresh (u := .lst []) hD
  obtain ⟨h0D, nwD⟩ := rs1.h0 hD
  have avD : Av1 Av D D := .inr rfl
  have noO : ∀ i d, getS ρ i = .own d → σ[i]? ≠ some (some (.ref D)) := rs1.nh hD
  let IV : Nat → Hp → Prop := fun i H => ∃ o' ds zs, NxL K F Av D ρ σ H1 o' ds H ∧ compL (turnL g.C p ic p1 il1 ic1 ie ρ) (xs.drop i) o' = .ok zs oN ∧ ys = ds ++ zs
  refine ⟨fun i m H => m = xs.length - i ∧ i ≤ xs.length ∧ IV i H, ⟨xs.length, rfl, Nat.zero_le _, o1, [], ys, ⟨[], fr, kw_alloc hD, upd_same, .nil⟩, hc, rfl⟩, ?_⟩
  rintro i m H ⟨rfl, hi, o', ds, zs, ⟨acc, rs, k, hacc, rp⟩, hcm, heq⟩
  have cvD : Cv Av (Av1 Av D) H1 H := fun a u e n => by
    have na : a ≠ D := ne_of_none e hD
    exact ⟨k a u (fun w => n (rs1.waav a w)) e, fun z => z.elim n na⟩
  obtain ⟨hst, hgo⟩ := it.2 (Av1 Av D) H cvD (fun _ => k) rs.there
  by_cases hlt : i < xs.length
  · obtain ⟨hg1, hy1⟩ := hgo i hlt
    have hdrop : xs.drop i = xs[i] :: xs.drop (i + 1) := List.drop_eq_getElem_cons hlt
    rw [hdrop] at hcm
    obtain ⟨y, o2, zs', hf, hcm', hzs⟩ := compL_cons hcm
    refine .inr ⟨hg1, IV (i + 1), fun H' h => ⟨xs.length - (i + 1), by omega, rfl, hlt, h⟩, fun x H' hy => ?_⟩
    obtain ⟨hgrow, d, hd, rx⟩ := hy1 x H' hy
    have hxd : xs[i] = d := by
      rw [List.getElem?_eq_getElem hlt] at hd
      exact Option.some.inj hd
    have kH : Kw F.wa H H' := by
      rcases hgrow with rfl | ⟨p', u, hp, rfl⟩
      · exact Kw.refl _ _
      · exact kw_alloc hp
    have rs' : RS K F (Av1 Av D) ρ o' σ H' := by
      rcases hgrow with rfl | ⟨p', u, hp, rfl⟩
      · exact rs
      · exact rs.alloc hp
    rw [hxd] at hf
    unfold turnL at hf
    cases hb : bindP p d (wipeS ρ (slotsP p ++ slotsP p1)) with
    | none => rw [hb] at hf; cases hf
    | some ρ' =>
      rw [hb] at hf
      subst hv
      refine gI_ok p (rs'.wipe (slotsP p ++ slotsP p1)) rx hb fun σ2 rsb hw => ?_
      have hwp : wipe σ2 (slotsP p ++ slotsP p1) = wipe σ (slotsP p ++ slotsP p1) := by rw [hw _ fun j hj => by simp [hj], wipe_wipe]
      refine ⟨hwp, ?_⟩
      have noI : ∀ j d, getS ρ' j = .own d → σ2[j]? ≠ some (some (.ref D)) := fun j d e => by
        obtain ⟨e1, e2⟩ := own_wipe (own_bind p hb e)
        have := noO j d e1
        rwa [← wipe_get (σ := σ) e2, ← hwp, wipe_get e2] at this
      simp only at hf
      cases e1 : evE g.C ic ρ' o' with
      | no => rw [e1] at hf; cases hf
      | exc _ _ _ => rw [e1] at hf; cases hf
      | ok t o3 =>
        rw [e1] at hf
        simp only [BV.R.test, BV.R.bind_ok] at hf
        cases e2 : truth t with
        | none => rw [e2] at hf; cases hf
        | some b =>
          rw [e2] at hf
          refine ⟨F, Av1 Av D, ρ', o', rsb, ?_⟩
          rw [e1]
          simp only [BV.R.tst, BV.R.test, BV.R.bind_ok, e2]
          rintro b' H3 rs3 k3 rfl
          have kk : Kw F.wa H H3 := kH.trans k3
          have rso : RS K F (Av1 Av D) ρ o3 σ H3 := rs.kw kk rs3.orc
          cases b' with
          | false =>
            simp only [Bool.false_eq_true, if_false] at hf ⊢
            cases hf
            exact ⟨o2, ds, zs', ⟨acc, rso, k.trans kk, kk D _ nwD hacc, rp.cv (Cv.kw kk rs)⟩, hcm', by rw [heq, hzs, List.nil_append]⟩
          | true =>
            simp only [if_true] at hf ⊢
            cases e3 : (evE g.C il1 ρ' o3).seq with
            | no => rw [e3] at hf; cases hf
            | exc _ _ _ => rw [e3] at hf; cases hf
            | ok xs1 o4 =>
              rw [e3, BV.R.bind_ok] at hf
              refine ⟨F, Av1 Av D, ρ', o3, rs3, ?_⟩
              rw [e3]
              intro J1 H4 rs4 k4 it1
              have kk4 : Kw F.wa H H4 := kk.trans k4
              refine inner_read (rs.kw kk4 rs4.orc) rs4 (k.trans kk4) (kk4 D _ nwD hacc) (rp.cv (Cv.kw kk4 rs)) hD nwD h0D noO noI it1 hf ?_ fun H5 hN => ⟨o2, ds ++ y, zs', hN, hcm', by rw [heq, hzs, List.append_assoc]⟩
              rw [heq, hzs] at hcap
              simp only [List.length_append] at hcap
              omega
  · have hie : i = xs.length := by omega
    subst hie
    rw [List.drop_length] at hcm
    simp only [compL] at hcm
    cases hcm
    refine .inl ⟨hst, ?_⟩
    rw [List.append_nil] at heq
    subst heq
    have rsA : RS K F Av ρ oN σ H := rs1.kw k (by
      have := rs.orc
      exact this.cv (fun a u e n => ⟨e, fun z => n (.inl z)⟩) fun _ _ _ e => e)
    refine q _ _ rsA k ?_ ⟨D, rfl, hD, acc, hacc, rp, rs⟩
    exact .lst (.inl ⟨.inl hacc, rs1.notAv hD⟩) (rp.cv fun a u e n => ⟨e, fun z => n (.inl z)⟩)
/-- the whole reading -/
theorem comp2_read {σ : L2.St} {H : Hp} {Q : VK} {F : Fr} {Av : Addr → Prop} {ρ : Env} {o : Or} (rs : RS X.K F Av ρ o σ H)
    (q : match evE g.C (.comp2 p il ic p1 il1 ic1 ie) ρ o with
      | .ok d o' => ∀ v H' a vs ds, RS X.K F Av ρ o' σ H' → Kw F.wa H H' → v = .ref a → d = .lst ds → H a = none → H' a = some (.lst vs) → Reps X.K F.wa (Av1 Av a) H' vs ds → RS X.K F (Av1 Av a) ρ o' σ H' → Q v H'
      | .exc c d o' => ∀ cls dx H', RS X.K F Av ρ o' σ H' → Kw F.wa H H' → g.XP c d cls dx H' → W cls dx σ H'
      | .no => False) : tLc2 (tII X.K g W true il) (gI X.K p) (tIT X.K g W0 ic) (tII X.K g W0 false il1) (gI X.K p1) (tIT X.K g W0 ic1) (tI X.K g W0 ie) (slotsP p ++ slotsP p1) (slotsP p1) σ H Q := by
  refine ⟨F, Av, ρ, o, rs, ?_⟩
  rw [evE_comp2] at q
  cases e1 : (evE g.C il ρ o).seq with
  | no => rw [e1] at q; exact q.elim
  | exc c d o' => rw [e1] at q; exact q
  | ok xs o1 =>
    rw [e1] at q
    simp only [BV.R.bind_ok] at q
    intro J H1 rs1 k1 it
    cases e2 : compL (turnL g.C p ic p1 il1 ic1 ie ρ) xs o1 with
    | no => rw [e2] at q; exact q.elim
    | exc c d o' => rw [e2] at q; exact q.elim
    | ok ys oN =>
      rw [e2] at q
      simp only [BV.R.pure_ok, BV.R.bind_ok] at q
      by_cases hcap : ys.length ≤ cap
      · rw [if_pos hcap] at q
        refine lc2_read (Av := Av) rfl rs1 it e2 hcap fun v H' rs' k' r' ⟨a, ea, ha, vs, hv, rp, rsa⟩ => q v H' a vs ys rs' (k1.trans k') ea rfl ?_ hv rp rsa
        by_cases n : F.wa = some a
        · exact absurd ha (rs1.there a (rs1.waav a n))
        · cases z : H a with
          | none => rfl
          | some u => rw [k1 a u n z] at ha; cases ha
      · rw [if_neg hcap] at q
        exact q.elim
section
variable {tg1 iter1 : Expr} {ifs1 : List Expr}
theorem bf_comp2 (hc : X.calm = true) (hN : X.N.Nodup) (hi : BI X g W true tg iter il) (ok : BlkOk X.N X.env.scope scope own) (hv : own.map (·.2) = slotsP p ++ slotsP p1)
    (hg : ∀ (s : Shared) (H : Hp) (C : Addr) (cl : List (Str × Addr)) (fp : List Addr), BG (X.blk s H scope (compEnvC scope cl C X.env) fp) tg p) (ht : ∀ (s : Shared) (H : Hp) (C : Addr) (cl : List (Str × Addr)) (fp : List Addr), BTs (X.blk s H scope (compEnvC scope cl C X.env) fp) g ifs ic)
    (hi1 : ∀ (s : Shared) (H : Hp) (C : Addr) (cl : List (Str × Addr)) (fp : List Addr), BI (X.blk s H scope (compEnvC scope cl C X.env) fp) g W0 false tg1 iter1 il1)
    (hg1 : ∀ (s : Shared) (H : Hp) (C : Addr) (cl : List (Str × Addr)) (fp : List Addr), BG (X.blk s H scope (compEnvC scope cl C X.env) fp) tg1 p1) (ht1 : ∀ (s : Shared) (H : Hp) (C : Addr) (cl : List (Str × Addr)) (fp : List Addr), BTs (X.blk s H scope (compEnvC scope cl C X.env) fp) g ifs1 ic1)
    (he : ∀ (s : Shared) (H : Hp) (C : Addr) (cl : List (Str × Addr)) (fp : List Addr), BE (X.blk s H scope (compEnvC scope cl C X.env) fp) g W0 elt ie) (hs : ∀ x, foldedSetIterable iter X.env x = pure x := by intro _; rfl) (hs1 : ∀ env x, foldedSetIterable iter1 env x = pure x := by intro _ _; rfl) :
    BF X g W (.ListComp elt [⟨tg, iter, ifs, 0⟩, ⟨tg1, iter1, ifs1, 0⟩] scope pos) (.comp2 p il ic p1 il1 ic1 ie) := by
  refine peW (pe_lc2 (g := gI X.K p) (tt := tIT X.K g W0 ic) (te := tI X.K g W0 ie) (wi1 := tII X.K g W0 false il1) (g1 := gI X.K p1) (tt1 := tIT X.K g W0 ic1) (vs1 := slotsP p1) hc hN hi ok (fun i hi => by rw [hv]; simp [hi]) hg ht hi1 hg1 ht1 he hs hs1) fun σ H Q ⟨F, Av, ρ, o, rs, q⟩ => ?_
  rw [hv]
  exact comp2_read rs q
theorem be_comp2 (hc : X.calm = true) (hN : X.N.Nodup) (hi : BI X g W true tg iter il) (ok : BlkOk X.N X.env.scope scope own) (hv : own.map (·.2) = slotsP p ++ slotsP p1)
    (hg : ∀ (s : Shared) (H : Hp) (C : Addr) (cl : List (Str × Addr)) (fp : List Addr), BG (X.blk s H scope (compEnvC scope cl C X.env) fp) tg p) (ht : ∀ (s : Shared) (H : Hp) (C : Addr) (cl : List (Str × Addr)) (fp : List Addr), BTs (X.blk s H scope (compEnvC scope cl C X.env) fp) g ifs ic)
    (hi1 : ∀ (s : Shared) (H : Hp) (C : Addr) (cl : List (Str × Addr)) (fp : List Addr), BI (X.blk s H scope (compEnvC scope cl C X.env) fp) g W0 false tg1 iter1 il1)
    (hg1 : ∀ (s : Shared) (H : Hp) (C : Addr) (cl : List (Str × Addr)) (fp : List Addr), BG (X.blk s H scope (compEnvC scope cl C X.env) fp) tg1 p1) (ht1 : ∀ (s : Shared) (H : Hp) (C : Addr) (cl : List (Str × Addr)) (fp : List Addr), BTs (X.blk s H scope (compEnvC scope cl C X.env) fp) g ifs1 ic1)
    (he : ∀ (s : Shared) (H : Hp) (C : Addr) (cl : List (Str × Addr)) (fp : List Addr), BE (X.blk s H scope (compEnvC scope cl C X.env) fp) g W0 elt ie) (hs : ∀ x, foldedSetIterable iter X.env x = pure x := by intro _; rfl) (hs1 : ∀ env x, foldedSetIterable iter1 env x = pure x := by intro _ _; rfl) :
    BE X g W (.ListComp elt [⟨tg, iter, ifs, 0⟩, ⟨tg1, iter1, ifs1, 0⟩] scope pos) (.comp2 p il ic p1 il1 ic1 ie) := BE.ofF (bf_comp2 hc hN hi ok hv hg ht hi1 hg1 ht1 he hs hs1)
theorem bs_setC2 {j : Nat} {y : Str} {py spos : Pos} (hc : X.calm = true) (hN : X.N.Nodup) (hy : X.N[j]? = some y) (hyl : X.env.scope.names.lookup y = some .local)
    (hsw : swapsWith (.ListComp elt [⟨tg, iter, ifs, 0⟩, ⟨tg1, iter1, ifs1, 0⟩] scope pos) (some (.Name y py)) spos.line X.env = pure true) (hi : BI X g W true tg iter il) (ok : BlkOk X.N X.env.scope scope own) (hv : own.map (·.2) = slotsP p ++ slotsP p1)
    (hg : ∀ (s : Shared) (H : Hp) (C : Addr) (cl : List (Str × Addr)) (fp : List Addr), BG (X.blk s H scope (compEnvC scope cl C X.env) fp) tg p) (ht : ∀ (s : Shared) (H : Hp) (C : Addr) (cl : List (Str × Addr)) (fp : List Addr), BTs (X.blk s H scope (compEnvC scope cl C X.env) fp) g ifs ic)
    (hi1 : ∀ (s : Shared) (H : Hp) (C : Addr) (cl : List (Str × Addr)) (fp : List Addr), BI (X.blk s H scope (compEnvC scope cl C X.env) fp) g W0 false tg1 iter1 il1)
    (hg1 : ∀ (s : Shared) (H : Hp) (C : Addr) (cl : List (Str × Addr)) (fp : List Addr), BG (X.blk s H scope (compEnvC scope cl C X.env) fp) tg1 p1) (ht1 : ∀ (s : Shared) (H : Hp) (C : Addr) (cl : List (Str × Addr)) (fp : List Addr), BTs (X.blk s H scope (compEnvC scope cl C X.env) fp) g ifs1 ic1)
    (he : ∀ (s : Shared) (H : Hp) (C : Addr) (cl : List (Str × Addr)) (fp : List Addr), BE (X.blk s H scope (compEnvC scope cl C X.env) fp) g W0 elt ie) (hs : ∀ x, foldedSetIterable iter X.env x = pure x := by intro _; rfl) (hs1 : ∀ env x, foldedSetIterable iter1 env x = pure x := by intro _ _; rfl) :
    BS X g W (.Assign [.Name y py] (.ListComp elt [⟨tg, iter, ifs, 0⟩, ⟨tg1, iter1, ifs1, 0⟩] scope pos) spos) (.set (.slot j) (.comp2 p il ic p1 il1 ic1 ie)) := by
  refine psW (ps_setLc2 (i := j) (g := gI X.K p) (tt := tIT X.K g W0 ic) (te := tI X.K g W0 ie) (wi1 := tII X.K g W0 false il1) (g1 := gI X.K p1) (tt1 := tIT X.K g W0 ic1) (vs1 := slotsP p1) hc hN hy hyl hsw hi ok (fun i hi => by rw [hv]; simp [hi]) hg ht hi1 hg1 ht1 he hs hs1) fun D σ H ⟨F, Av, ρ, o, rs, q⟩ => ?_
  rw [evSs_one, evS] at q
  show tLc2 _ _ _ _ _ _ _ _ _ σ H _
  rw [hv]
  refine comp2_read rs ?_
  cases e1 : evE g.C (.comp2 p il ic p1 il1 ic1 ie) ρ o with
  | no => rw [e1] at q; exact q.elim
  | exc c d o1 => rw [e1] at q; exact fun cls dx H1 a b x => q Av cls dx σ H1 a (Cv.kw b rs) x
  | ok d o1 =>
    rw [e1] at q
    rintro v H1 a vs ds rs1 k1 rfl rfl ha hv r1 rsa
    simp only [BV.R.out_ok, bindP] at q
    exact q Av _ H1 (rs1.set (.lst (.inl ⟨.inl hv, fun av => rs.there a av ha⟩) (r1.cv fun b u e n => ⟨e, fun z => n (.inl z)⟩))) (Cv.kw k1 rs)
end
end
end BV

end
/-! text: BV10.lean -/
section
set_option maxRecDepth 100000
set_option autoImplicit false
set_option maxHeartbeats 4000000
namespace BV
open PySem PySem.Spec PyProof.Rows L2
section
variable {X : Cx} {g : Pg} {W : WX} {st : Stmt} {sts : List Stmt} {e a b c iter tg : Expr} {es : List Expr} {ie ia ib ic il : IE} {is js : List IS} {ies : List IE} {i : IS} {pos : Pos} {p : IP}

/-! ### a, b = x, y -/
def NH (ρ : Env) (σ : L2.St) (a : Addr) : Prop := ∀ j d, getS ρ j = .own d → σ[j]? ≠ some (some (.ref a))
inductive PFs (K : PySem.W.Frag) (F : Fr) (Av : Addr → Prop) (H : Hp) (ρ : Env) (σ : L2.St) : List Bool → List V → List D → List Addr → Prop
  | nil : PFs K F Av H ρ σ [] [] [] []
  | val {v : V} {d : D} {bs : List Bool} {vs : List V} {ds : List D} {as : List Addr} : Rep K F.wa Av H v d → PFs K F Av H ρ σ bs vs ds as → PFs K F Av H ρ σ (false :: bs) (v :: vs) (d :: ds) as
  | own {a : Addr} {ws : List V} {xs : List D} {bs : List Bool} {vs : List V} {ds : List D} {as : List Addr} : H a = some (.lst ws) → Reps K F.wa Av H ws xs → Av a → F.wa ≠ some a → F.H0 a = none → NH ρ σ a → a ∉ as →
      PFs K F Av H ρ σ bs vs ds as → PFs K F Av H ρ σ (true :: bs) (.ref a :: vs) (.lst xs :: ds) (a :: as)
theorem PFs.cv {K : PySem.W.Frag} {F : Fr} {Av Av' : Addr → Prop} {H H' : Hp} {ρ : Env} {σ : L2.St} (c : Cv Av Av' H H') (hv : ∀ a, Av a → Av' a) (k : Kw F.wa H H') : ∀ {bs : List Bool} {vs : List V} {ds : List D} {as : List Addr}, PFs K F Av H ρ σ bs vs ds as → PFs K F Av' H' ρ σ bs vs ds as
  | _, _, _, _, .nil => .nil
  | _, _, _, _, .val r t => .val (r.cv c) (PFs.cv c hv k t)
  | _, _, _, _, .own h1 h2 h3 h4 h5 h6 h7 t => .own (k _ _ h4 h1) (h2.cv c) (hv _ h3) h4 h5 h6 h7 (PFs.cv c hv k t)
/-- the arguments of a parallel assignment: bs tells which are lists that a slot is to own -/
def tPF (K : PySem.W.Frag) (g : Pg) (W : WX) (bs : List Bool) (es : List IE) : TA := fun σ H Q => ∃ F Av ρ o, RS K F Av ρ o σ H ∧ (match evEs g.C es ρ o with
  | .ok ds o' => ∀ vs H' Av' as, RS K F Av' ρ o' σ H' → Kw F.wa H H' → (∀ a, Av a → Av' a) → Cv Av Av' H H' → (∀ a ∈ as, H a = none) → PFs K F Av' H' ρ σ bs vs ds as → Q vs H'
  | .exc c d o' => ∀ Av' cls dx H', RS K F Av' ρ o' σ H' → Cv Av Av' H H' → g.XP c d cls dx H' → W cls dx σ H'
  | .no => False)
theorem pf_nil : PA X [] (tPF X.K g W [] []) := paW pa_nil fun σ H Q ⟨F, Av, ρ, o, rs, q⟩ => q [] H Av [] rs (Kw.refl _ _) (fun _ h => h) Cv.refl (fun _ h => nomatch h) .nil
theorem pf_val {bs : List Bool} (ha : BE X g W e ie) (hr : PA X es (tPF X.K g W bs ies)) (hs : starEach (e :: es) X.env = (false, eval e X.env) :: starEach es X.env := by rfl) : PA X (e :: es) (tPF X.K g W (false :: bs) (ie :: ies)) := by
  refine paW (pa_cons ha hr hs) fun σ H Q ⟨F, Av, ρ, o, rs, q⟩ => ⟨F, Av, ρ, o, rs, ?_⟩
  rw [evEs] at q
  cases e1 : evE g.C ie ρ o with
  | no => rw [e1] at q; exact q.elim
  | exc c d o' => rw [e1] at q; exact fun cls dx H' a b x => q Av cls dx H' a (Cv.kw b rs) x
  | ok d o1 =>
    rw [e1] at q
    simp only [BV.R.bind_ok] at q
    intro v H1 rs1 k1 r1
    refine ⟨F, Av, ρ, o1, rs1, ?_⟩
    cases e2 : evEs g.C ies ρ o1 with
    | no => rw [e2] at q; exact q.elim
    | exc c d o' => rw [e2] at q; exact fun Av' cls dx H' a b x => q Av' cls dx H' a ((Cv.kw k1 rs).trans b) x
    | ok ds o2 =>
      rw [e2] at q
      simp only [BV.R.bind_ok] at q
      exact fun vs H2 Av' as rs2 k2 hv c2 fr pf => q (v :: vs) H2 Av' as rs2 (k1.trans k2) hv ((Cv.kw k1 rs).trans c2) (fun a h => by
        cases z : H a with
        | none => rfl
        | some u =>
          obtain ⟨_, nw⟩ := rs1.h0 (fr a h)
          rw [← fr a h, k1 a u nw z]) (.val (r1.cv c2) pf)
theorem pf_own {bs : List Bool} (ha : BF X g W e ie) (hr : PA X es (tPF X.K g W bs ies)) (hs : starEach (e :: es) X.env = (false, eval e X.env) :: starEach es X.env := by rfl) : PA X (e :: es) (tPF X.K g W (true :: bs) (ie :: ies)) := by
  refine paW (pa_cons ha hr hs) fun σ H Q ⟨F, Av, ρ, o, rs, q⟩ => ⟨F, Av, ρ, o, rs, ?_⟩
  rw [evEs] at q
  cases e1 : evE g.C ie ρ o with
  | no => rw [e1] at q; exact q.elim
  | exc c d o' => rw [e1] at q; exact fun cls dx H' a b x => q Av cls dx H' a (Cv.kw b rs) x
  | ok d o1 =>
    rw [e1] at q
    simp only [BV.R.bind_ok] at q
    rintro v H1 a ws xs rs1 k1 rfl rfl h1 h2 h3 rsa
    have c1 : Cv Av (Av1 Av a) H H1 := fun b u e n => ⟨k1 b u (fun z => n (rs.waav b z)) e, fun z => z.elim n fun z => by rw [z, h1] at e; cases e⟩
    refine ⟨F, Av1 Av a, ρ, o1, rsa, ?_⟩
    cases e2 : evEs g.C ies ρ o1 with
    | no => rw [e2] at q; exact q.elim
    | exc c d o' => rw [e2] at q; exact fun Av' cls dx H' x1 x2 x3 => q Av' cls dx H' x1 (c1.trans x2) x3
    | ok ds o2 =>
      rw [e2] at q
      simp only [BV.R.bind_ok] at q
      obtain ⟨h0, nw⟩ := rs.h0 h1
      refine fun vs H2 Av' as rs2 k2 hv c2 fr pf => q (.ref a :: vs) H2 Av' (a :: as) rs2 (k1.trans k2) (fun b h => hv b (.inl h)) (c1.trans c2) (fun b h => ?_) (.own (k2 a _ nw h2) (h3.cv c2) (hv a (.inr rfl)) nw h0 (rs.nh h1) (fun h => by rw [fr a h] at h2; cases h2) pf)
      rcases List.mem_cons.mp h with rfl | h
      · exact h1
      · cases z : H b with
        | none => rfl
        | some u =>
          obtain ⟨_, nw'⟩ := rsa.h0 (fr b h)
          rw [← fr b h, k1 b u nw' z]
/-- the slots stored, one after another -/
def setV (σ : L2.St) : List Nat → List V → L2.St
  | i :: is, v :: vs => setV (σ.set i (some v)) is vs
  | _, _ => σ
theorem NH.set {ρ : Env} {σ : L2.St} {a b : Addr} {i : Nat} {d : D} (h : NH ρ σ a) (ne : a ≠ b) (hl : ρ.length = σ.length) : NH (setS ρ i (.own d)) (σ.set i (some (.ref b))) a := fun j e h1 h2 => by
  rw [getS_setS] at h1
  rw [getV_set, ← hl] at h2
  split at h1
  · rename_i c
    rw [if_pos c] at h2
    exact ne (by simpa using h2.symm)
  · rename_i c
    rw [if_neg c] at h2
    exact h j e h1 h2
theorem NH.setV {ρ : Env} {σ : L2.St} {a : Addr} {i : Nat} {d : D} {v : V} (h : NH ρ σ a) (hl : ρ.length = σ.length) : NH (setS ρ i (.val d)) (σ.set i (some v)) a := fun j e h1 h2 => by
  rw [getS_setS] at h1
  rw [getV_set, ← hl] at h2
  split at h1
  · cases h1
  · rename_i c
    rw [if_neg c] at h2
    exact h j e h1 h2
theorem PFs.nh {K : PySem.W.Frag} {F : Fr} {Av : Addr → Prop} {H : Hp} {ρ ρ' : Env} {σ σ' : L2.St} : ∀ {bs : List Bool} {vs : List V} {ds : List D} {as : List Addr}, (∀ a ∈ as, NH ρ σ a → NH ρ' σ' a) → PFs K F Av H ρ σ bs vs ds as → PFs K F Av H ρ' σ' bs vs ds as
  | _, _, _, _, _, .nil => .nil
  | _, _, _, _, m, .val r t => .val r (PFs.nh m t)
  | _, _, _, _, m, .own h1 h2 h3 h4 h5 h6 h7 t => .own h1 h2 h3 h4 h5 (m _ List.mem_cons_self h6) h7 (PFs.nh (fun a h => m a (List.mem_cons_of_mem _ h)) t)
theorem par_set {K : PySem.W.Frag} {F : Fr} {Av : Addr → Prop} {H : Hp} {o : Or} : ∀ {ps : List (Nat × Bool)} {vs : List V} {ds : List D} {as : List Addr} {ρ ρ' : Env} {σ : L2.St}, RS K F Av ρ o σ H → PFs K F Av H ρ σ (ps.map (·.2)) vs ds as → parS ps ds ρ = some ρ' → RS K F Av ρ' o (setV σ (ps.map (·.1)) vs) H
  | [], _, _, _, ρ, ρ', σ, rs, pf, h => by
    cases pf
    simp only [parS, Option.some.injEq] at h
    subst h
    exact rs
  | (i, true) :: ps, _, _, _, ρ, ρ', σ, rs, pf, h => by
    cases pf with
    | own h1 h2 h3 h4 h5 h6 h7 t =>
      simp only [parS] at h
      have rs1 := rs.setOwnL (i := i) h1 h2 h3 h4 h5 fun j d e z => absurd z (h6 j d e)
      exact par_set (ps := ps) rs1 (t.nh fun b hb n => n.set (fun z => h7 (by rw [← z]; exact hb)) rs.len) h
  | (i, false) :: ps, _, _, _, ρ, ρ', σ, rs, pf, h => by
    cases pf with
    | val r t =>
      simp only [parS] at h
      exact par_set (ps := ps) (rs.set (i := i) r) (t.nh fun b hb n => n.setV rs.len) h
theorem PFs.len {K : PySem.W.Frag} {F : Fr} {Av : Addr → Prop} {H : Hp} {ρ : Env} {σ : L2.St} : ∀ {bs : List Bool} {vs : List V} {ds : List D} {as : List Addr}, PFs K F Av H ρ σ bs vs ds as → vs.length = bs.length
  | _, _, _, _, .nil => rfl
  | _, _, _, _, .val _ t => congrArg (· + 1) (PFs.len t)
  | _, _, _, _, .own _ _ _ _ _ _ _ t => congrArg (· + 1) (PFs.len t)
/-- from the assignment's reading -/
theorem par_read {ps : List (Nat × Bool)} {σ : L2.St} {H : Hp} {D : Ends} (h : tS X.K g W [.par ps ies] D σ H) :
    tPF X.K g W (ps.map (·.2)) ies σ H (fun vs H1 => vs.length = ps.length ∧ D.nx (setV σ (ps.map (·.1)) vs) H1 ∧ ∀ p, H1 p = none → ∀ u, D.nx (setV σ (ps.map (·.1)) vs) (upd H1 p u)) := by
  obtain ⟨F, Av, ρ, o, rs, q⟩ := h
  refine ⟨F, Av, ρ, o, rs, ?_⟩
  rw [evSs_one, evS] at q
  cases e1 : evEs g.C ies ρ o with
  | no => rw [e1] at q; exact q.elim
  | exc c d o1 => rw [e1] at q; exact fun Av' cls dx H1 a b x => q Av' cls dx σ H1 a b x
  | ok ds o1 =>
    rw [e1] at q
    simp only [BV.R.out_ok] at q
    cases hp : parS ps ds ρ with
    | none => rw [hp] at q; exact fun _ _ _ _ _ _ _ _ _ _ => q.elim
    | some ρ' =>
      rw [hp] at q
      refine fun vs H1 Av' as rs1 k1 hv c1 fr pf => ⟨by rw [pf.len, List.length_map], q Av' _ H1 (par_set rs1 pf hp) c1, fun p hpn u => ?_⟩
      exact q Av' _ _ (par_set (rs1.alloc hpn) (pf.cv (cv_alloc hpn) (fun _ h => h) (kw_alloc hpn)) hp) (c1.trans (cv_alloc hpn))
theorem bs_par2 {i j : Nat} {bi bj : Bool} {x y : Str} {px py pt : Pos} {kt k2 pt2} (hc : X.calm = true) (hN : X.N.Nodup) (hi : X.N[i]? = some x) (hj : X.N[j]? = some y) (hij : i ≠ j)
    (hx : X.env.scope.names.lookup x = some .local) (hy : X.env.scope.names.lookup y = some .local) (ha : PA X [a, b] (tPF X.K g W [bi, bj] ies))
    (hw : swappedStores [.Tuple [.Name x px, .Name y py] kt pt] (.Tuple [a, b] k2 pt2) X.env = pure (some [x, y]))
    (hs : swapsWithSole [.Tuple [.Name x px, .Name y py] kt pt] (.Tuple [a, b] k2 pt2) pos.line X.env = pure false := by rfl) :
    BS X g W (.Assign [.Tuple [.Name x px, .Name y py] kt pt] (.Tuple [a, b] k2 pt2) pos) (.par [(i, bi), (j, bj)] ies) := by
  refine psW (ps_par hc hN hi hj hij hx hy ha hw hs) fun D σ H h => ?_
  obtain ⟨F, Av, ρ, o, rs, q⟩ := par_read h
  refine ⟨F, Av, ρ, o, rs, ?_⟩
  cases e1 : evEs g.C ies ρ o with
  | no => rw [e1] at q; exact q
  | exc c d o1 => rw [e1] at q; exact q
  | ok ds o1 =>
    rw [e1] at q
    intro vs H1 Av' as x1 x2 x3 x4 x5 x6
    obtain ⟨hl, q1, _⟩ := q vs H1 Av' as x1 x2 x3 x4 x5 x6
    match vs, hl with
    | [v, w], _ => exact ⟨v, w, rfl, q1⟩
theorem bs_par3 {i j l : Nat} {bi bj bl : Bool} {x y z : Str} {px py pz pt : Pos} {kt k2 pt2} (hc : X.calm = true) (hN : X.N.Nodup) (hi : X.N[i]? = some x) (hj : X.N[j]? = some y) (hl : X.N[l]? = some z) (hij : i ≠ j) (hil : i ≠ l) (hjl : j ≠ l)
    (hx : X.env.scope.names.lookup x = some .local) (hy : X.env.scope.names.lookup y = some .local) (hz : X.env.scope.names.lookup z = some .local) (ha : PA X [a, b, c] (tPF X.K g W [bi, bj, bl] ies))
    (hw : swappedStores [.Tuple [.Name x px, .Name y py, .Name z pz] kt pt] (.Tuple [a, b, c] k2 pt2) X.env = pure (some [x, y, z]))
    (hs : swapsWithSole [.Tuple [.Name x px, .Name y py, .Name z pz] kt pt] (.Tuple [a, b, c] k2 pt2) pos.line X.env = pure false := by rfl) :
    BS X g W (.Assign [.Tuple [.Name x px, .Name y py, .Name z pz] kt pt] (.Tuple [a, b, c] k2 pt2) pos) (.par [(i, bi), (j, bj), (l, bl)] ies) := by
  refine psW (ps_par3 hc hN hi hj hl hij hil hjl hx hy hz ha hw hs) fun D σ H h => ?_
  obtain ⟨F, Av, ρ, o, rs, q⟩ := par_read h
  refine ⟨F, Av, ρ, o, rs, ?_⟩
  cases e1 : evEs g.C ies ρ o with
  | no => rw [e1] at q; exact q
  | exc c d o1 => rw [e1] at q; exact q
  | ok ds o1 =>
    rw [e1] at q
    intro vs H1 Av' as x1 x2 x3 x4 x5 x6
    obtain ⟨hl, q1, _⟩ := q vs H1 Av' as x1 x2 x3 x4 x5 x6
    match vs, hl with
    | [u, v, w], _ => exact ⟨u, v, w, rfl, q1⟩
/-- the targets are names -/
def gNames : List Nat → TGs
  | [] => gNil
  | i :: is => gCons (gName i) (gNames is)
theorem pgN_nil : PGs X [] (gNames []) := pgs_nil
theorem pgN_cons {x : Str} {es : List Expr} {i : Nat} {is : List Nat} (hN : X.N.Nodup) (hi : X.N[i]? = some x) (hx : Loc X.env.scope x) (h2 : PGs X es (gNames is)) (hf : X.fn x = true ∨ X.env.scope.names.lookup x = some .local := by first | exact .inl rfl | exact .inr rfl | assumption)
    (hs : (assignEach (.Name x pos :: es) X.env).map (·.2) = assign (.Name x pos) X.env :: (assignEach es X.env).map (·.2) := by rfl) : PGs X (.Name x pos :: es) (gNames (i :: is)) := pgs_cons (pg_name hN hi hx hf) h2 hs
theorem gNames_ok : ∀ {is : List Nat} {vs : List V} {σ : L2.St} {H : Hp} {Q : L2.St → Hp → Prop}, vs.length = is.length → Q (setV σ is vs) H → gNames is vs σ H Q
  | [], [], _, _, _, _, q => ⟨rfl, q⟩
  | [], _ :: _, _, _, _, h, _ => by simp at h
  | _ :: _, [], _, _, _, h, _ => by simp at h
  | i :: is, v :: vs, σ, H, Q, h, q => ⟨v, vs, rfl, gNames_ok (by simpa using h) q⟩
/-- .. where Python makes the tuple -/
theorem bs_parG {ts : List Expr} {ps : List (Nat × Bool)} {kt k2 : Nat} {pt pt2 : Pos} (hc : X.calm = true) (ha : PA X es (tPF X.K g W (ps.map (·.2)) ies)) (hg : PGs X ts (gNames (ps.map (·.1)))) (hn : (assignEach ts X.env).length = ps.length) (hl : ps.length ≤ 1000)
    (hs : swapsWithSole [.Tuple ts kt pt] (.Tuple es k2 pt2) pos.line X.env = pure false) (hw : swappedStores [.Tuple ts kt pt] (.Tuple es k2 pt2) X.env = pure none)
    (h1 : (assignEach [.Tuple ts kt pt] X.env).map (·.2) = [assign (.Tuple ts kt pt) X.env] := by rfl) (hst : (assignEach ts X.env).findIdx? (·.1) = none := by rfl) :
    BS X g W (.Assign [.Tuple ts kt pt] (.Tuple es k2 pt2) pos) (.par ps ies) := by
  refine psW (ps_asg (pe_tup ha) (pg_tup hc hg hn hst) hs hw h1) fun D σ H h => ?_
  obtain ⟨F, Av, ρ, o, rs, q⟩ := par_read h
  refine ⟨F, Av, ρ, o, rs, ?_⟩
  cases e1 : evEs g.C ies ρ o with
  | no => rw [e1] at q; exact q
  | exc c d o1 => rw [e1] at q; exact q
  | ok ds o1 =>
    rw [e1] at q
    intro vs H1 Av' as x1 x2 x3 x4 x5 x6
    obtain ⟨hl', _, q1⟩ := q vs H1 Av' as x1 x2 x3 x4 x5 x6
    refine ⟨by rw [hl']; exact le_line hl, fun p hp => ⟨p, vs, rfl, SqT.of upd_same, by rw [hl'], gNames_ok (by rw [hl', List.length_map]) (q1 p hp _)⟩⟩

/-! ### append, op=, expressions, return -/
theorem bs_app {j : Nat} {x : Str} {px apos cpos : Pos} (hi : X.N[j]? = some x) (hv : Vis X.env.scope x) (he : BE X g W e ie) (hd : (x == ("__debug__" : Str)) = false := by decide) (hcd : (x == ("__classdict__" : Str)) = false := by decide)
    (hbase : attributeBase (.Name x px) "append" X.env (eval (.Name x px) X.env) = eval (.Name x px) X.env := by rfl)
    (hfew : ((backTo cpos (starEach (e :: []) X.env)).all (fun x => !x.1) && (backToKw cpos (keywordEach [] X.env)).all (fun x => x.1.isSome)
      && decide ((e :: []).length + ([] : List Keyword).length + (if ([] : List Keyword).isEmpty then 0 else 1) < 30)) = true := by rfl)
    (hline : (apos.endLine == cpos.line) = true := by rfl) (hs : starEach (e :: []) X.env = (false, eval e X.env) :: starEach [] X.env := by rfl) (hsw : swapsWith (.Call (.Attribute (.Name x px) "append" apos) [e] [] cpos) none pos.line X.env = pure false := by rfl) :
    BS X g W (.Expr (.Call (.Attribute (.Name x px) "append" apos) [e] [] cpos) pos) (.app j ie) := by
  refine psW (ps_expr (pe_bm PySem.F.plainAttrs_list PySem.F.slot_list_append PySem.F.type_list_append mt_append (pe_var (i := j) hi hv hd hcd) (pa_cons he pa_nil hs) hbase hfew hline hs rfl) hsw) fun D σ H ⟨F, Av, ρ, o, rs, q⟩ => ?_
  rw [evSs_one, evS] at q
  cases ho : getS ρ j with
  | un => rw [ho] at q; exact q.elim
  | val d => rw [ho] at q; exact q.elim
  | own d =>
    rcases rs.own' ho with ⟨a, vs, ds, ea, rfl, ha, r, av, nw⟩ | ⟨kds, rfl⟩
    rotate_left
    · rw [ho] at q; exact q.elim
    rw [ho] at q
    simp only at q
    refine ⟨_, ea, .inl ⟨rfl, _, SqL.of ha⟩, F, Av, ρ, o, rs, (goR.out rs q).mono fun v H1 ⟨d, o1, e1, rs1, k1, r1, q1⟩ => ?_⟩
    obtain ⟨a', vs', ea', ha', r', av', nw'⟩ := rs1.own ho
    rw [ea] at ea'
    have : a = a' := by simpa using ea'
    subst this
    split at q1
    · rename_i hl
      refine ⟨a, vs', v, rfl, rfl, ha', by rw [r'.length, ← cap_eq]; exact hl, ?_⟩
      have h0 := rs1.new j _ a ho ea
      have rs2 : RS X.K F Av (setS ρ j .un) o1 (σ.set j (some (.ref a))) (upd H1 a (.lst (vs' ++ [v]))) :=
        (rs1.unset (i := j) (x := some (.ref a))).upd_own av nw h0 fun k d' e' z => by
          rw [getS_setS] at e'
          rw [getV_set, ← rs1.len] at z
          split at e'
          · cases e'
          · rename_i c
            rw [if_neg c] at z
            have := rs1.inj k j d' _ a e' ho z ea
            exact c ⟨this.symm, by rw [this]; exact rs1.lt_len (.inr ho)⟩
      have rs3 := rs2.setOwnL (i := j) (a := a) (vs := vs' ++ [v]) (ds := ds ++ [d]) upd_same ((r'.append (.cons r1 .nil)).cv (cv_upd av)) av nw h0 fun k d' e' z => by
        rw [getS_setS] at e'
        rw [getV_set, ← rs1.len] at z
        split at e'
        · cases e'
        · rename_i c
          rw [if_neg c] at z
          exact rs1.inj k j d' _ a e' ho z ea
      have e2 : (σ.set j (some (.ref a))).set j (some (.ref a)) = σ := by
        rw [List.set_set]
        refine List.ext_getElem? fun n => ?_
        rw [getV_set]
        split
        · rename_i c
          rw [← c.1, ea]
        · rfl
      have e3 : setS (setS ρ j .un) j (.own (.lst (ds ++ [d]))) = setS ρ j (.own (.lst (ds ++ [d]))) := by
        have : ∀ (ρ : Env) (j : Nat) (x y : Sl), setS (setS ρ j x) j y = setS ρ j y := by
          intro ρ
          induction ρ with
          | nil => intro j x y; rfl
          | cons a ρ ih =>
            intro j x y
            cases j with
            | zero => rfl
            | succ j => simp only [setS, ih]
        exact this _ _ _ _
      rw [e2, e3] at rs3
      exact q1 Av σ _ rs3 (cv_upd av)
    · exact q1.elim

/-- an operation whose left side is a number or a text -/
def opS (b : O2) (x y : D) : Option D := if scalar x then op2 b x y else none
/-- name op= e, the name's value a number or a text -/
theorem bs_aug {j : Nat} {x : Str} {op : O2} {bop : Operator} {pos' : Pos} (ho : OpR X (inplaceOp bop) (rB X.K (opS op))) (hN : X.N.Nodup) (hi : X.N[j]? = some x) (hx : Loc X.env.scope x) (he : BE X g W e ie) (hf : X.fn x = true ∨ X.env.scope.names.lookup x = some .local := by first | exact .inl rfl | exact .inr rfl | assumption) :
    BS X g W (.AugAssign (.Name x pos') bop e pos) (.aug j op ie) := by
  refine psW (ps_aug (i := j) (ti := rB X.K (opS op)) hN hi hx he ho hf) fun D σ H ⟨F, Av, ρ, o, rs, q⟩ => ?_
  rw [evSs_one, evS] at q
  cases hs : getS ρ j with
  | un => rw [hs] at q; exact q.elim
  | own d => rw [hs] at q; exact q.elim
  | val d =>
    obtain ⟨v, ev, r⟩ := rs.val hs
    rw [hs] at q
    simp only at q
    split at q
    · rename_i hsc
      refine ⟨v, ev, F, Av, ρ, o, rs, (goR.out rs q).mono fun u H1 ⟨d1, o1, e1, rs1, k1, r1, q1⟩ => ?_⟩
      cases hz : op2 op d d1 with
      | none => rw [hz] at q1; exact q1.elim
      | some z =>
        rw [hz] at q1
        exact ⟨F, Av, ρ, o1, σ, d, d1, z, rs1, .inl (r.cv (Cv.kw k1 rs)), .inl r1, by rw [opS, if_pos hsc]; exact hz, fun w H2 rs2 k2 r2 => q1 Av _ H2 (rs2.set r2) (Cv.kw k2 rs1)⟩
    · exact q.elim
theorem o_iadd : OpR X (inplaceOp .Add) (rB X.K (opS .add)) := by
  intro pins s σ H x y v u Q I rx ry ⟨F, Av, ρ, o, σ', d, e, z, rs, rd, re, hz, q⟩
  unfold opS at hz
  split at hz
  · rename_i hsc
    simp only [op2] at hz
    unfold addO at hz
    split at hz
    · cases hz
      rw [rd.int] at rx; rw [re.int] at ry
      exact iop_add pins s σ H _ _ v u Q I rx ry ⟨_, _, rfl, rfl, q _ H rs (Kw.refl _ _) (.int _)⟩
    · rename_i s1 s2
      split at hz
      · rename_i hl
        cases hz
        rw [rd.str] at rx; rw [re.str] at ry
        refine iop_add_str pins s σ H _ _ v u Q I rx ry ⟨_, _, rfl, rfl, ?_, ?_⟩
        · simp only [cps, Str.length, List.size_toArray]; rw [← cap_eq]; exact hl
        · have e1 : cps s1 ++ cps s2 = cps (s1 ++ s2) := by simp only [cps, HAppend.hAppend, Append.append]; simp [Str.append]
          rw [e1]
          exact q _ H rs (Kw.refl _ _) (.str _)
      · cases hz
    · simp [scalar] at hsc
    · simp [scalar] at hsc
    · cases hz
  · cases hz
theorem o_isub : OpR X (inplaceOp .Sub) (rB X.K (opS .sub)) := by
  intro pins s σ H x y v u Q I rx ry ⟨F, Av, ρ, o, σ', d, e, z, rs, rd, re, hz, q⟩
  unfold opS at hz
  split at hz
  · simp only [op2] at hz
    split at hz
    · cases hz
      rw [rd.int] at rx; rw [re.int] at ry
      exact iop_sub pins s σ H _ _ v u Q I rx ry ⟨_, _, rfl, rfl, q _ H rs (Kw.refl _ _) (.int _)⟩
    · cases hz
  · cases hz
/-- a statement that is an expression -/
theorem bs_ex (he : BE X g W e ie) (hs : swapsWith e none pos.line X.env = pure false := by rfl) : BS X g W (.Expr e pos) (.ex ie) := by
  refine psW (ps_expr he hs) fun D σ H ⟨F, Av, ρ, o, rs, q⟩ => ⟨F, Av, ρ, o, rs, ?_⟩
  rw [evSs_one, evS] at q
  exact (goR.out rs q).mono fun v H1 ⟨d, o1, e1, rs1, k1, r1, q1⟩ => q1 Av σ H1 rs1 Cv.refl
theorem cv_av0 {K : PySem.W.Frag} {F : Fr} {Av : Addr → Prop} {ρ : Env} {o : Or} {σ : L2.St} {H : Hp} (rs : RS K F Av ρ o σ H) : Cv Av F.Av0 H H := fun a u h n => ⟨h, fun z => n (rs.av0 a z)⟩
theorem RS.orc0 {K : PySem.W.Frag} {F : Fr} {Av : Addr → Prop} {ρ : Env} {o : Or} {σ : L2.St} {H : Hp} (rs : RS K F Av ρ o σ H) : Orc K F.Av0 F.wa F.da o H := rs.orc.cv (cv_av0 rs) fun _ _ _ e => e
theorem bs_ret (he : BE X g W e ie) : BS X g W (.Return (some e) pos) (.ret ie) := by
  refine psW (ps_ret he) fun D σ H ⟨F, Av, ρ, o, rs, q⟩ => ⟨F, Av, ρ, o, rs, ?_⟩
  rw [evSs_one, evS] at q
  exact (goR.out rs q).mono fun v H1 ⟨d, o1, e1, rs1, k1, r1, q1⟩ => q1 v H1 rs1.keep rs1.orc0 (r1.cv (cv_av0 rs1))
theorem bs_pass : BS X g W (.Pass pos) .pass := psW ps_pass fun D σ H ⟨F, Av, ρ, o, rs, q⟩ => by
  rw [evSs_one, evS] at q
  exact q Av σ H rs Cv.refl
theorem bs_brk : BS X g W (.Break pos) .brk := psW ps_break fun D σ H ⟨F, Av, ρ, o, rs, q⟩ => by
  rw [evSs_one, evS] at q
  exact q Av σ H rs Cv.refl
theorem bs_cont : BS X g W (.Continue pos) .cont := psW ps_continue fun D σ H ⟨F, Av, ρ, o, rs, q⟩ => by
  rw [evSs_one, evS] at q
  exact q Av σ H rs Cv.refl

/-! ### if, while, for -/
/-- a test, then a statement's work -/
theorem goR.outT {K : PySem.W.Frag} {F : Fr} {Av : Addr → Prop} {H : Hp} {D : Ends} {ρ : Env} {o : Or} {σ : L2.St} {r : R BV.D} {f1 f2 : Or → Out} (rs : RS K F Av ρ o σ H)
    (h : goS K g W F Av H D (r.out ρ fun x o => match truth x with | some true => f1 o | some false => f2 o | none => .no)) :
    goR K g W F Av ρ σ (fun (b d : Bool) _ => b = d) H r.tst (fun b H1 => ∃ o1, RS K F Av ρ o1 σ H1 ∧ Kw F.wa H H1 ∧ goS K g W F Av H1 D (if b then f1 o1 else f2 o1)) := by
  cases r with
  | no => exact h
  | exc c d o1 => exact fun cls dx H1 a b x => h Av cls dx σ H1 a (Cv.kw b rs) x
  | ok d o1 =>
    simp only [BV.R.out_ok] at h
    simp only [BV.R.tst, BV.R.test, BV.R.bind_ok]
    cases t : truth d with
    | none => rw [t] at h; exact h.elim
    | some b =>
      rw [t] at h
      rintro b' H1 rs1 k1 rfl
      refine ⟨o1, rs1, k1, ?_⟩
      cases b' with
      | true => exact goS.later h (Cv.kw k1 rs)
      | false => exact goS.later h (Cv.kw k1 rs)
theorem bs_ifs {sts' : List Stmt} (hc : BT X g W c ic) (ha : BSs X g W sts is) (hb : BSs X g W sts' js) : BS X g W (.If c sts sts' pos) (.ifs ic is js) := by
  refine psW (ps_if hc ha hb) fun D σ H ⟨F, Av, ρ, o, rs, q⟩ => ⟨F, Av, ρ, o, rs, ?_⟩
  rw [evSs_one, evS] at q
  refine (goR.outT rs q).mono fun b H1 ⟨o1, rs1, k1, q1⟩ => ?_
  cases b with
  | true => exact ⟨F, Av, ρ, o1, rs1, q1⟩
  | false => exact ⟨F, Av, ρ, o1, rs1, q1⟩
/-- what is wanted behind a turn: all that follows -/
def nF (K : PySem.W.Frag) (g : Pg) (W : WX) (F : Fr) (Av : Addr → Prop) (H : Hp) (D : Ends) (f : Env → Or → Out) : L2.St → Hp → Prop := fun σ' H' => ∃ Av' ρ o, RS K F Av' ρ o σ' H' ∧ Cv Av Av' H H' ∧ goS K g W F Av' H' D (f ρ o)
theorem goS.turn {K : PySem.W.Frag} {F : Fr} {Av : Addr → Prop} {H : Hp} {D : Ends} {r : Out} {f : Env → Or → Out} (h : goS K g W F Av H D (r.turn f)) :
    goS K g W F Av H { D with nx := nF K g W F Av H D f, ct := nF K g W F Av H D f, bk := D.nx } r := by
  cases r with
  | nx ρ o => exact fun A σ H2 a b => ⟨A, ρ, o, a, b, goS.later h b⟩
  | ct ρ o => exact fun A σ H2 a b => ⟨A, ρ, o, a, b, goS.later h b⟩
  | bk ρ o => exact h
  | rt d o => exact h
  | xc k d ρ o => exact h
  | no => exact h
theorem goS.turnC {K : PySem.W.Frag} {F : Fr} {Av Av0 : Addr → Prop} {H H0 : Hp} {D : Ends} {r : Out} {f : Env → Or → Out} (h : goS K g W F Av H D (r.turn f)) (c : Cv Av0 Av H0 H) :
    goS K g W F Av H { D with nx := nF K g W F Av0 H0 D f, ct := nF K g W F Av0 H0 D f, bk := D.nx } r := by
  cases r with
  | nx ρ o => exact fun A σ H2 a b => ⟨A, ρ, o, a, c.trans b, goS.later h b⟩
  | ct ρ o => exact fun A σ H2 a b => ⟨A, ρ, o, a, c.trans b, goS.later h b⟩
  | bk ρ o => exact h
  | rt d o => exact h
  | xc k d ρ o => exact h
  | no => exact h
theorem bs_whl {n : Nat} (hp : PassesOwn (model X.prog X.w) X.A X.env X.xe) (hc : BT X g W c ic) (hb : BSs X g W sts is) : BS X g W (.While c sts [] pos) (.whl n ic is) := by
  refine psW (ps_while hp hc hb) fun D σ H ⟨F, Av, ρ, o, rs, q⟩ => ?_
  rw [evSs_one, evS] at q
  refine ⟨fun m σ H => ∃ F Av ρ o, RS X.K F Av ρ o σ H ∧ goS X.K g W F Av H D (whileM (fun ρ o => evE g.C ic ρ o) (fun ρ o => evSs g.C is ρ o) m ρ o), ⟨n, F, Av, ρ, o, rs, q⟩, ?_⟩
  rintro m σ H ⟨F, Av, ρ, o, rs, q⟩
  cases m with
  | zero => exact q.elim
  | succ m =>
    rw [whileM] at q
    refine ⟨F, Av, ρ, o, rs, ?_⟩
    have q' : goS X.K g W F Av H D ((evE g.C ic ρ o).out ρ fun x o => match truth x with
        | some true => (fun o => (evSs g.C is ρ o).turn fun ρ o => whileM (fun ρ o => evE g.C ic ρ o) (fun ρ o => evSs g.C is ρ o) m ρ o) o
        | some false => (fun o => Out.nx ρ o) o
        | none => .no) := q
    refine (goR.outT rs q').mono fun b H1 ⟨o1, rs1, k1, q1⟩ => ?_
    cases b with
    | true =>
      simp only [if_true] at q1 ⊢
      exact ⟨nF X.K g W F Av H1 D (fun ρ o => whileM (fun ρ o => evE g.C ic ρ o) (fun ρ o => evSs g.C is ρ o) m ρ o),
        fun σ' H' ⟨Av', ρ', o', a, _, b⟩ => ⟨m, Nat.lt_succ_self m, F, Av', ρ', o', a, b⟩, F, Av, ρ, o1, rs1, q1.turn⟩
    | false =>
      simp only [Bool.false_eq_true, if_false] at q1 ⊢
      exact q1 Av σ H1 rs1 Cv.refl
/-- a turn of a for -/
def turnF (C : Nat → List D → Or → R D) (p : IP) (is : List IS) : D → Env → Or → Out := fun x ρ o => match bindP p x ρ with
  | none => .no
  | some ρ => evSs C is ρ o
theorem evS_for {C : Nat → List D → Or → R D} {p : IP} {s : IE} {is : List IS} {ρ : Env} {o : Or} : evS C (.for_ p s is) ρ o = (evE C s ρ o).seq.out ρ fun xs o => forM (turnF C p is) xs ρ o := by
  rw [evS]; rfl
theorem bs_for (hp : PassesOwn (model X.prog X.w) X.A X.env X.xe) (hc : X.calm = true) (hi : BI X g W false tg iter il) (hg : BG X tg p) (hb : BSs X g W sts is) (hs : ∀ x, foldedSetIterable iter X.env x = pure x := by intro _; rfl) :
    BS X g W (.For tg iter sts [] pos) (.for_ p il is) := by
  refine psW (ps_for hp hc hi hg hb hs) fun D σ H ⟨F, Av, ρ, o, rs, q⟩ => ⟨F, Av, ρ, o, rs, ?_⟩
  rw [evSs_one, evS_for] at q
  refine (goR.out rs q).mono fun J H1 ⟨xs, o1, e1, rs1, k1, it, q1⟩ => ?_
  refine ⟨fun i m σ H => m = xs.length - i ∧ i ≤ xs.length ∧ nF X.K g W F Av H1 D (forM (turnF g.C p is) (xs.drop i)) σ H, ⟨xs.length, rfl, Nat.zero_le _, Av, ρ, o1, rs1, Cv.refl, q1⟩, ?_⟩
  rintro i m σ H ⟨rfl, hi, Av', ρ', o', rs', cv, q'⟩
  obtain ⟨hst, hgo⟩ := it.2 Av' H cv (fun z => nomatch z) rs'.there
  by_cases hlt : i < xs.length
  · obtain ⟨hg1, hy1⟩ := hgo i hlt
    have hdrop : xs.drop i = xs[i] :: xs.drop (i + 1) := List.drop_eq_getElem_cons hlt
    rw [hdrop, forM] at q'
    refine .inr ⟨hg1, nF X.K g W F Av H1 D (forM (turnF g.C p is) (xs.drop (i + 1))), fun σ' H' h => ⟨xs.length - (i + 1), by omega, rfl, hlt, h⟩, fun x H' hy => ?_⟩
    obtain ⟨hgrow, d, hd, rx⟩ := hy1 x H' hy
    have hxd : xs[i] = d := by
      rw [List.getElem?_eq_getElem hlt] at hd
      exact Option.some.inj hd
    have c' : Cv Av' Av' H H' := by
      rcases hgrow with rfl | ⟨p', u, hp, rfl⟩
      · exact Cv.refl
      · exact cv_alloc hp
    have rs2 : RS X.K F Av' ρ' o' σ H' := by
      rcases hgrow with rfl | ⟨p', u, hp, rfl⟩
      · exact rs'
      · exact rs'.alloc hp
    rw [hxd] at q'
    unfold turnF at q'
    cases hbp : bindP p d ρ' with
    | none => rw [hbp] at q'; exact q'.elim
    | some ρ2 =>
      rw [hbp] at q'
      exact gI_ok p rs2 rx hbp fun σ2 rs3 _ => ⟨F, Av', ρ2, o', rs3, (goS.later q' c').turnC (cv.trans c')⟩
  · have hie : i = xs.length := by omega
    subst hie
    rw [List.drop_length, forM] at q'
    exact .inl ⟨hst, q' Av' σ H rs' Cv.refl⟩
end
end BV

end
/-! text: BV11.lean -/
section
set_option maxRecDepth 100000
set_option autoImplicit false
set_option maxHeartbeats 4000000
namespace BV
open PySem PySem.Spec PyProof.Rows L2

/-! ### defs by the evaluator -/
def SpI (K : PySem.W.Frag) (g : Pg) (n f : Nat) : Sp := fun vs H Q E => ∃ (wa : Option Addr) (da : Addr × Bool) (Av : Addr → Prop) (ds : List D) (o : Or), Reps K wa Av H vs ds ∧ Orc K Av wa da o H ∧ (∀ a, wa = some a → Av a) ∧ (∀ a, Av a → H a ≠ none) ∧ ds.length = n ∧ (match g.C f ds o with
  | .ok d o' => ∀ v H', Kw wa H H' → Orc K Av wa da o' H' → Rep K wa Av H' v d → Q v H'
  | .exc c d o' => ∀ cls dx H', Kw wa H H' → Orc K Av wa da o' H' → g.XP c d cls dx H' → E cls dx H'
  | .no => False)
section
variable {X : Cx} {g : Pg} {W : WX} {e a b : Expr} {es : List Expr} {ie ia ib : IE} {is : List IE} {pos p : Pos}
theorem be_call {k : Nat} {ad : Addr} {fd : FuncData} {ps : List Str} {n f : Nat} {x : Str} (F : FnOk X.prog X.w X.K X.mg X.base (L2.CX X.prog X.w) k ad fd ps (SpI X.K g n f)) (hr : Room k X.A) (hg : Gl X x) (hm : X.mg x = some (.ref ad)) (hk : PySem.W.keepIn X.K (.ref ad) = true) (hb : Binds X.K fd ps [])
    (tk : Takes X W) (ha : BA X g W (e :: es) is) (hn : is.length = n := by rfl) (hdb : (x == ("__debug__" : Str)) = false := by decide) (he : starEach (e :: es) X.env = (false, eval e X.env) :: starEach es X.env := by rfl) (hpl : (backTo pos (starEach es X.env)).any (·.1) = false := by rfl) :
    BE X g W (.Call (.Name x p) (e :: es) [] pos) (.call f is) := by
  refine peW (pe_callS (E := WE W) F hr hg hm hk hb (passAt tk) ha hdb he hpl) fun σ H Q ⟨F, Av, ρ, o, rs, q⟩ => ⟨F, Av, ρ, o, rs, ?_⟩
  rw [evE] at q
  refine q.bind.mono fun vs H1 ⟨ds, o1, e1, rs1, k1, r1, q1⟩ => ?_
  refine ⟨F.wa, F.da, Av, ds, o1, r1, rs1.orc, rs1.waav, rs1.there, by rw [evEs_length e1]; exact hn, ?_⟩
  cases e2 : g.C f ds o1 with
  | no => rw [e2] at q1; exact q1
  | exc c d o2 => rw [e2] at q1; exact fun cls dx H' k oc x => q1 cls dx H' (rs1.kw k oc) k x
  | ok d o2 => rw [e2] at q1; exact fun v H' k oc r => q1 v H' (rs1.kw k oc) k r
/-- .. whose outcome is a number, a text, None: the arguments may be slots' own lists -/
theorem scalar_rep {K : PySem.W.Frag} {wa : Option Addr} {Av Av' : Addr → Prop} {H H' : Hp} {v : V} {d : D} (h : scalar d = true) (r : Rep K wa Av H v d) : Rep K wa Av' H' v d := by
  cases r <;> first
    | (simp [scalar] at h; done)
    | constructor
theorem be_callB {k : Nat} {ad : Addr} {fd : FuncData} {ps : List Str} {n f : Nat} {x : Str} (F : FnOk X.prog X.w X.K X.mg X.base (L2.CX X.prog X.w) k ad fd ps (SpI X.K g n f)) (hr : Room k X.A) (hg : Gl X x) (hm : X.mg x = some (.ref ad)) (hk : PySem.W.keepIn X.K (.ref ad) = true) (hb : Binds X.K fd ps [])
    (tk : Takes X W) (ha : BAB X g W (e :: es) is) (hn : is.length = n := by rfl) (hdb : (x == ("__debug__" : Str)) = false := by decide) (he : starEach (e :: es) X.env = (false, eval e X.env) :: starEach es X.env := by rfl) (hpl : (backTo pos (starEach es X.env)).any (·.1) = false := by rfl) :
    BE X g W (.Call (.Name x p) (e :: es) [] pos) (.callS f is) := by
  refine peW (pe_callS (E := WE W) F hr hg hm hk hb (passAt tk) ha hdb he hpl) fun σ H Q ⟨F, Av, ρ, o, rs, q⟩ => ⟨F, Av, ρ, o, rs, ?_⟩
  rw [evE] at q
  refine q.bind.mono fun vs H1 ⟨ds, o1, e1, rs1, k1, r1, q1⟩ => ?_
  have sub : ∀ {vs : List V} {ds : List D}, Paired (RepB X.K F.wa Av H1) vs ds → Reps X.K F.wa (fun a => F.wa = some a) H1 vs ds := by
    intro vs ds r
    have c : Cv Av (fun a => F.wa = some a) H1 H1 := fun a u e n => ⟨e, fun z => n (rs1.waav a z)⟩
    induction r with
    | nil => exact .nil
    | cons r _ ih =>
      refine .cons ?_ ih
      rcases r with r | ⟨a, u, rfl, h, q, av, nw⟩
      · exact r.cv c
      · rcases q with ⟨ws, xs, rfl, rfl, q⟩ | ⟨ws, xs, rfl, rfl, q⟩
        · exact .lst (.inl ⟨.inl h, nw⟩) (q.cv c)
        · exact .dic ⟨h, nw⟩ (q.cv c)
  have oc1 : Orc X.K (fun a => F.wa = some a) F.wa F.da o1 H1 := rs1.orc.cv (fun a u e n => ⟨e, fun z => n (rs1.waav a z)⟩) fun _ _ _ e => e
  refine ⟨F.wa, F.da, fun a => F.wa = some a, ds, o1, sub r1, oc1, fun _ h => h, fun a h => rs1.there a (rs1.waav a h), by rw [evEs_length e1]; exact hn, ?_⟩
  have back : ∀ {o2 : Or} {H' : Hp}, Kw F.wa H1 H' → Orc X.K (fun a => F.wa = some a) F.wa F.da o2 H' → RS X.K F Av ρ o2 σ H' := by
    intro o2 H' k oc
    refine rs1.kw k ?_
    have h := rs1.orc
    revert h oc
    cases e : F.wa with
    | none => exact fun _ _ => trivial
    | some a =>
      rintro ⟨n, ds, h1, h2, h3⟩ ⟨m, es, h5, h6, _⟩
      refine ⟨n, ds, h1, ?_, h3⟩
      unfold DaA at h2 h6 ⊢
      split at h2
      · rename_i e; rw [if_pos e]; exact h2
      · rename_i e; rw [if_neg e]; rw [if_neg e] at h6; exact ⟨h2.1, h6.2⟩
  cases e2 : g.C f ds o1 with
  | no => rw [e2] at q1; exact q1
  | exc c d o2 => rw [e2] at q1; exact fun cls dx H' k oc x => q1 cls dx H' (back k oc) k x
  | ok d o2 =>
    rw [e2] at q1
    simp only [BV.R.bind_ok] at q1
    intro v H' k oc r
    split at q1
    · rename_i hs
      exact q1 v H' (back k oc) k (scalar_rep hs r)
    · exact q1.elim
end
end BV

end
/-! text: BVo.lean -/
section
set_option maxRecDepth 100000
set_option autoImplicit false
set_option maxHeartbeats 4000000
namespace BV
open PySem PySem.Spec PyProof.Rows L2
/-! ### order -/
mutual
theorem alk_toPy : ∀ a b : D, alkD a b = true → PySem.W.alike (toPy a) (toPy b) = true
  | .int _, .int _, _ => rfl
  | .str _, .str _, _ => rfl
  | .tup a, .tup b, h => by
    simp only [toPy, PySem.W.alike]
    exact alk_toPys a b (by simpa [alkD] using h)
  | .int _, .non, h | .int _, .bool _, h | .int _, .str _, h | .int _, .tup _, h | .int _, .lst _, h | .int _, .dic _, h | .int _, .tok, h => by simp [alkD] at h
  | .str _, .non, h | .str _, .bool _, h | .str _, .int _, h | .str _, .tup _, h | .str _, .lst _, h | .str _, .dic _, h | .str _, .tok, h => by simp [alkD] at h
  | .tup _, .non, h | .tup _, .bool _, h | .tup _, .int _, h | .tup _, .str _, h | .tup _, .lst _, h | .tup _, .dic _, h | .tup _, .tok, h => by simp [alkD] at h
  | .non, _, h => by simp [alkD] at h
  | .bool _, _, h => by simp [alkD] at h
  | .lst _, _, h => by simp [alkD] at h
  | .dic _, _, h => by simp [alkD] at h
  | .tok, _, h => by simp [alkD] at h
theorem alk_toPys : ∀ a b : List D, alkDs a b = true → PySem.W.alikeAll (toPys a) (toPys b) = true
  | x :: xs, y :: ys, h => by
    rw [alkDs, Bool.and_eq_true] at h
    simp only [toPys, PySem.W.alikeAll, alk_toPy x y h.1, alk_toPys xs ys h.2, Bool.and_self]
  | [], _, _ => by simp only [toPys, PySem.W.alikeAll]
  | _ :: _, [], _ => by simp only [toPys, PySem.W.alikeAll]
end
mutual
theorem lt_toPy : ∀ (n m : Nat) (a b : D), okN n a = true → okN m b = true → alkD a b = true → PySem.W.dataLt (toPy a) (toPy b) = ltD a b
  | _, _, .int a, .int b, _, _, _ => PySem.W.dataLt_int a b
  | _, _, .str a, .str b, _, _, _ => by
    simp only [toPy, ltD]
    rw [PySem.W.dataLt_str]
    simp only [cps]
    exact decide_eq_decide.mpr Iff.rfl
  | n + 1, m + 1, .tup a, .tup b, ha, hb, h => by
    simp only [toPy, ltD]
    rw [PySem.W.dataLt_tuple]
    exact lt_toPys n m a b (by simpa [okN] using ha) (by simpa [okN] using hb) (by simpa [alkD] using h)
  | 0, _, .tup _, _, h, _, _ => by simp [okN] at h
  | _, 0, _, .tup _, _, h, _ => by simp [okN] at h
  | _, _, .int _, .non, _, _, h | _, _, .int _, .bool _, _, _, h | _, _, .int _, .str _, _, _, h | _, _, .int _, .lst _, _, _, h | _, _, .int _, .dic _, _, _, h | _, _, .int _, .tok, _, _, h => by simp [alkD] at h
  | _, _, .str _, .non, _, _, h | _, _, .str _, .bool _, _, _, h | _, _, .str _, .int _, _, _, h | _, _, .str _, .lst _, _, _, h | _, _, .str _, .dic _, _, _, h | _, _, .str _, .tok, _, _, h => by simp [alkD] at h
  | _, _, .int _, .tup _, _, _, h | _, _, .str _, .tup _, _, _, h => by simp [alkD] at h
  | _, _, .tup _, .non, _, _, h | _, _, .tup _, .bool _, _, _, h | _, _, .tup _, .str _, _, _, h | _, _, .tup _, .int _, _, _, h | _, _, .tup _, .lst _, _, _, h | _, _, .tup _, .dic _, _, _, h | _, _, .tup _, .tok, _, _, h => by simp [alkD] at h
  | _, _, .non, _, _, _, h => by simp [alkD] at h
  | _, _, .bool _, _, _, _, h => by simp [alkD] at h
  | _, _, .lst _, _, _, _, h => by simp [alkD] at h
  | _, _, .dic _, _, _, _, h => by simp [alkD] at h
  | _, _, .tok, _, _, _, h => by simp [alkD] at h
theorem lt_toPys : ∀ (n m : Nat) (a b : List D), a.all (okN n) = true → b.all (okN m) = true → alkDs a b = true → PyProof.Rows.lexLt PyProof.Rows.itemOrd (PySem.W.keyToksAll (toPys a)) (PySem.W.keyToksAll (toPys b)) = ltDs a b
  | _, _, [], [], _, _, _ => by simp only [toPys, ltDs]; exact lex_irrefl _
  | _, _, [], y :: ys, _, _, _ => by
    simp only [toPys, ltDs]
    rw [PySem.W.toks_all_cons]
    simp only [PySem.W.keyToksAll]
    rw [lex_diff (by simp)]
    rfl
  | _, _, x :: xs, [], _, _, _ => by
    simp only [toPys, ltDs]
    rw [PySem.W.toks_all_cons]
    simp only [PySem.W.keyToksAll]
    rw [lex_diff (by simp)]
    rfl
  | n, m, x :: xs, y :: ys, ha, hb, h => by
    rw [alkDs, Bool.and_eq_true] at h
    rw [List.all_cons, Bool.and_eq_true] at ha hb
    have ea := eqv_toPy ha.1 hb.1
    have hk := alk_toPy x y h.1
    simp only [toPys, ltDs]
    cases e : eqD x y with
    | true =>
      rw [e] at ea
      rw [PySem.W.dataLt_all_yes hk ea, if_pos rfl]
      exact lt_toPys n m xs ys ha.2 hb.2 h.2
    | false =>
      rw [e] at ea
      rw [PySem.W.dataLt_all_no hk ea, if_neg (by decide)]
      exact lt_toPy n m x y ha.1 hb.1 h.1
end
mutual
theorem toPy_inj : ∀ (n m : Nat) (a b : D), okN n a = true → okN m b = true → toPy a = toPy b → a = b
  | n, m, a, b, ha, hb, h => by
    cases a <;> cases b <;> first
      | (simp [okN] at ha; done)
      | (simp [okN] at hb; done)
      | (simp [toPy] at h; done)
      | skip
    · rfl
    · simp only [toPy, PyData.bool.injEq] at h; rw [h]
    · simp only [toPy, PyData.int.injEq] at h; rw [h]
    · simp only [toPy, PyData.str.injEq] at h; rw [cps_inj.mp h]
    · simp only [toPy, PyData.tuple.injEq] at h
      cases n with
      | zero => simp [okN] at ha
      | succ n =>
        cases m with
        | zero => simp [okN] at hb
        | succ m => rw [toPys_inj n m _ _ (by simpa [okN] using ha) (by simpa [okN] using hb) h]
    · simp only [toPy, PyData.list.injEq] at h
      cases n with
      | zero => simp [okN] at ha
      | succ n =>
        cases m with
        | zero => simp [okN] at hb
        | succ m => rw [toPys_inj n m _ _ (by simpa [okN] using ha) (by simpa [okN] using hb) h]
theorem toPys_inj : ∀ (n m : Nat) (a b : List D), a.all (okN n) = true → b.all (okN m) = true → toPys a = toPys b → a = b
  | _, _, [], [], _, _, _ => rfl
  | _, _, [], _ :: _, _, _, h => by simp [toPys] at h
  | _, _, _ :: _, [], _, _, h => by simp [toPys] at h
  | n, m, x :: xs, y :: ys, ha, hb, h => by
    rw [List.all_cons, Bool.and_eq_true] at ha hb
    simp only [toPys, List.cons.injEq] at h
    rw [toPy_inj n m x y ha.1 hb.1 h.1, toPys_inj n m xs ys ha.2 hb.2 h.2]
end
theorem toPys_map : ∀ xs : List D, toPys xs = xs.map toPy
  | [] => by simp only [toPys, List.map_nil]
  | x :: xs => by simp only [toPys, List.map_cons, toPys_map xs]
theorem ordOk_spec {xs : List D} (h : ordOk xs = true) : (∀ x ∈ xs, ∀ y ∈ xs, alkD x y = true) ∧ ∀ x ∈ xs, okN 50 x = true := by
  simp only [ordOk, Bool.and_eq_true, List.all_eq_true] at h
  exact h
theorem alk_ne {x y : D} (h : alkD x y = true) : toPy x ≠ .none := by
  cases x <;> first | (simp [alkD] at h; done) | (simp [toPy]; done)
theorem alikeAll_of {xs : List D} (h : ordOk xs = true) : PySem.W.AlikeAll (toPys xs) := by
  obtain ⟨h1, _⟩ := ordOk_spec h
  rw [toPys_map]
  refine ⟨fun a ha b hb => ?_, fun a ha => ?_⟩
  · obtain ⟨x, hx, rfl⟩ := List.mem_map.mp ha
    obtain ⟨y, hy, rfl⟩ := List.mem_map.mp hb
    exact alk_toPy x y (h1 x hx y hy)
  · obtain ⟨x, hx, rfl⟩ := List.mem_map.mp ha
    exact alk_ne (h1 x hx x hx)
theorem fold_sel {p : D → D → Bool} {q : PyData → PyData → Bool} : ∀ (r : List D) (x : D) (xs : List D), (∀ a ∈ xs, ∀ b ∈ xs, q (toPy a) (toPy b) = p a b) → x ∈ xs → (∀ y ∈ r, y ∈ xs) →
    (toPys r).foldl (fun a y => if q y a then y else a) (toPy x) = toPy (r.foldl (fun a y => if p y a then y else a) x) ∧ r.foldl (fun a y => if p y a then y else a) x ∈ xs
  | [], x, xs, _, hx, _ => ⟨by simp only [toPys, List.foldl_nil], hx⟩
  | y :: r, x, xs, h, hx, hr => by
    have hy := hr y (by simp)
    simp only [toPys, List.foldl_cons, h y hy x hx]
    cases p y x
    · simp only [Bool.false_eq_true, if_false]; exact fold_sel r x xs h hx fun z hz => hr z (by simp [hz])
    · simp only [if_true]; exact fold_sel r y xs h hy fun z hz => hr z (by simp [hz])
theorem depth_all {n : Nat} : ∀ {xs : List D}, (∀ x ∈ xs, okN n x = true) → PyData.depthAll (toPys xs) ≤ n + 1
  | [], _ => by simp [toPys, PyData.depthAll]
  | x :: xs, h => by
    have h1 := (okN_lay n (h x (by simp))).2
    have h2 := depth_all (xs := xs) fun y hy => h y (by simp [hy])
    simp only [toPys, PyData.depthAll]
    omega
/-- the value that stands where the least stands -/
theorem pick_rep {K : PySem.W.Frag} {wa : Option Addr} {Av : Addr → Prop} {H : Hp} {h' : Heap} {z : D} : ∀ {xs : List D} {vs : List V} {us : List Value} {as : List Addr}, xs.all (okN 50) = true → Reps K wa Av H vs xs → Vals vs us → ReadsAll h' us (toPys xs) as → (∀ x ∈ xs, PySem.W.alike (toPy x) (toPy z) = true) → okN 50 z = true →
    ∀ (i : Nat) (u : Value) (bs : List Addr), us[i]? = some u → Reads h' u (toPy z) bs → ∃ v, RelV v u ∧ Rep K wa Av H v z
  | [], _, _, _, _, r, q, _, _, _, i, u, bs, e, _ => by cases r; cases q; simp at e
  | x :: xs, _, _, _, ho, r, q, ra, hk, hz, i, u, bs, e, rd => by
    cases r with
    | cons r1 r2 =>
      cases q with
      | cons q1 q2 =>
        rw [List.all_cons, Bool.and_eq_true] at ho
        simp only [toPys] at ra
        cases ra with
        | cons a1 a2 =>
          cases i with
          | zero =>
            obtain rfl : _ = u := Option.some.inj e
            have := PySem.W.alike_unique _ _ _ _ _ (hk x (by simp)) a1 rd
            have := toPy_inj 50 50 x z ho.1 hz this
            subst this
            exact ⟨_, q1, r1⟩
          | succ i => exact pick_rep ho.2 r2 q2 a2 (fun y hy => hk y (by simp [hy])) hz i u bs e rd
theorem seqO_some {d : D} {ys : List D} (h : seqO d = some ys) : d = .tup ys ∨ d = .lst ys := by
  cases d <;> simp [seqO] at h
  · exact .inl (by rw [h])
  · exact .inr (by rw [h])
end BV
namespace BV
open PySem PySem.Spec PyProof.Rows L2
section
variable {X : Cx}
/-- a list or a tuple of things in order, as data -/
theorem ord_read {pins : List (Addr × Obj)} {s : Shared} {σ : L2.St} {H : Hp} {us : List Value} {F : Fr} {Av : Addr → Prop} {d : D} {v : V} {x : D} {r : List D} (I : Inv X pins σ H s) (rv : Vals [v] us) (rp : RepB X.K F.wa Av H v d) (hs : seqO d = some (x :: r)) (ho : ordOk (x :: r) = true) :
    ∃ (l : Addr) (its : List Value) (as : List Addr) (vs : List V), us = [.ref l] ∧ (s.heap.IsList l its.toArray ∨ s.heap.IsTuple l its.toArray) ∧ Vals vs its ∧ Reps X.K F.wa Av H vs (x :: r) ∧ ReadsAll s.heap its (toPy x :: toPys r) as := by
  have h50 : (x :: r).all (okN 50) = true := List.all_eq_true.mpr (ordOk_spec ho).2
  rcases seqO_some hs with rfl | rfl
  · obtain ⟨a, vs, rfl, h1, r2⟩ := rp.tup
    obtain ⟨its, q, p, _⟩ := I.tuple h1.sq
    obtain ⟨as, hr⟩ := Dp.readsAll I _ vs its (okN_dpAll 50 h50 r2) q
    cases rv with
    | cons b1 b2 => cases b1; cases b2; exact ⟨a, its, as, vs, rfl, .inr p, q, r2, hr⟩
  · obtain ⟨a, vs, rfl, h1, r2⟩ := rp.lst
    obtain ⟨its, q, p, _⟩ := I.list h1
    obtain ⟨as, hr⟩ := Dp.readsAll I _ vs its (okN_dpAll 50 h50 r2) q
    cases rv with
    | cons b1 b2 => cases b1; cases b2; exact ⟨a, its, as, vs, rfl, .inl p.isList, q, r2, hr⟩
theorem sel_end {pins : List (Addr × Obj)} {s : Shared} {σ σ' : L2.St} {H : Hp} {Q : VK} {F : Fr} {Av : Addr → Prop} {ρ : Env} {o : Or} {x z : D} {r : List D} {vs : List V} {its : List Value} {as bs : List Addr} {h' : Heap} {tk : Nat} {i : Nat} {u : Value}
    (I : Inv X pins σ H s) (rs : RS X.K F Av ρ o σ' H) (ho : ordOk (x :: r) = true) (q : Vals vs its) (r2 : Reps X.K F.wa Av H vs (x :: r)) (hr : ReadsAll s.heap its (toPys (x :: r)) as) (hz : z ∈ x :: r)
    (e : its[i]? = some u) (rd : Reads h' u (toPy z) bs) (hk : ∀ b o, s.heap.get? b = some o → h'.get? b = some o)
    (qk : ∀ w H', RS X.K F Av ρ o σ' H' → Kw F.wa H H' → Rep X.K F.wa Av H' w z → Q w H') : EP X pins σ Q u { s with heap := h', toks := tk } := by
  obtain ⟨k1, k2⟩ := ordOk_spec ho
  obtain ⟨w, rw_, rw2⟩ := pick_rep (List.all_eq_true.mpr k2) r2 q (ReadsAll.keeps (fun b o => hk b o) hr) (fun y hy => alk_toPy _ _ (k1 y hy z hz)) (k2 z hz) i u bs e rd
  exact ⟨w, H, I.kept hk, rw_, qk w H rs (Kw.refl _ _) rw2⟩
theorem c_least (hc : X.calm = true) (hu : X.A.units + 64 < cLine) {pins : List (Addr × Obj)} {s : Shared} {σ σ' : L2.St} {H : Hp} {us : List Value} {Q : VK} {F : Fr} {Av : Addr → Prop} {ρ : Env} {o : Or} {d z : D} {v : V} (I : Inv X pins σ H s) (rv : Vals [v] us) (rs : RS X.K F Av ρ o σ' H) (rp : RepB X.K F.wa Av H v d) (hz : leastO (seqO d) = some z)
    (qk : ∀ w H', RS X.K F Av ρ o σ' H' → Kw F.wa H H' → Rep X.K F.wa Av H' w z → Q w H') : wpAny (model X.prog X.w) X.A (call (.builtin "min") us) (EP X pins σ Q) X.xe s := by
  cases e1 : seqO d with
  | none => rw [e1] at hz; cases hz
  | some ys =>
    rw [e1] at hz
    cases ys with
    | nil => cases hz
    | cons x r =>
      simp only [leastO] at hz
      split at hz
      · rename_i ho
        cases hz
        obtain ⟨l, its, as, vs, rfl, hl, q, r2, hr⟩ := ord_read I rv rp e1 ho
        obtain ⟨k1, k2⟩ := ordOk_spec ho
        obtain ⟨f1, f2⟩ := fold_sel (p := fun y a => ltD y a) (q := fun y a => PySem.W.dataLt y a) r x (x :: r) (fun a ha b hb => lt_toPy 50 50 a b (k2 a ha) (k2 b hb) (k1 a ha b hb)) (by simp) (fun y hy => by simp [hy])
        have hd : X.A.units + 1 + PyData.depthAll (toPys (x :: r)) < cLine := by have := depth_all (n := 50) k2; omega
        have hal := alikeAll_of ho
        rcases hl with hl | hl
        · refine PySem.W.min_list_data (I.ok.hd hc) hl (by simpa using hr) (by simpa only [toPys] using hal) (by simpa only [toPys] using hd) fun i u h' tk bs e rd hk => ?_
          rw [PySem.W.minD, f1] at rd
          exact sel_end I rs ho q r2 (by simpa only [toPys] using hr) f2 (by simpa using e) rd hk qk
        · refine PySem.W.min_tuple_data (I.ok.hd hc) hl (by simpa using hr) (by simpa only [toPys] using hal) (by simpa only [toPys] using hd) fun i u h' tk bs e rd hk => ?_
          rw [PySem.W.minD, f1] at rd
          exact sel_end I rs ho q r2 (by simpa only [toPys] using hr) f2 (by simpa using e) rd hk qk
      · cases hz
theorem c_most (hc : X.calm = true) (hu : X.A.units + 64 < cLine) {pins : List (Addr × Obj)} {s : Shared} {σ σ' : L2.St} {H : Hp} {us : List Value} {Q : VK} {F : Fr} {Av : Addr → Prop} {ρ : Env} {o : Or} {d z : D} {v : V} (I : Inv X pins σ H s) (rv : Vals [v] us) (rs : RS X.K F Av ρ o σ' H) (rp : RepB X.K F.wa Av H v d) (hz : mostO (seqO d) = some z)
    (qk : ∀ w H', RS X.K F Av ρ o σ' H' → Kw F.wa H H' → Rep X.K F.wa Av H' w z → Q w H') : wpAny (model X.prog X.w) X.A (call (.builtin "max") us) (EP X pins σ Q) X.xe s := by
  cases e1 : seqO d with
  | none => rw [e1] at hz; cases hz
  | some ys =>
    rw [e1] at hz
    cases ys with
    | nil => cases hz
    | cons x r =>
      simp only [mostO] at hz
      split at hz
      · rename_i ho
        cases hz
        obtain ⟨l, its, as, vs, rfl, hl, q, r2, hr⟩ := ord_read I rv rp e1 ho
        obtain ⟨k1, k2⟩ := ordOk_spec ho
        obtain ⟨f1, f2⟩ := fold_sel (p := fun y a => ltD a y) (q := fun y a => PySem.W.dataLt a y) r x (x :: r) (fun a ha b hb => lt_toPy 50 50 b a (k2 b hb) (k2 a ha) (k1 b hb a ha)) (by simp) (fun y hy => by simp [hy])
        have hd : X.A.units + 1 + PyData.depthAll (toPys (x :: r)) < cLine := by have := depth_all (n := 50) k2; omega
        have hal := alikeAll_of ho
        rcases hl with hl | hl
        · refine PySem.W.max_list_data (I.ok.hd hc) hl (by simpa using hr) (by simpa only [toPys] using hal) (by simpa only [toPys] using hd) fun i u h' tk bs e rd hk => ?_
          rw [PySem.W.maxD, f1] at rd
          exact sel_end I rs ho q r2 (by simpa only [toPys] using hr) f2 (by simpa using e) rd hk qk
        · refine PySem.W.max_tuple_data (I.ok.hd hc) hl (by simpa using hr) (by simpa only [toPys] using hal) (by simpa only [toPys] using hd) fun i u h' tk bs e rd hk => ?_
          rw [PySem.W.maxD, f1] at rd
          exact sel_end I rs ho q r2 (by simpa only [toPys] using hr) f2 (by simpa using e) rd hk qk
      · cases hz
end
end BV

end
/-! text: BV12.lean -/
section
set_option maxRecDepth 100000
set_option autoImplicit false
set_option maxHeartbeats 4000000
namespace BV
open PySem PySem.Spec PyProof.Rows L2

/-! ### built-in functions -/
/-- a call does what f does on what the arguments stand for -/
def rC (K : PySem.W.Frag) (f : List D → Option D) : List V → Hp → VK → Prop := fun vs H Q => ∃ F Av ρ o σ ds z, RS K F Av ρ o σ H ∧ Paired (RepB K F.wa Av H) vs ds ∧ f ds = some z ∧
  ∀ w H', RS K F Av ρ o σ H' → Kw F.wa H H' → Rep K F.wa Av H' w z → Q w H'
section
variable {X : Cx} {g : Pg} {W : WX} {e a b : Expr} {es : List Expr} {ie ia ib : IE} {is : List IE} {pos p : Pos} {bi : Bi}
theorem bi_read {σ : L2.St} {H : Hp} {Q : VK} (h : tI X.K g W (.bi bi is) σ H Q) : tCB (rC X.K (biF bi)) (tIBs X.K g W is) σ H Q := by
  obtain ⟨F, Av, ρ, o, rs, q⟩ := h
  rw [evE] at q
  refine ⟨F, Av, ρ, o, rs, q.bind.mono fun vs H1 ⟨ds, o1, e1, rs1, k1, r1, q1⟩ => ?_⟩
  obtain ⟨z, hz, q2⟩ := goR_of q1
  exact ⟨F, Av, ρ, o1, σ, ds, z, rs1, r1, hz, q2⟩
theorem be_bi {id : String} {x : Str} (hc : CallR X (.builtin id) (rC X.K (biF bi))) (hg : Gl X x) (hm : X.mg x = none) (hv : bootBuiltins x = some (.builtin id)) (ha : BAB X g W (e :: es) is) (hn : x ≠ "__name__" := by decide) (hdb : (x == ("__debug__" : Str)) = false := by decide)
    (he : starEach (e :: es) X.env = (false, eval e X.env) :: starEach es X.env := by rfl) (hpl : (backTo pos (starEach es X.env)).any (·.1) = false := by rfl) : BE X g W (.Call (.Name x p) (e :: es) [] pos) (.bi bi is) :=
  peW (pe_callB hc hg hm hv ha hn hdb he hpl) fun _ _ _ h => bi_read h
theorem be_ty {T : String} {x : Str} (hc : CallR X (.type T) (rC X.K (biF bi))) (hg : Gl X x) (hm : X.mg x = none) (hv : bootBuiltins x = some (.type T)) (ha : BAB X g W (e :: es) is) (hn : x ≠ "__name__" := by decide) (hdb : (x == ("__debug__" : Str)) = false := by decide)
    (he : starEach (e :: es) X.env = (false, eval e X.env) :: starEach es X.env := by rfl) (hpl : (backTo pos (starEach es X.env)).any (·.1) = false := by rfl) : BE X g W (.Call (.Name x p) (e :: es) [] pos) (.bi bi is) :=
  peW (pe_callTy hc hg hm hv ha hn hdb he hpl) fun _ _ _ h => bi_read h
theorem rep1 {f : D → Option D} {ds : List D} {z : D} (h : un1 f ds = some z) : ∃ d, ds = [d] ∧ f d = some z := by
  match ds, h with
  | [d], h => exact ⟨d, rfl, h⟩
theorem rep2 {f : D → D → Option D} {ds : List D} {z : D} (h : un2 f ds = some z) : ∃ d e, ds = [d, e] ∧ f d e = some z := by
  match ds, h with
  | [d, e], h => exact ⟨d, e, rfl, h⟩
theorem prd1 {P : V → D → Prop} {vs : List V} {d : D} (r : Paired P vs [d]) : ∃ v, vs = [v] ∧ P v d := by
  cases r with
  | cons h t => cases t; exact ⟨_, rfl, h⟩
theorem prd2 {P : V → D → Prop} {vs : List V} {d e : D} (r : Paired P vs [d, e]) : ∃ v w, vs = [v, w] ∧ P v d ∧ P w e := by
  cases r with
  | cons h t =>
    obtain ⟨w, rfl, h2⟩ := prd1 t
    exact ⟨_, w, rfl, h, h2⟩
theorem c_len : CallR X (.builtin "len") (rC X.K (biF .len)) := by
  intro pins s σ H xs us Q I r ⟨F, Av, ρ, o, σ', ds, z, rs, rp, hz, q⟩
  obtain ⟨d, hds, hz2⟩ := rep1 (f := lenO) hz
  clear hz; subst hds; have hz := hz2; clear hz2
  obtain ⟨v, rfl, r1⟩ := prd1 rp
  unfold lenO at hz
  split at hz
  · cases hz
    obtain ⟨a, vs, rfl, h1, r2⟩ := r1.tup
    refine call_len pins s σ H _ us Q I r ⟨_, _, rfl, .inr ⟨vs, h1.sq, rfl⟩, ?_⟩
    rw [r2.length]
    exact q _ H rs (Kw.refl _ _) (.int _)
  · cases hz
    obtain ⟨a, vs, rfl, h1, r2⟩ := r1.lst
    refine call_len pins s σ H _ us Q I r ⟨_, _, rfl, .inl ⟨vs, h1, rfl⟩, ?_⟩
    rw [r2.length]
    exact q _ H rs (Kw.refl _ _) (.int _)
  · rename_i st
    split at hz
    · rename_i hl
      cases hz
      rw [r1.str] at r
      refine call_len pins s σ H _ us Q I r ⟨_, st.length, rfl, ⟨by simp only [cps, Str.length, List.size_toArray]; rw [← cap_eq]; exact hl, by simp [cps, Str.length]⟩, q _ H rs (Kw.refl _ _) (.int _)⟩
    · cases hz
  · rename_i kds
    cases hz
    have hd : ∃ a kvs, v = .ref a ∧ H a = some (.dK kvs) ∧ kvs.length = kds.length := by
      have len : ∀ {kvs : List (L2.Key × V)} {kds : List (BV.D × BV.D)}, RepsK X.K F.wa Av H kvs kds → kvs.length = kds.length := by
        intro kvs
        induction kvs with
        | nil => intro kds r; cases r; rfl
        | cons x t ih => intro kds r; cases r with | cons _ _ r => exact congrArg (· + 1) (ih r)
      rcases r1 with r1 | r1
      · cases r1 with | dic h q => exact ⟨_, _, rfl, h.1, len q⟩
      · obtain ⟨a, kvs, rfl, h, q, _⟩ := r1.dic
        exact ⟨a, kvs, rfl, h, len q⟩
    obtain ⟨a, kvs, rfl, h, hl⟩ := hd
    refine call_lenD pins s σ H _ us Q I r ⟨a, kvs, rfl, h, ?_⟩
    rw [hl]
    exact q _ H rs (Kw.refl _ _) (.int _)
  · cases hz
theorem c_abs : CallR X (.builtin "abs") (rC X.K (biF .abs)) := by
  intro pins s σ H xs us Q I r ⟨F, Av, ρ, o, σ', ds, z, rs, rp, hz, q⟩
  obtain ⟨d, hds, hz2⟩ := rep1 (f := absO) hz
  clear hz; subst hds; have hz := hz2; clear hz2
  obtain ⟨v, rfl, r1⟩ := prd1 rp
  unfold absO at hz
  split at hz
  · cases hz
    rw [r1.int] at r
    exact call_abs pins s σ H _ us Q I r ⟨_, rfl, q _ H rs (Kw.refl _ _) (.int _)⟩
  · cases hz
theorem c_int : CallR X (.type "int") (rC X.K (biF .int)) := by
  intro pins s σ H xs us Q I r ⟨F, Av, ρ, o, σ', ds, z, rs, rp, hz, q⟩
  obtain ⟨d, hds, hz2⟩ := rep1 (f := intO) hz
  clear hz; subst hds; have hz := hz2; clear hz2
  obtain ⟨v, rfl, r1⟩ := prd1 rp
  unfold intO at hz
  split at hz
  · cases hz
    rw [r1.int] at r
    exact call_int1 pins s σ H _ us Q I r (.inl ⟨_, rfl, q _ H rs (Kw.refl _ _) (.int _)⟩)
  · cases hz
    rw [r1.bl] at r
    exact call_int1 pins s σ H _ us Q I r (.inr ⟨_, rfl, q _ H rs (Kw.refl _ _) (.int _)⟩)
  · cases hz
theorem c_min2 (hc : X.calm = true) : CallR X (.builtin "min") (rC X.K (biF .min2)) := by
  intro pins s σ H xs us Q I r ⟨F, Av, ρ, o, σ', ds, z, rs, rp, hz, q⟩
  obtain ⟨d, e, hds, hz2⟩ := rep2 (f := min2O) hz
  clear hz; subst hds; have hz := hz2; clear hz2
  obtain ⟨v, w, rfl, r1, r2⟩ := prd2 rp
  unfold min2O at hz
  split at hz
  · cases hz
    rw [r1.int, r2.int] at r
    exact call_min2 hc pins s σ H _ us Q I r ⟨_, _, rfl, q _ H rs (Kw.refl _ _) (.int _)⟩
  · cases hz
theorem c_max2 (hc : X.calm = true) : CallR X (.builtin "max") (rC X.K (biF .max2)) := by
  intro pins s σ H xs us Q I r ⟨F, Av, ρ, o, σ', ds, z, rs, rp, hz, q⟩
  obtain ⟨d, e, hds, hz2⟩ := rep2 (f := max2O) hz
  clear hz; subst hds; have hz := hz2; clear hz2
  obtain ⟨v, w, rfl, r1, r2⟩ := prd2 rp
  unfold max2O at hz
  split at hz
  · cases hz
    rw [r1.int, r2.int] at r
    exact call_max2 hc pins s σ H _ us Q I r ⟨_, _, rfl, q _ H rs (Kw.refl _ _) (.int _)⟩
  · cases hz
theorem minL_spec : ∀ (l : List Int), l ≠ [] → minL l ∈ l ∧ ∀ y ∈ l, minL l ≤ y
  | [], h => absurd rfl h
  | [a], _ => ⟨by simp [minL], fun y hy => by simp at hy; subst hy; simp [minL]⟩
  | a :: b :: r, _ => by
    obtain ⟨h1, h2⟩ := minL_spec (b :: r) (by simp)
    have e : minL (a :: b :: r) = if minL (b :: r) < a then minL (b :: r) else a := rfl
    rw [e]
    split
    · rename_i c
      refine ⟨List.mem_cons_of_mem _ h1, fun y hy => ?_⟩
      rcases List.mem_cons.mp hy with rfl | hy
      · omega
      · exact h2 y hy
    · rename_i c
      refine ⟨List.mem_cons_self, fun y hy => ?_⟩
      rcases List.mem_cons.mp hy with rfl | hy
      · omega
      · have := h2 y hy
        omega
theorem maxL_spec : ∀ (l : List Int), l ≠ [] → maxL l ∈ l ∧ ∀ y ∈ l, y ≤ maxL l
  | [], h => absurd rfl h
  | [a], _ => ⟨by simp [maxL], fun y hy => by simp at hy; subst hy; simp [maxL]⟩
  | a :: b :: r, _ => by
    obtain ⟨h1, h2⟩ := maxL_spec (b :: r) (by simp)
    have e : maxL (a :: b :: r) = if a < maxL (b :: r) then maxL (b :: r) else a := rfl
    rw [e]
    split
    · rename_i c
      refine ⟨List.mem_cons_of_mem _ h1, fun y hy => ?_⟩
      rcases List.mem_cons.mp hy with rfl | hy
      · omega
      · exact h2 y hy
    · rename_i c
      refine ⟨List.mem_cons_self, fun y hy => ?_⟩
      rcases List.mem_cons.mp hy with rfl | hy
      · omega
      · have := h2 y hy
        omega
theorem lstO_some {d : D} {ys : List D} (h : lstO d = some ys) : d = .lst ys := by
  cases d <;> simp [lstO] at h
  rw [h]
theorem c_min1 (hc : X.calm = true) (hu : X.A.units + 64 < cLine) : CallR X (.builtin "min") (rC X.K (biF .min1)) := by
  intro pins s σ H xs us Q I r ⟨F, Av, ρ, o, σ', ds, z, rs, rp, hz, q⟩
  obtain ⟨d, hds, hz2⟩ := rep1 (f := min1O) hz
  clear hz; subst hds; have hz := hz2; clear hz2
  obtain ⟨v, rfl, r1⟩ := prd1 rp
  unfold min1O at hz
  cases e0 : minIs ((lstO d).bind intsO) with
  | none => rw [e0] at hz; exact c_least hc hu I r rs r1 hz q
  | some z' =>
    rw [e0] at hz
    cases hz
    cases e1 : lstO d with
    | none => rw [e1] at e0; cases e0
    | some ys =>
      have := lstO_some e1
      subst this
      simp only [lstO, Option.bind_some] at e0
      cases e2 : intsO ys with
      | none => rw [e2] at e0; cases e0
      | some ns =>
        rw [e2] at e0
        cases ns with
        | nil => cases e0
        | cons n ns =>
          cases e0
          obtain ⟨a, vs, rfl, h1, r2⟩ := r1.lst
          rw [r2.ints e2] at h1
          refine cr_min hc pins s σ H _ us Q I r ⟨a, n :: ns, rfl, h1, by simp, fun m hm hle => ?_⟩
          obtain ⟨m1, m2⟩ := minL_spec (n :: ns) (by simp)
          have : m = minL (n :: ns) := by
            have := hle _ m1
            have := m2 _ hm
            omega
          subst this
          exact q _ H rs (Kw.refl _ _) (.int _)
theorem c_max1 (hc : X.calm = true) (hu : X.A.units + 64 < cLine) : CallR X (.builtin "max") (rC X.K (biF .max1)) := by
  intro pins s σ H xs us Q I r ⟨F, Av, ρ, o, σ', ds, z, rs, rp, hz, q⟩
  obtain ⟨d, hds, hz2⟩ := rep1 (f := max1O) hz
  clear hz; subst hds; have hz := hz2; clear hz2
  obtain ⟨v, rfl, r1⟩ := prd1 rp
  unfold max1O at hz
  cases e0 : maxIs ((lstO d).bind intsO) with
  | none => rw [e0] at hz; exact c_most hc hu I r rs r1 hz q
  | some z' =>
    rw [e0] at hz
    cases hz
    cases e1 : lstO d with
    | none => rw [e1] at e0; cases e0
    | some ys =>
      have := lstO_some e1
      subst this
      simp only [lstO, Option.bind_some] at e0
      cases e2 : intsO ys with
      | none => rw [e2] at e0; cases e0
      | some ns =>
        rw [e2] at e0
        cases ns with
        | nil => cases e0
        | cons n ns =>
          cases e0
          obtain ⟨a, vs, rfl, h1, r2⟩ := r1.lst
          rw [r2.ints e2] at h1
          refine cr_max hc pins s σ H _ us Q I r ⟨a, n :: ns, rfl, h1, by simp, fun m hm hle => ?_⟩
          obtain ⟨m1, m2⟩ := maxL_spec (n :: ns) (by simp)
          have : m = maxL (n :: ns) := by
            have := hle _ m1
            have := m2 _ hm
            omega
          subst this
          exact q _ H rs (Kw.refl _ _) (.int _)
/-- sum of a tuple -/
theorem iter_tupI {prog : Program} {w : World} {A : Around} {E : Value → Shared → Prop} {s : Shared} {l : Addr} {items : Array Value} {Q : Value → Shared → Prop} (hl : s.heap.IsTuple l items)
    (h : ∀ s₂ : Shared, s₂ = { s with heap := s.heap.push { cls := .type "tuple_iterator", data := .fields #[.ref l, .int 0 0] } } →
      (s₂.heap.IsTupleIter s.heap.objs.size l 0 ∧ s₂.heap.IsTuple l items) → (∀ b ∈ [s.heap.objs.size, l], b < s₂.heap.objs.size) → l ≠ s.heap.objs.size → Q (.ref s.heap.objs.size) s₂) : wpAny (model prog w) A (pyIter (.ref l)) Q E s := by
  have hlt : l < s.heap.objs.size := by obtain ⟨_, e, _⟩ := hl; exact Heap.lt_size e
  refine wpAny_pyIter_tuple hl (h _ rfl ⟨⟨_, Heap.get?_push_size _ rfl, rfl, rfl⟩, hl.at fun o e => Heap.get?_push_of_some _ e⟩ (fun b hb => ?_) (Nat.ne_of_lt hlt))
  show b < (s.heap.push _).objs.size
  rw [Heap.size_push]
  rcases List.mem_cons.mp hb with rfl | hb
  · exact Nat.lt_succ_self _
  · rcases List.mem_cons.mp hb with rfl | hb
    · exact Nat.lt_succ_of_lt hlt
    · cases hb
theorem sum_rawT {prog : Program} {w : World} {A : Around} {E : Value → Shared → Prop} {s : Shared} {l : Addr} {its : List Value} {ns : List Int} {Q : Value → Shared → Prop} (hh : A.handled = none) (hl : s.heap.IsTuple l its.toArray) (hi : IntsAre its ns)
    (h : ∀ h' tk t', (∀ b o, s.heap.get? b = some o → h'.get? b = some o) → Q (.int ns.sum t') { s with heap := h', toks := tk }) : wpAny (model prog w) A (call (.builtin "sum") [.ref l]) Q E s := by
  obtain ⟨xs, e⟩ := hi.allInts.items
  have hn : numsOf (intItems xs).toList = ns := by rw [← e]; exact hi.numsOf
  rw [nums_intItems] at hn
  rw [e] at hl
  refine call_sum_walkG (iter_tupI hl fun s₂ e2 st hfp hlI => ?_)
  subst e2
  refine ⟨_, _, _, _, _, _, numAt xs, rfl, Walks.tuple (A := A.in1) hh _ l hlI (intItems xs), st, hfp, (fun _ _ => intItems_at), fun h' tk t' hk => ?_⟩
  have hk2 : ∀ b o, s.heap.get? b = some o → h'.get? b = some o := fun b o e => by
    refine hk b o (fun hm => ?_) (Heap.get?_push_of_some _ e)
    rcases List.mem_cons.mp hm with e1 | hm
    · exact absurd (e1 ▸ Heap.lt_size e) (Nat.lt_irrefl _)
    · cases hm
  have := h h' tk t' hk2
  have e3 : preSum (numAt xs) (intItems xs).size = ns.sum := by
    rw [preSum_eq]
    have : (intItems xs).size = xs.size := by simp [intItems]
    rw [this, List.take_of_length_le (by simp), hn]
  rw [e3]
  exact this
theorem c_sum (hc : X.calm = true) : CallR X (.builtin "sum") (rC X.K (biF .sum)) := by
  intro pins s σ H xs us Q I r ⟨F, Av, ρ, o, σ', ds, z, rs, rp, hz, q⟩
  obtain ⟨d, hds, hz2⟩ := rep1 (f := sumO) hz
  clear hz; subst hds; have hz := hz2; clear hz2
  obtain ⟨v, rfl, r1⟩ := prd1 rp
  unfold sumO at hz
  cases d <;> simp only [seqO, Option.bind_none, Option.map_none, reduceCtorEq, Option.bind_some] at hz
  · rename_i ys
    cases e2 : intsO ys with
    | none => rw [e2] at hz; cases hz
    | some ns =>
      rw [e2] at hz
      cases hz
      obtain ⟨a, vs, rfl, h1, r2⟩ := r1.tup
      have h1' := h1.sq
      rw [r2.ints e2] at h1'
      obtain ⟨its, rv, hl, _⟩ := I.tuple h1'
      rw [Vals.ref1 r]
      exact sum_rawT (I.ok.hd hc) hl rv.ints fun h' tk t' hk => ⟨.int _, H, I.kept hk, ⟨_, rfl⟩, q _ H rs (Kw.refl _ _) (.int _)⟩
  · rename_i ys
    cases e2 : intsO ys with
    | none => rw [e2] at hz; cases hz
    | some ns =>
      rw [e2] at hz
      cases hz
      obtain ⟨a, vs, rfl, h1, r2⟩ := r1.lst
      rw [r2.ints e2] at h1
      exact cr_sum hc pins s σ H _ us Q I r ⟨a, ns, rfl, h1, q _ H rs (Kw.refl _ _) (.int _)⟩
theorem c_any (hc : X.calm = true) : CallR X (.builtin "any") (rC X.K (biF .any)) := by
  intro pins s σ H xs us Q I r ⟨F, Av, ρ, o, σ', ds, z, rs, rp, hz, q⟩
  obtain ⟨d, hds, hz2⟩ := rep1 (f := anyO) hz
  clear hz; subst hds; have hz := hz2; clear hz2
  obtain ⟨v, rfl, r1⟩ := prd1 rp
  unfold anyO at hz
  cases e1 : lstO d with
  | none => rw [e1] at hz; cases hz
  | some ys =>
    have := lstO_some e1
    subst this
    simp only [lstO, Option.bind_some] at hz
    cases e2 : boolsO ys with
    | none => rw [e2] at hz; cases hz
    | some bs =>
      rw [e2] at hz
      cases hz
      obtain ⟨a, vs, rfl, h1, r2⟩ := r1.lst
      rw [r2.bools e2] at h1
      exact cr_any hc pins s σ H _ us Q I r ⟨a, bs, rfl, h1, q _ H rs (Kw.refl _ _) (.bl _)⟩
theorem c_all (hc : X.calm = true) : CallR X (.builtin "all") (rC X.K (biF .all)) := by
  intro pins s σ H xs us Q I r ⟨F, Av, ρ, o, σ', ds, z, rs, rp, hz, q⟩
  obtain ⟨d, hds, hz2⟩ := rep1 (f := allO) hz
  clear hz; subst hds; have hz := hz2; clear hz2
  obtain ⟨v, rfl, r1⟩ := prd1 rp
  unfold allO at hz
  cases e1 : lstO d with
  | none => rw [e1] at hz; cases hz
  | some ys =>
    have := lstO_some e1
    subst this
    simp only [lstO, Option.bind_some] at hz
    cases e2 : boolsO ys with
    | none => rw [e2] at hz; cases hz
    | some bs =>
      rw [e2] at hz
      cases hz
      obtain ⟨a, vs, rfl, h1, r2⟩ := r1.lst
      rw [r2.bools e2] at h1
      exact cr_all hc pins s σ H _ us Q I r ⟨a, bs, rfl, h1, q _ H rs (Kw.refl _ _) (.bl _)⟩
theorem c_tuple : CallR X (.type "tuple") (rC X.K (biF .tuple)) := by
  intro pins s σ H xs us Q I r ⟨F, Av, ρ, o, σ', ds, z, rs, rp, hz, q⟩
  obtain ⟨d, hds, hz2⟩ := rep1 (f := tupO) hz
  clear hz; subst hds; have hz := hz2; clear hz2
  obtain ⟨v, rfl, r1⟩ := prd1 rp
  unfold tupO at hz
  cases d <;> simp only [seqO, Option.map_none, reduceCtorEq, Option.map_some, Option.some.injEq] at hz <;> subst hz
  · obtain ⟨a, vs, rfl, h1, r2⟩ := r1.tup
    exact call_tuple_of pins s σ H _ us Q I r ⟨a, vs, rfl, .inr ⟨h1.sq, q _ H rs (Kw.refl _ _) (.tup h1 r2)⟩⟩
  · obtain ⟨a, vs, rfl, h1, r2⟩ := r1.lst
    exact call_tuple_of pins s σ H _ us Q I r ⟨a, vs, rfl, .inl ⟨h1, fun l hl => q _ _ (rs.alloc hl) (kw_alloc hl) (Rep.newTup rs hl r2)⟩⟩
theorem c_list : CallR X (.type "list") (rC X.K (biF .list)) := by
  intro pins s σ H xs us Q I r ⟨F, Av, ρ, o, σ', ds, z, rs, rp, hz, q⟩
  obtain ⟨d, hds, hz2⟩ := rep1 (f := listO) hz
  clear hz; subst hds; have hz := hz2; clear hz2
  obtain ⟨v, rfl, r1⟩ := prd1 rp
  unfold listO at hz
  cases d <;> simp only [seqO, Option.map_none, reduceCtorEq, Option.map_some, Option.some.injEq] at hz <;> subst hz
  · obtain ⟨a, vs, rfl, h1, r2⟩ := r1.tup
    exact call_list_of pins s σ H _ us Q I r ⟨a, vs, rfl, .inr h1.sq, fun l hl => q _ _ (rs.alloc hl) (kw_alloc hl) (Rep.newLst rs hl r2)⟩
  · obtain ⟨a, vs, rfl, h1, r2⟩ := r1.lst
    exact call_list_of pins s σ H _ us Q I r ⟨a, vs, rfl, .inl h1, fun l hl => q _ _ (rs.alloc hl) (kw_alloc hl) (Rep.newLst rs hl r2)⟩
/-! ### isinstance -/
def tyN : Ty → String
  | .int => "int"
  | .bool => "bool"
  | .str => "str"
  | .tup => "tuple"
  | .lst => "list"
  | .dic => "dict"
theorem kit_all : ∀ t ∈ [Ty.int, Ty.bool, Ty.str, Ty.tup, Ty.lst, Ty.dic], kitB "NoneType" (tyN t) = some false ∧ kitB "bool" (tyN t) = some (t == .int || t == .bool) ∧ kitB "int" (tyN t) = some (t == .int) ∧ kitB "str" (tyN t) = some (t == .str) ∧ kitB "tuple" (tyN t) = some (t == .tup) ∧ kitB "list" (tyN t) = some (t == .lst) ∧ kitB "dict" (tyN t) = some (t == .dic) := by decide +kernel
theorem ty_mem (t : Ty) : t ∈ [Ty.int, Ty.bool, Ty.str, Ty.tup, Ty.lst, Ty.dic] := by cases t <;> decide
theorem isi_ok {F : Fr} {Av : Addr → Prop} {H : Hp} {v : V} {d : D} {t : Ty} {b : Bool} (r : RepB X.K F.wa Av H v d) (h : isTy t d = some b) : ∃ u, TyX X.K H v u ∧ PySem.W.kitOne X.K u (.type (tyN t)) = some b := by
  obtain ⟨k1, k2, k3, k4, k5, k6, k7⟩ := kit_all t (ty_mem t)
  have lst : ∀ {a : Addr} {vs : List V}, SqL X.K H a vs → TyX X.K H (.ref a) (.type "list") := by
    rintro a vs ((h | ⟨o, h⟩) | ⟨o, its, n, h, hc, _⟩)
    · exact .base (.lst h)
    · exact .base (.frz h)
    · exact .kList h hc
  have tup : ∀ {a : Addr} {vs : List V}, SqT X.K H a vs → TyX X.K H (.ref a) (.type "tuple") := by
    rintro a vs ((h | ⟨o, h⟩) | ⟨o, its, n, h, hc, _⟩)
    · exact .base (.tup h)
    · exact .fTuple h
    · exact .kTuple h hc
  cases d with
  | non => rw [r.non]; exact ⟨_, .base .non, kit_ty (by rw [k1]; cases t <;> exact h)⟩
  | bool x => rw [r.bl]; exact ⟨_, .base (.bl x), kit_ty (by rw [k2]; cases t <;> exact h)⟩
  | int x => rw [r.int]; exact ⟨_, .base (.int x), kit_ty (by rw [k3]; cases t <;> exact h)⟩
  | str x => rw [r.str]; exact ⟨_, .base (.str _), kit_ty (by rw [k4]; cases t <;> exact h)⟩
  | tup x =>
    obtain ⟨a, vs, rfl, h1, _⟩ := r.tup
    exact ⟨_, tup h1.sq, kit_ty (by rw [k5]; cases t <;> exact h)⟩
  | lst x =>
    obtain ⟨a, vs, rfl, h1, _⟩ := r.lst
    exact ⟨_, lst h1, kit_ty (by rw [k6]; cases t <;> exact h)⟩
  | dic x =>
    have hd : ∃ a kvs, v = .ref a ∧ H a = some (.dK kvs) := by
      rcases r with r | r
      · cases r with | dic h q => exact ⟨_, _, rfl, h.1⟩
      · obtain ⟨a, kvs, rfl, h, q, _⟩ := r.dic
        exact ⟨a, kvs, rfl, h⟩
    obtain ⟨a, kvs, rfl, h1⟩ := hd
    exact ⟨_, .base (.dK h1), kit_ty (by rw [k7]; cases t <;> exact h)⟩
  | tok => cases t <;> simp [isTy] at h
theorem be_isi {t : Ty} {x y : Str} {p2 : Pos} (hg : Gl X x) (hm : X.mg x = none) (hv : bootBuiltins x = some (.builtin "isinstance")) (hgy : Gl X y) (hmy : X.mg y = none) (hvy : bootBuiltins y = some (.type (tyN t))) (ha : BB X g W a ia)
    (hn : x ≠ "__name__" := by decide) (hdb : (x == ("__debug__" : Str)) = false := by decide) (hny : y ≠ "__name__" := by decide) (hdby : (y == ("__debug__" : Str)) = false := by decide)
    (he : starEach (a :: [.Name y p2]) X.env = (false, eval a X.env) :: starEach [.Name y p2] X.env := by rfl) (hpl : (backTo pos (starEach [.Name y p2] X.env)).any (·.1) = false := by rfl) (he2 : starEach [.Name y p2] X.env = (false, eval (.Name y p2) X.env) :: starEach [] X.env := by rfl) :
    BE X g W (.Call (.Name x p) [a, .Name y p2] [] pos) (.bi (.isT t) [ia]) := by
  refine peW (pe_callB call_isi hg hm hv (pa_cons ha (pa_cons (pe_bltn (v := .ty (tyN t)) hgy hmy hvy rfl hny hdby) pa_nil he2) he) hn hdb he hpl) fun σ H Q ⟨F, Av, ρ, o, rs, q⟩ => ⟨F, Av, ρ, o, rs, ?_⟩
  simp only [evE, evEs] at q
  cases e1 : evE g.C ia ρ o with
  | no => rw [e1] at q; exact q.elim
  | exc c d o1 => rw [e1] at q; exact q
  | ok d o1 =>
    rw [e1] at q
    simp only [BV.R.bind_ok, biF, un1] at q
    intro v H1 rs1 k1 r1
    cases hz : isTy t d with
    | none => rw [hz] at q; exact q.elim
    | some b =>
      rw [hz] at q
      simp only [Option.map_some, BV.R.of_some] at q
      obtain ⟨u, h1, h2⟩ := isi_ok r1 hz
      exact ⟨v, .ty (tyN t), u, .type (tyN t), b, rfl, .ty _, h1, h2, q _ H1 rs1 k1 (.bl b)⟩
/-! ### methods of lists that only read -/
theorem findD_spec {y : D} : ∀ {xs : List D} {k j : Nat}, findD y xs k = some j → ∃ i, j = k + i ∧ ∃ z, xs[i]? = some z ∧ eqD z y = true ∧ ∀ m, m < i → ∀ z', xs[m]? = some z' → eqD z' y = false
  | [], _, _, h => by simp [findD] at h
  | x :: xs, k, j, h => by
    rw [findD] at h
    split at h
    · rename_i he
      cases h
      exact ⟨0, rfl, x, rfl, he, fun m hm => absurd hm (by omega)⟩
    · rename_i he
      obtain ⟨i, rfl, z, h1, h2, h3⟩ := findD_spec h
      refine ⟨i + 1, by omega, z, by simpa using h1, h2, fun m hm z' hz => ?_⟩
      cases m with
      | zero =>
        simp at hz
        subst hz
        simpa using he
      | succ m => exact h3 m (by omega) z' (by simpa using hz)
theorem mth_read {m : Mt} {K : PySem.W.Frag} {F : Fr} {Av : Addr → Prop} {ρ : Env} {o : Or} {σ : L2.St} {H : Hp} {Q : VK}
    (q : goR K g W F Av ρ σ (fun v d H' => Rep K F.wa Av H' v d) H (evE g.C (.mth m ia is) ρ o) Q) :
    goR K g W F Av ρ σ (fun v d H' => RepB K F.wa Av H' v d) H (evE g.C ia ρ o) (fun v H1 => ∃ d o1, RS K F Av ρ o1 σ H1 ∧ RepB K F.wa Av H1 v d ∧ mtOk m d = true ∧
      goR K g W F Av ρ σ (fun v d H' => Paired (RepB K F.wa Av H') v d) H1 (evEs g.C is ρ o1) (fun vs H2 => ∃ ds o2 z, RS K F Av ρ o2 σ H2 ∧ RepB K F.wa Av H2 v d ∧ Paired (RepB K F.wa Av H2) vs ds ∧ mtF m d ds = some z ∧
        ∀ w H', RS K F Av ρ o2 σ H' → Kw F.wa H2 H' → Rep K F.wa Av H' w z → Q w H')) := by
  rw [evE] at q
  refine q.bind.mono fun v H1 ⟨d, o1, e1, rs1, k1, r1, q1⟩ => ?_
  split at q1
  · rename_i hm
    refine ⟨d, o1, rs1, r1, hm, q1.bind.mono fun vs H2 ⟨ds, o2, e2, rs2, k2, r2, q2⟩ => ?_⟩
    obtain ⟨z, hz, q3⟩ := goR_of q2
    exact ⟨ds, o2, z, rs2, RepB.cv rs1 k2 r1, r2, hz, q3⟩
  · exact q1.elim
theorem eqV_eqD {F : Fr} {Av : Addr → Prop} {H : Hp} {x y : V} {d e : D} (h : flat d = true) (h' : flat e = true) (rd : RepB X.K F.wa Av H x d) (re : RepB X.K F.wa Av H y e) : eqV x y = eqD d e := eqV_of h h' rd re
theorem room65 {k : Nat} {A : Around} (r : L2.Room k A) : A.units + 65 < cLine := by have := r.un; omega
/-- index, of flat things and of deep ones -/
theorem mt_index2 (hu : X.A.units + 65 < cLine) : MtR X "list.index" (fun x xs H Q => rIndex X.K x xs H Q ∨ rIndexD X.K x xs H Q) := by
  intro pins s σ H x xs v us Q I rx rs h
  rcases h with h | h
  · exact mt_index pins s σ H x xs v us Q I rx rs h
  · exact mt_indexD hu pins s σ H x xs v us Q I rx rs h
theorem toPys_get : ∀ {ys : List D} {i : Nat}, (toPys ys)[i]? = ys[i]?.map toPy
  | [], i => by simp [toPys]
  | y :: ys, 0 => by simp [toPys]
  | y :: ys, i + 1 => by simp only [toPys, List.getElem?_cons_succ]; exact toPys_get
theorem be_index (hu : X.A.units + 65 < cLine) {apos cpos : Pos} (ha : BB X g W a ia) (hb : BB X g W b ib)
    (hbase : attributeBase a "index" X.env (eval a X.env) = eval a X.env := by rfl)
    (hfew : ((backTo cpos (starEach (b :: []) X.env)).all (fun x => !x.1) && (backToKw cpos (keywordEach [] X.env)).all (fun x => x.1.isSome)
      && decide ((b :: []).length + ([] : List Keyword).length + (if ([] : List Keyword).isEmpty then 0 else 1) < 30)) = true := by rfl)
    (hline : (apos.endLine == cpos.line) = true := by rfl) (hs : starEach (b :: []) X.env = (false, eval b X.env) :: starEach [] X.env := by rfl) :
    BE X g W (.Call (.Attribute a "index" apos) [b] [] cpos) (.mth .index ia [ib]) := by
  refine peW (pe_bm PySem.F.plainAttrs_list PySem.F.slot_list_index PySem.F.type_list_index (mt_index2 hu) ha (be_consB hb be_nilB hs) hbase hfew hline hs rfl) fun σ H Q ⟨F, Av, ρ, o, rs, q⟩ => ⟨F, Av, ρ, o, rs, (mth_read q).mono fun v H1 ⟨d, o1, rs1, r1, hm, q1⟩ => ?_⟩
  obtain ⟨ys, rfl⟩ : ∃ ys, d = .lst ys := by cases d <;> simp [mtOk] at hm; exact ⟨_, rfl⟩
  obtain ⟨al, vs0, rfl, h1, _⟩ := r1.lst
  refine ⟨?_, F, Av, ρ, o1, rs1, q1.mono fun vs H2 ⟨ds, o2, z, rs2, r2, rp, hz, q2⟩ => ?_⟩
  · rcases h1 with h1 | ⟨o, its, n, h1, hc, _⟩
    · exact .inl ⟨rfl, _, .inl h1⟩
    · exact .inl ⟨rfl, _, .inr ⟨o, its, n, h1, hc, by assumption⟩⟩
  · obtain ⟨d2, hds, hz2⟩ := rep1 (f := indexO (.lst ys)) hz
    clear hz; subst hds; have hz := hz2; clear hz2
    obtain ⟨w, rfl, rw2⟩ := prd1 rp
    obtain ⟨al', vs2, e5, h2, r3⟩ := r2.lst
    cases e5
    simp only [indexO, lstO, Option.bind_some] at hz
    split at hz
    · rename_i hf
      rw [Bool.and_eq_true] at hf
      cases e4 : findD d2 ys 0 with
      | none => rw [e4] at hz; cases hz
      | some j =>
        rw [e4] at hz
        cases hz
        obtain ⟨i, hj, z, hz1, hz2, hz3⟩ := findD_spec e4
        have hi : j = i := by omega
        subst hi
        obtain ⟨vz, hv1, hv2⟩ := r3.get hz1
        have fl : ∀ {z : D} {m : Nat}, ys[m]? = some z → flat z = true := fun h => List.all_eq_true.mp hf.2 _ (List.mem_of_getElem? h)
        refine .inl ⟨al, vs2, w, j, vz, rfl, rfl, h2, flat_of hf.1 rw2, flats_of hf.2 r3, hv1, ?_, fun m z' hm hz' => ?_, q2 _ H2 rs2 (Kw.refl _ _) (.int _)⟩
        · rw [eqV_of (F := F) (Av := Av) (H := H2) (fl hz1) hf.1 (.inl hv2) rw2]; exact hz2
        · obtain ⟨dm, hd1, hd2⟩ := r3.getV hz'
          rw [eqV_of (F := F) (Av := Av) (H := H2) (fl hd1) hf.1 (.inl hd2) rw2]
          exact hz3 m hm dm hd1
    · split at hz
      · rename_i hf
        rw [Bool.and_eq_true] at hf
        cases e4 : findD d2 ys 0 with
        | none => rw [e4] at hz; cases hz
        | some j =>
          rw [e4] at hz
          cases hz
          obtain ⟨i, hj, z, hz1, hz2, hz3⟩ := findD_spec e4
          have hi : j = i := by omega
          subst hi
          have ol : ∀ {z : D} {m : Nat}, ys[m]? = some z → okN 59 z = true := fun h => List.all_eq_true.mp hf.2 _ (List.mem_of_getElem? h)
          have okl : okN 60 (.lst ys) = true := by simpa [okN] using hf.2
          have ok2 : okN 60 d2 = true := hf.1
          refine .inr ⟨al, w, toPy d2, toPys ys, j, toPy z, rfl, rfl, r2.dp okl, rw2.dp ok2, okN_shaped okl, okN_shaped ok2, by rw [toPys_get, hz1]; rfl, ?_, fun m z' hm hz' => ?_, q2 _ H2 rs2 (Kw.refl _ _) (.int _)⟩
          · rw [eqv_toPy (ol hz1) hf.1]; exact hz2
          · rw [toPys_get] at hz'
            cases e5 : ys[m]? with
            | none => rw [e5] at hz'; cases hz'
            | some u =>
              rw [e5] at hz'
              cases hz'
              rw [eqv_toPy (ol e5) hf.1]
              exact hz3 m hm u e5
      · cases hz
end
end BV

end
/-! text: BV13.lean -/
section
set_option maxRecDepth 100000
set_option autoImplicit false
set_option maxHeartbeats 4000000
namespace BV
open PySem PySem.Spec PyProof.Rows L2

/-! ### a def of the program -/
abbrev XPT := Nat → D → Value → Option Addr → Hp → Prop
def pgK (T : Nat → Fn) (XP : XPT) (k : Nat) : Pg := ⟨callN T k, XP⟩
section
variable {P : Program} {w : World} {K : PySem.W.Frag} {mg : Str → Option Value} {base : Heap} {T : Nat → Fn} {XP : XPT}
theorem getS_start : ∀ (n : Nat) (ds : List D) (i : Nat), getS (ds.map Sl.val ++ List.replicate n Sl.un) i = match ds[i]? with
    | some d => .val d
    | none => .un
  | n, [], i => by
    have : ∀ (n i : Nat), getS (List.replicate n Sl.un) i = .un := by
      intro n
      induction n with
      | zero => intro i; rfl
      | succ n ih =>
        intro i
        cases i with
        | zero => rfl
        | succ i => exact ih i
    simpa using this n i
  | n, d :: ds, 0 => rfl
  | n, d :: ds, i + 1 => by
    show getS (ds.map Sl.val ++ List.replicate n Sl.un) i = _
    rw [getS_start n ds i]
    simp
theorem start_get (N : List Str) (vs : List V) (i : Nat) (v : V) (h : vs[i]? = some v) : (L2.start N vs)[i]? = some (some v) := by
  unfold L2.start
  have hi := (List.getElem?_eq_some_iff.mp h).1
  rw [List.getElem?_append_left (by simpa using hi), List.getElem?_map, h]
  rfl
theorem RS.start {wa : Option Addr} {da : Addr × Bool} {Av : Addr → Prop} {H : Hp} {vs : List V} {ds : List D} {o : Or} {N : List Str} (r : Reps K wa Av H vs ds) (oc : Orc K Av wa da o H) (hw : ∀ a, wa = some a → Av a) (ht : ∀ a, Av a → H a ≠ none) (hl : ds.length ≤ N.length) :
    RS K ⟨H, wa, da, Av⟩ Av (startS N.length ds) o (L2.start N vs) H where
  len := by
    unfold startS L2.start
    rw [List.length_append, List.length_append, List.length_map, List.length_map, List.length_replicate, List.length_replicate, r.length]
  slot := fun i => by
    unfold startS
    rw [getS_start]
    cases e : ds[i]? with
    | none => trivial
    | some d =>
      obtain ⟨v, h1, h2⟩ := r.get e
      rw [start_get N vs i v h1]
      exact h2
  inj := fun i j d e a h1 h2 h3 h4 => by
    unfold startS at h1
    rw [getS_start] at h1
    split at h1 <;> cases h1
  orc := oc
  keep := Kw.refl _ _
  new := fun i d a h1 h2 => by
    unfold startS at h1
    rw [getS_start] at h1
    split at h1 <;> cases h1
  av0 := fun _ h => h
  th0 := ht
  there := ht
  waav := hw
/-- THE RULE for a def: its body's derivation -/
theorem fn_ok {x qual : Str} {st : Stmt} {f : Addr} {fd : FuncData} {N ps : List Str} {k : Nat} {fi : Nat} (F : Fun K x qual st f fd) (S : FnScope N ps (defScope st)) (har : (T fi).ar = ps.length) (hn : (T fi).n = N.length)
    (hbody : ∀ (cdv : Value) (A : Around) (outer : List PySem.Env) (s : Shared) (H : Hp) (E : XK), Room k (A.deeper (envOfC qual (defScope st) s.heap.objs.size f cdv)) →
      BSs (cxOf (L2.CX P w) P w K mg base N qual (defScope st) f cdv A outer s H E) (pgK T XP k) (fun cls d _ H' => E cls d H') (defBody st) (T fi).body) :
    FnOk P w K mg base (L2.CX P w) (k + 1) f fd ps (SpI K (pgK T XP (k + 1)) ps.length fi) := by
  refine F.okX S (fun vs H Q E h => ?_) (fun cdv A outer s H vs Q E hr h => ⟨_, hbody cdv A outer s H E hr, ?_⟩)
  · obtain ⟨wa, da, Av, ds, o, r, _, _, _, hl, _⟩ := h
    rw [r.length, hl]
  · obtain ⟨wa, da, Av, ds, o, r, oc, hw, ht, hl, q⟩ := h
    have hN : ps.length ≤ N.length := by have := congrArg List.length S.pre; rw [List.length_take] at this; omega
    refine ⟨⟨H, wa, da, Av⟩, Av, startS N.length ds, o, RS.start r oc hw ht (by omega), ?_⟩
    have e : (pgK T XP (k + 1)).C fi ds o = (evSs (callN T k) (T fi).body (startS N.length ds) o).fin := by
      show callN T (k + 1) fi ds o = _
      rw [callN, if_pos (by rw [hl, har]), hn]
    rw [e] at q
    show goS _ _ _ _ _ _ _ (evSs (callN T k) (T fi).body (startS N.length ds) o)
    generalize evSs (callN T k) (T fi).body (startS N.length ds) o = r at q
    cases r with
    | nx ρ' o' => exact fun Av' σ' H' rs _ => q .non H' rs.keep rs.orc0 .non
    | rt d o' => exact fun v H' k' oc' r' => q v H' k' oc' r'
    | bk ρ' o' => exact q.elim
    | ct ρ' o' => exact q.elim
    | xc c d ρ' o' => exact fun Av' cls dx σ' H' rs _ x => q cls dx H' rs.keep rs.orc0 x
    | no => exact q.elim
/-- at the level 0 nothing is asked -/
theorem fn_zero {f : Addr} {fd : FuncData} {ps : List Str} {n fi : Nat} : FnOk P w K mg base (L2.CX P w) 0 f fd ps (SpI K (pgK T XP 0) n fi) := by
  refine ⟨fun vs H Q E h => ?_, fun A outer s H args us vs Q E hr he hb r h => ?_⟩
  · obtain ⟨_, _, _, _, _, _, _, _, _, _, q⟩ := h
    exact q.elim
  · obtain ⟨_, _, _, _, _, _, _, _, _, _, q⟩ := h
    exact q.elim
/-- a def by its name, at a level -/
def DefAt (P : Program) (w : World) (K : PySem.W.Frag) (mg : Str → Option Value) (base : Heap) (T : Nat → Fn) (XP : XPT) (k : Nat) (x : Str) (fi n : Nat) : Prop :=
  ∃ (ad : Addr) (fd : FuncData) (ps : List Str), mg x = some (.ref ad) ∧ PySem.W.keepIn K (.ref ad) = true ∧ Binds K fd ps [] ∧ FnOk P w K mg base (L2.CX P w) k ad fd ps (SpI K (pgK T XP k) n fi)
/-- what the top has left of a def -/
def DefF (K : PySem.W.Frag) (mg : Str → Option Value) (x : Str) (st : Stmt) (ps : List Str) : Prop := ∃ (ad : Addr) (fd : FuncData), mg x = some (.ref ad) ∧ Fun K x x st ad fd ∧ Binds K fd ps []
theorem DefF.zero {x : Str} {st : Stmt} {ps : List Str} {fi n : Nat} (h : DefF K mg x st ps) : DefAt P w K mg base T XP 0 x fi n := by
  obtain ⟨ad, fd, h1, h2, h3⟩ := h
  exact ⟨ad, fd, ps, h1, h2.kp, h3, fn_zero⟩
theorem DefF.succ {x : Str} {st : Stmt} {N ps : List Str} {fi n k : Nat} (h : DefF K mg x st ps) (S : FnScope N ps (defScope st)) (har : (T fi).ar = ps.length) (hn : (T fi).n = N.length) (hp : ps.length = n)
    (hbody : ∀ (f : Addr) (cdv : Value) (A : Around) (outer : List PySem.Env) (s : Shared) (H : Hp) (E : XK), Room k (A.deeper (envOfC x (defScope st) s.heap.objs.size f cdv)) →
      BSs (cxOf (L2.CX P w) P w K mg base N x (defScope st) f cdv A outer s H E) (pgK T XP k) (fun cls d _ H' => E cls d H') (defBody st) (T fi).body) : DefAt P w K mg base T XP (k + 1) x fi n := by
  obtain ⟨ad, fd, h1, h2, h3⟩ := h
  subst hp
  exact ⟨ad, fd, ps, h1, h2.kp, h3, fn_ok h2 S har hn (hbody ad)⟩
end
section
variable {X : Cx} {W : WX} {T : Nat → Fn} {XP : XPT} {k : Nat} {e : Expr} {es : List Expr} {is : List IE} {pos p : Pos} {x : Str} {fi n : Nat}
theorem be_callD (h : DefAt X.prog X.w X.K X.mg X.base T XP k x fi n) (hr : Room k X.A) (tk : Takes X W) (ha : BA X (pgK T XP k) W (e :: es) is) (hg : Gl X x := by rfl) (hn : is.length = n := by rfl) (hdb : (x == ("__debug__" : Str)) = false := by decide)
    (he : starEach (e :: es) X.env = (false, eval e X.env) :: starEach es X.env := by rfl) (hpl : (backTo pos (starEach es X.env)).any (·.1) = false := by rfl) : BE X (pgK T XP k) W (.Call (.Name x p) (e :: es) [] pos) (.call fi is) := by
  obtain ⟨ad, fd, ps, h1, h2, h3, h4⟩ := h
  exact be_call h4 hr hg h1 h2 h3 tk ha hn hdb he hpl
theorem be_callDB (h : DefAt X.prog X.w X.K X.mg X.base T XP k x fi n) (hr : Room k X.A) (tk : Takes X W) (ha : BAB X (pgK T XP k) W (e :: es) is) (hg : Gl X x := by rfl) (hn : is.length = n := by rfl) (hdb : (x == ("__debug__" : Str)) = false := by decide)
    (he : starEach (e :: es) X.env = (false, eval e X.env) :: starEach es X.env := by rfl) (hpl : (backTo pos (starEach es X.env)).any (·.1) = false := by rfl) : BE X (pgK T XP k) W (.Call (.Name x p) (e :: es) [] pos) (.callS fi is) := by
  obtain ⟨ad, fd, ps, h1, h2, h3, h4⟩ := h
  exact be_callB h4 hr hg h1 h2 h3 tk ha hn hdb he hpl
end
end BV

end
/-! text: BV14.lean -/
section
set_option maxRecDepth 100000
set_option autoImplicit false
set_option maxHeartbeats 4000000
namespace BV
open PySem PySem.Spec PyProof.Rows L2

/-! ### the draws -/
theorem bt_len : bootBuiltins "len" = some (.builtin "len") := by decide +kernel
theorem bt_abs : bootBuiltins "abs" = some (.builtin "abs") := by decide +kernel
theorem bt_min : bootBuiltins "min" = some (.builtin "min") := by decide +kernel
theorem bt_max : bootBuiltins "max" = some (.builtin "max") := by decide +kernel
theorem bt_sum : bootBuiltins "sum" = some (.builtin "sum") := by decide +kernel
theorem bt_any : bootBuiltins "any" = some (.builtin "any") := by decide +kernel
theorem bt_all : bootBuiltins "all" = some (.builtin "all") := by decide +kernel
theorem bt_isinstance : bootBuiltins "isinstance" = some (.builtin "isinstance") := by decide +kernel
theorem bt_int : bootBuiltins "int" = some (.type "int") := by decide +kernel
theorem bt_bool : bootBuiltins "bool" = some (.type "bool") := by decide +kernel
theorem bt_str : bootBuiltins "str" = some (.type "str") := by decide +kernel
theorem bt_tuple : bootBuiltins "tuple" = some (.type "tuple") := by decide +kernel
theorem bt_list : bootBuiltins "list" = some (.type "list") := by decide +kernel
theorem bt_dict : bootBuiltins "dict" = some (.type "dict") := by decide +kernel

/-- how the draws' object stands -/
def wD (da : Addr) (n : Nat) : List (Key × V) := [(.inr "draws", .ref da), (.inr "at", .int (n : Nat))]
theorem wD_at (da : Addr) (n : Nat) : valV (wD da n) (.inr "at" : Key) = some (.int (n : Nat)) := by
  unfold wD valV
  rw [List.find?_cons]
  have : decide ((Sum.inr ("draws" : Str) : Key) = Sum.inr ("at" : Str)) = false := by decide +kernel
  simp only [this]
  rw [List.find?_cons]
  have : decide ((Sum.inr ("at" : Str) : Key) = Sum.inr ("at" : Str)) = true := by decide +kernel
  simp only [this]
  rfl
theorem wD_draws (da : Addr) (n : Nat) : valV (wD da n) (.inr "draws" : Key) = some (.ref da) := by
  unfold wD valV
  rw [List.find?_cons]
  have : decide ((Sum.inr ("draws" : Str) : Key) = Sum.inr ("draws" : Str)) = true := by decide +kernel
  simp only [this]
  rfl
theorem wD_put (da : Addr) (n : Nat) : putK (wD da n) (.inr "at" : Key) (.int ((n : Int) + 1)) = wD da (n + 1) := by
  have h1 : ¬ ((Sum.inr ("draws" : Str) : Key) = Sum.inr ("at" : Str)) := by decide +kernel
  unfold putK wD
  have : (([(.inr "draws", .ref da), (.inr "at", .int (n : Nat))] : List (Key × V)).any fun kv => decide (kv.1 = (.inr "at" : Key))) = true := by
    rw [List.any_cons, List.any_cons]
    have : decide ((Sum.inr ("at" : Str) : Key) = Sum.inr ("at" : Str)) = true := by decide +kernel
    rw [this]
    simp
  rw [if_pos this]
  simp only [List.map_cons, List.map_nil, if_neg h1, if_true]
  rfl
/-- the body of _law_next, by its reading: t is what the rules of the hand layer ask -/
theorem draw_read {K : PySem.W.Frag} {g : Pg} {W : WX} {D : Ends} {σ : L2.St} {H : Hp} (h : tS K g W [.ret (.draw (.var 0) (.var 1))] D σ H) :
    ∃ (a da : Addr) (m : Int) (n : Nat) (ds : List Int), σ[0]? = some (some (.ref a)) ∧ σ[1]? = some (some (.int m)) ∧ H a = some (.dK (wD da n)) ∧ SqL K H da (ds.map V.int) ∧ SqL K (upd H a (.dK (wD da (n + 1)))) da (ds.map V.int) ∧ 0 < m ∧
      (n + 1 > ds.length → D.rt (.int 0) (upd H a (.dK (wD da (n + 1))))) ∧ (∀ x, ds[n]? = some x → D.rt (.int (x % m)) (upd H a (.dK (wD da (n + 1))))) := by
  obtain ⟨F, Av, ρ, o, rs, q⟩ := h
  rw [evSs_one, evS, evE, evE] at q
  cases e0 : getS ρ 0 with
  | un => rw [e0] at q; exact q.elim
  | own d => rw [e0] at q; exact q.elim
  | val d0 =>
    rw [e0] at q
    simp only [BV.R.bind_ok] at q
    cases d0 <;> first
      | exact q.elim
      | skip
    simp only [evE] at q
    cases e1 : getS ρ 1 with
    | un => rw [e1] at q; exact q.elim
    | own d => rw [e1] at q; exact q.elim
    | val d1 =>
      rw [e1] at q
      simp only [BV.R.bind_ok] at q
      cases d1 <;> first
        | exact q.elim
        | skip
      rename_i m
      simp only [drawF] at q
      split at q
      · rename_i hm
        obtain ⟨v0, s0, r0⟩ := rs.val e0
        obtain ⟨v1, s1, r1⟩ := rs.val e1
        cases r1
        cases r0 with
        | tok hw =>
          rename_i a
          have oc := rs.orc
          rw [hw] at oc
          obtain ⟨n, ds, h1, h2, h3⟩ := oc
          have av : Av a := rs.waav a hw
          have kw : ∀ u, Kw F.wa F.H0 (upd H a u) := fun u b x nb e => by
            rw [upd_ne (fun z => nb (by rw [z]; exact hw))]
            exact rs.keep b x nb e
          have oc2 : ∀ {o2 : Or}, o2 = ds.drop (n + 1) → Orc K F.Av0 F.wa F.da o2 (upd H a (.dK (wD F.da.1 (n + 1)))) := fun e => by
            rw [hw]
            exact ⟨n + 1, ds, upd_same, (h2.cv (cv_upd av)).cv fun b u e nb => ⟨e, fun z => nb (rs.av0 b z)⟩, e⟩
          refine ⟨a, F.da.1, m, n, ds, s0, s1, h1, h2.sq, (h2.cv (cv_upd av)).sq, hm, fun hn => ?_, fun x hx => ?_⟩
          · have : o = [] := by rw [h3]; exact List.drop_eq_nil_of_le (by omega)
            subst this
            simp only [BV.R.out_ok] at q
            exact q (.int 0) _ (kw _) (oc2 (by rw [List.drop_eq_nil_of_le (by omega)])) (.int 0)
          · have hl := (List.getElem?_eq_some_iff.mp hx).1
            have : o = x :: ds.drop (n + 1) := by
              rw [h3, List.drop_eq_getElem_cons hl]
              congr 1
              exact (List.getElem?_eq_some_iff.mp hx).2
            subst this
            simp only [BV.R.out_ok] at q
            exact q (.int (x % m)) _ (kw _) (oc2 rfl) (.int _)
      · exact q.elim
theorem wD_make (da : Addr) : mergeK [] [((.inr "draws" : Key), V.ref da), (.inr "at", .int 0)] = wD da 0 := by
  have h1 : ¬ ((Sum.inr ("draws" : Str) : Key) = Sum.inr ("at" : Str)) := by decide +kernel
  show putK (putK ([] : List (Key × V)) (Sum.inr ("draws" : Str) : Key) (V.ref da)) (Sum.inr ("at" : Str) : Key) (V.int 0) = _
  have e1 : putK ([] : List (Key × V)) (.inr "draws") (.ref da) = [(.inr "draws", .ref da)] := rfl
  rw [e1]
  unfold putK
  have : (([(.inr "draws", .ref da)] : List (Key × V)).any fun kv => decide (kv.1 = (.inr "at" : Key))) = false := by
    rw [List.any_cons, List.any_nil]
    simp [h1]
  rw [if_neg (by rw [this]; decide)]
  rfl
theorem intsO_map : ∀ (ns : List Int), intsO (ns.map D.int) = some ns
  | [] => rfl
  | n :: ns => by simp [intsO, intsO_map ns]
/-- the law's reading: the call that makes the draws, then the rest with w at slot j -/
def tLaw (K : PySem.W.Frag) (g : Pg) (W : WX) (j : Nat) (ie : IE) (is : List IS) : TS := fun Dn σ H => ∃ Av ρ o H0, RS K ⟨H0, none, (0, false), Av⟩ Av ρ o σ H ∧ (∀ a, ¬ Av a) ∧ (∀ i d, getS ρ i ≠ .own d) ∧ ∃ ns o1, evE g.C ie ρ o = .ok (.lst (ns.map D.int)) o1 ∧
  (match evSs g.C is (setS ρ j (.val .tok)) ns with
    | .rt d _ => ∀ v H' wa Av, Rep K wa Av H' v d → Dn.rt v H'
    | _ => False)
mutual
theorem Rep.wa {K : PySem.W.Frag} {Av : Addr → Prop} {H : Hp} {p : Addr} : ∀ {v : V} {d : D}, Rep K none Av H v d → Rep K (some p) Av H v d
  | _, _, .non => .non
  | _, _, .bl b => .bl b
  | _, _, .int i => .int i
  | _, _, .str s => .str s
  | _, _, .lst h r => .lst h (Reps.wa r)
  | _, _, .tup h r => .tup h (Reps.wa r)
  | _, _, .dic h r => .dic h (RepsK.wa r)
theorem Reps.wa {K : PySem.W.Frag} {Av : Addr → Prop} {H : Hp} {p : Addr} : ∀ {vs : List V} {ds : List D}, Reps K none Av H vs ds → Reps K (some p) Av H vs ds
  | _, _, .nil => .nil
  | _, _, .cons h r => .cons (Rep.wa h) (Reps.wa r)
theorem RepsK.wa {K : PySem.W.Frag} {Av : Addr → Prop} {H : Hp} {p : Addr} : ∀ {vs : List (L2.Key × V)} {ds : List (D × D)}, RepsK K none Av H vs ds → RepsK K (some p) Av H vs ds
  | _, _, .nil => .nil
  | _, _, .cons h r t => .cons h (Rep.wa r) (RepsK.wa t)
end
section
theorem law_read {X : Cx} {g : Pg} {W : WX} {j : Nat} {e k1 k2 v2 : Expr} {ie : IE} {is : List IS} {sts : List Stmt} {x : Str} {pos pos' dpos : Pos} (hN : X.N.Nodup) (hi : X.N[j]? = some x) (hx : Loc X.env.scope x)
    (h1 : PE X k1 (tC (.str "draws"))) (he : BE X g W e ie) (h2 : PE X k2 (tC (.str "at"))) (h3 : PE X v2 (tC (.int 0))) (hr : BSs X g W sts is)
    (hs : swapsWith (.Dict [some k1, some k2] [e, v2] dpos) (some (.Name x pos')) pos.line X.env = pure false := by rfl) (hf : X.fn x = true ∨ X.env.scope.names.lookup x = some .local := by first | exact .inl rfl | exact .inr rfl | assumption) :
    PSs X (.Assign [.Name x pos'] (.Dict [some k1, some k2] [e, v2] dpos) pos :: sts) (tLaw X.K g W j ie is) := by
  refine pssW (pss_cons (ps_set (i := j) hN hi hx (pe_disp (pps_cons h1 he (pps_cons h2 h3 pps_nil)) (by rfl) (by rfl) (fun z => by cases z) (by show 2 ≤ 15; omega)) hs hf) hr) fun Dn σ H ⟨Av, ρ, o, H0, rs, nav, nown, ns, o1, ev, q⟩ => ?_
  intro p hp
  -- the values of the display, from the left
  show tPairs _ σ _ _
  refine ⟨⟨H0, none, (0, false), Av⟩, Av1 Av p, ρ, o, rs.fresh hp, ?_⟩
  rw [ev]
  intro v H1 rs1 k1 r1
  have hp1 : H1 p = some (.dK []) := k1 p _ (fun z => nomatch z) upd_same
  cases r1 with
  | lst hl r1 =>
    rename_i da vs
    have hvs : vs = ns.map V.int := r1.ints (intsO_map ns)
    subst hvs
    refine ⟨hp1, [(.inr "draws", .ref da), (.inr "at", .int 0)], rfl, by show 2 ≤ 15; omega, ?_⟩
    rw [wD_make]
    have pav : Av1 Av p p := .inr rfl
    have cv : Cv (Av1 Av p) (Av1 Av p) H1 (upd H1 p (.dK (wD da 0))) := cv_upd pav
    obtain ⟨fl, hda⟩ : ∃ fl : Bool, DaA X.K (Av1 Av p) (upd H1 p (.dK (wD da 0))) (da, fl) (ns.map V.int) := by
      rcases hl.cv cv with h | h
      · exact ⟨false, h⟩
      · exact ⟨true, h⟩
    have th : ∀ a, Av1 Av p a → upd H1 p (.dK (wD da 0)) a ≠ none := fun a h => by
      by_cases e : a = p
      · rw [e, upd_same]; exact fun z => nomatch z
      · rw [upd_ne e]; exact rs1.there a h
    have nown1 : ∀ i d, getS (setS ρ j (.val .tok)) i ≠ .own d := fun i d z => by
      rw [getS_setS] at z
      split at z
      · cases z
      · exact nown i d z
    have rs2 : RS X.K ⟨upd H1 p (.dK (wD da 0)), some p, (da, fl), Av1 Av p⟩ (Av1 Av p) (setS ρ j (.val .tok)) ns (σ.set j (some (.ref p))) (upd H1 p (.dK (wD da 0))) := {
      len := by rw [setS_len, List.length_set]; exact rs1.len
      slot := fun i => by
        rw [getS_setS, getV_set, rs1.len]
        split
        · exact .tok rfl
        · cases q : getS ρ i with
          | un => trivial
          | val d =>
            obtain ⟨v, e, r⟩ := rs1.val q
            rw [e]
            exact (Rep.wa r).cv cv
          | own d => exact absurd q (nown i d)
      inj := fun i _ d _ _ h => absurd h (nown1 i d)
      orc := ⟨0, ns, upd_same, hda, rfl⟩
      keep := Kw.refl _ _
      new := fun i d _ h => absurd h (nown1 i d)
      av0 := fun _ h => h
      th0 := th
      there := th
      waav := fun a h => by
        have : p = a := by simpa using h
        rw [← this]; exact pav }
    refine ⟨_, Av1 Av p, _, ns, rs2, ?_⟩
    generalize evSs g.C is (setS ρ j (.val .tok)) ns = r at q
    cases r with
    | rt d o2 => exact fun v H' _ _ r => q v H' _ _ r
    | _ => exact q.elim
end
end BV

end
/-! text: BV15.lean -/
section
set_option maxRecDepth 100000
set_option autoImplicit false
set_option maxHeartbeats 4000000
namespace BV
open PySem PySem.Spec PyProof.Rows L2
theorem reps_ints {K : PySem.W.Frag} {wa : Option Addr} {Av : Addr → Prop} {H : Hp} : ∀ ns : List Int, Reps K wa Av H (ns.map V.int) (ns.map D.int)
  | [] => .nil
  | n :: ns => .cons (.int n) (reps_ints ns)
section
variable {X : Cx} {g : Pg} {W : WX} {a b c : Expr} {ia ib ic : IE} {pos : Pos}
theorem chn_of {op oq : O2} (ha : BB X g W a ia) (hb : BB X g W b ib) (hc : BB X g W c ic) {σ : L2.St} {H : Hp} {Q : VK} (h : tI X.K g W (.chn op oq ia ib ic) σ H Q) :
    tChain (rB X.K (op2 op)) (rB X.K (op2 oq)) (tIB X.K g W ia) (tIB X.K g W ib) (tIB X.K g W ic) σ H Q := by
  obtain ⟨F, Av, ρ, o, rs, q⟩ := h
  rw [evE] at q
  refine ⟨F, Av, ρ, o, rs, q.bind.mono fun v H1 ⟨d, o1, e1, rs1, k1, r1, q1⟩ => ⟨F, Av, ρ, o1, rs1, q1.bind.mono fun u H2 ⟨d2, o2, e2, rs2, k2, r2, q2⟩ => ?_⟩⟩
  cases hz : op2 op d d2 with
  | none => rw [hz] at q2; exact q2.elim
  | some z =>
    rw [hz] at q2
    simp only [R.of_some, R.bind_ok] at q2
    refine ⟨F, Av, ρ, o2, σ, d, d2, z, rs2, RepB.cv rs1 k2 r1, r2, hz, fun w H3 rs3 k3 r3 => ?_⟩
    cases z with
    | bool t =>
      cases r3
      refine ⟨t, rfl, ?_⟩
      cases t with
      | false => exact q2 _ H3 rs3 k3 (.bl false)
      | true =>
        refine ⟨F, Av, ρ, o2, rs3, (q2.later k3).bind.mono fun x H4 ⟨d4, o4, e4, rs4, k4, r4, q4⟩ => ?_⟩
        obtain ⟨z, hz, q5⟩ := goR_of q4
        exact ⟨F, Av, ρ, o4, σ, d2, d4, z, rs4, RepB.cv rs2 (k3.trans k4) r2, r4, hz, q5⟩
    | _ => exact q2.elim
theorem chn_bool {C : Nat → List D → Or → R D} {op oq : O2} (h : isCmp oq = true) {ρ : Env} {o o1 : Or} {d : D} (e1 : evE C (.chn op oq ia ib ic) ρ o = .ok d o1) : ∃ b, d = .bool b := by
  rw [evE] at e1
  cases q2 : evE C ia ρ o with
  | no => rw [q2] at e1; cases e1
  | exc _ _ _ => rw [q2] at e1; cases e1
  | ok d1 o1 =>
    rw [q2, R.bind_ok] at e1
    cases q3 : evE C ib ρ o1 with
    | no => rw [q3] at e1; cases e1
    | exc _ _ _ => rw [q3] at e1; cases e1
    | ok d2 o2 =>
      rw [q3, R.bind_ok] at e1
      cases q4 : op2 op d1 d2 with
      | none => rw [q4] at e1; cases e1
      | some z =>
        rw [q4, R.of_some, R.bind_ok] at e1
        cases z with
        | bool t =>
          cases t with
          | false => cases e1; exact ⟨_, rfl⟩
          | true =>
            simp only at e1
            cases q5 : evE C ic ρ o2 with
            | no => rw [q5] at e1; cases e1
            | exc _ _ _ => rw [q5] at e1; cases e1
            | ok d4 o4 =>
              rw [q5, R.bind_ok] at e1
              cases q6 : op2 oq d2 d4 with
              | none => rw [q6] at e1; cases e1
              | some z => rw [q6] at e1; cases e1; exact cmp_bool h q6
        | _ => cases e1
theorem bt_chn {op oq : O2} {cop coq : CmpOp} (ho : OpR X (compareOp cop) (rB X.K (op2 op))) (hq : OpR X (compareOp coq) (rB X.K (op2 oq))) (ha : BB X g W a ia) (hb : BB X g W b ib) (hc : BB X g W c ic)
    (hm : lastMarks [cop, coq] [b, c] = false := by rfl) (h : isCmp oq = true := by rfl) : BT X g W (.Compare a [cop, coq] [b, c] pos) (.chn op oq ia ib ic) := by
  refine ptW (pt_chain ho hq ha hb hc hm) fun σ H Q ⟨F, Av, ρ, o, rs, q⟩ => ?_
  refine chn_of ha hb hc ⟨F, Av, ρ, o, rs, (goR.testV q).mono fun v H1 ⟨d, o1, b, e1, rs1, k1, rp, t, q1⟩ => ?_⟩
  obtain ⟨b', rfl⟩ := chn_bool h e1
  cases rp
  simp only [truth, Option.some.injEq] at t
  subst t
  exact ⟨_, rfl, q1 _ H1 rs1 (Kw.refl _ _) rfl⟩
end
end BV

end
/-! text: BV16.lean -/
section
set_option maxRecDepth 100000
set_option autoImplicit false
set_option maxHeartbeats 4000000
namespace BV
open PySem PySem.Spec PyProof.Rows L2
theorem reps_int {K : PySem.W.Frag} {wa : Option Addr} {Av : Addr → Prop} {H : Hp} : ∀ ns : List Int, Reps K wa Av H (ns.map V.int) (ns.map D.int)
  | [] => .nil
  | n :: ns => .cons (.int n) (reps_int ns)
section
variable {X : Cx} {g : Pg} {W : WX} {tg e a b : Expr} {es : List Expr} {ie ia ib : IE} {is : List IE} {pos p p2 pos2 : Pos}
/-! ### sorted -/
theorem eachI {K : PySem.W.Frag} {wa : Option Addr} {Av : Addr → Prop} {H : Hp} : ∀ {vs : List V} {ds : List D} {us : List Value}, Reps K wa Av H vs ds → Vals vs us → PySem.W.EachIs (fun u d => ∃ x, RelV x u ∧ Rep K wa Av H x d) us ds
  | _, _, _, .nil, .nil => .nil
  | _, _, _, .cons r1 r2, .cons q1 q2 => .cons ⟨_, q1, r1⟩ (eachI r2 q2)
theorem eachI_back {K : PySem.W.Frag} {wa : Option Addr} {Av : Addr → Prop} {H : Hp} : ∀ {us : List Value} {ds : List D}, PySem.W.EachIs (fun u d => ∃ x, RelV x u ∧ Rep K wa Av H x d) us ds → ∃ vs, Vals vs us ∧ Reps K wa Av H vs ds
  | _, _, .nil => ⟨[], .nil, .nil⟩
  | _, _, .cons ⟨x, q, r⟩ t => by
    obtain ⟨vs, q2, r2⟩ := eachI_back t
    exact ⟨x :: vs, .cons q q2, .cons r r2⟩
theorem c_sorted (hu : X.A.units + 64 < cLine) : CallR X (.builtin "sorted") (rC X.K (biF .srt)) := by
  intro pins s σ H xs us Q I r ⟨F, Av, ρ, o, σ', ds, z, rs, rp, hz, q⟩
  obtain ⟨d, hds, hz2⟩ := rep1 (f := srtO) hz
  clear hz; subst hds; have hz := hz2; clear hz2
  obtain ⟨v, rfl, r1⟩ := prd1 rp
  unfold srtO at hz
  cases e1 : lstO d with
  | none => rw [e1] at hz; cases hz
  | some ys =>
    have := lstO_some e1
    subst this
    simp only [lstO, Option.bind_some] at hz
    split at hz
    · rename_i ho
      cases hz
      simp only [srtOk, Bool.and_eq_true, decide_eq_true_eq] at ho
      obtain ⟨⟨ho, ht⟩, hl⟩ := ho
      obtain ⟨k1, k2⟩ := ordOk_spec ho
      obtain ⟨a, vs, rfl, h1, r2⟩ := r1.lst
      obtain ⟨its, rv, pl, hz⟩ := I.list h1
      rw [Vals.ref1 r]
      have hr2 : ∀ {vs : List V} {us : List Value} {ds : List D}, (∀ d ∈ ds, okN 50 d = true) → Reps X.K F.wa Av H vs ds → Vals vs us → PySem.W.EachIs (fun v b => ∃ as, Reads s.heap v (toPy b) as) us ds := by
        intro vs us ds
        induction ds generalizing vs us with
        | nil => intro _ r q; cases r; cases q; exact .nil
        | cons d ds ih =>
          intro hk r q
          cases r with
          | cons r1 r2 => cases q with
            | cons q1 q2 => exact .cons (Dp.reads I _ _ _ (okN_dp 50 (hk d (by simp)) r1) q1) (ih (fun y hy => hk y (by simp [hy])) r2 q2)
      refine PySem.W.sorted_data (enc := toPy) (bs := ys) (R := fun u d => ∃ x, RelV x u ∧ Rep X.K F.wa Av H x d) pl.isList (eachI r2 rv) (hr2 k2 r2 rv) ?_ ?_ (by rw [← cap_eq]; exact hl) (fun b hb => by have := (okN_lay 50 (k2 b hb)).2; omega) fun out hol he => ?_
      · intro d1 hd1 d2 hd2
        obtain ⟨x, hx, rfl⟩ := List.mem_map.mp hd1
        obtain ⟨y, hy, rfl⟩ := List.mem_map.mp hd2
        exact alk_toPy x y (k1 x hx y hy)
      · rcases Bool.or_eq_true _ _ ▸ ht with ht | ht
        · refine .inl fun d hd => ?_
          obtain ⟨x, hx, rfl⟩ := List.mem_map.mp hd
          have := List.all_eq_true.mp ht x hx
          cases x with
          | tup zs => cases zs with
            | nil => cases this
            | cons z zs => exact ⟨_, _, by simp only [toPy, toPys]; rfl⟩
          | _ => cases this
        · refine .inr fun d hd => ?_
          obtain ⟨x, hx, rfl⟩ := List.mem_map.mp hd
          have hh := List.all_eq_true.mp ht x hx
          have hk := k1 x hx x hx
          cases x <;> first | (simp [alkD] at hk; done) | (simp [isTupA] at hh; done) | (simp [toPy]; done)
      · have em : ys.mergeSort (PySem.W.dataLe false toPy) = ys.mergeSort fun a b => !ltD b a := by
          have := List.map_mergeSort (r := PySem.W.dataLe false toPy) (s := fun a b : D => !ltD b a) (f := id) (l := ys) fun a ha b hb => by
            rw [PySem.W.dataLe_eq]
            show (!PySem.W.dataLt (toPy b) (toPy a)) = _
            rw [lt_toPy 50 50 b a (k2 b hb) (k2 a ha) (k1 b hb a ha)]
            rfl
          simpa using this
        rw [em] at he
        obtain ⟨ws, q2, r3⟩ := eachI_back he
        obtain ⟨ep, he'⟩ := PyProof.Rows.sortedAll_at s.heap its out.toArray
        have hp := I.hok.fresh (a := s.heap.objs.size + 1) (Nat.le_succ _)
        have hlen : ws.length ≤ sizeLine := by rw [q2.length, hol, ← cap_eq]; exact hl
        exact ⟨.ref _, upd H (s.heap.objs.size + 1) (.lst ws), I.laid (t' := s.toks) (fun _ _ => PyProof.Rows.sortedAll_old) (Nat.le_succ _) ⟨hlen, out, ep, q2, he'⟩, rfl, q _ _ (rs.alloc hp) (kw_alloc hp) (Rep.newLst rs hp r3)⟩
    · cases hz
end
end BV

end
/-! text: BV17.lean -/
section
set_option maxRecDepth 100000
set_option autoImplicit false
set_option maxHeartbeats 4000000
namespace BV
open PySem PySem.Spec PyProof.Rows L2
/-- a set with nothing in it -/
abbrev set0 (w : World) : Obj := { cls := .type "set", dict := none, data := .set #[] 0 (.fresh 0 0 (!w.params.followText "set-order")) }
section
variable {P : Program} {w : World} {A : Around} {E : Value → Shared → Prop} {s : Shared}
/-- what the loop of set(l) leaves -/
def SetEnd (w : World) (s : Shared) (ns : List Int) (s2 : Shared) : Prop := ∃ h' tk c, s2 = { s with heap := h', toks := tk } ∧ SetR w h' s.heap.objs.size (fun j => decide (j ∈ ns)) c ∧ c ≤ ns.length ∧ ∀ b o, s.heap.get? b = some o → h'.get? b = some o
theorem set_fill {l : Addr} {items : Array Value} (ns : List Int) (hh : A.handled = none) (hlS : l < s.heap.objs.size) (hsz : items.size = ns.length)
    (hval : ∀ (i : Nat) (v : Value), items[i]? = some v → ∃ k t, ns[i]? = some k ∧ v = .int k t) (hb : ns.length + 1 < scanBound)
    (hl1 : (s.heap.push (set0 w)).IsList l items) {R : Result → Shared → Prop} (hR : ∀ s2, SetEnd w s ns s2 → R (.ok (.ret .none)) s2) :
    codeAny (model P w) A (.builtin "set.update.loop" ⟨[.ref s.heap.objs.size, .ref (s.heap.push (set0 w)).objs.size], []⟩) R { s with heap := (s.heap.push (set0 w)).push { cls := .type "list_iterator", data := .fields #[.ref l, .int 0 0] } } := by
  have z1 : (s.heap.push (set0 w)).objs.size = s.heap.objs.size + 1 := Heap.size_push ..
  have n1 : l ≠ (s.heap.push (set0 w)).objs.size := by rw [z1]; exact Nat.ne_of_lt (Nat.lt_succ_of_lt hlS)
  have n2 : s.heap.objs.size ∉ [(s.heap.push (set0 w)).objs.size, l] := fun hm => (List.mem_cons.mp hm).elim (fun e => Nat.ne_of_lt (Nat.lt_succ_self _) (e.trans z1)) fun hm => Nat.ne_of_gt hlS (List.mem_singleton.mp hm)
  have hget : ((s.heap.push (set0 w)).push { cls := .type "list_iterator", data := .fields #[.ref l, .int 0 0] }).get? s.heap.objs.size = some (set0 w) := Heap.get?_push_of_some _ (Heap.get?_push_size _ rfl)
  refine set_update_ints ((Walks.list (by simp [hh]) _ l n1 items).toS) s.heap.objs.size n2 ns hsz hb hval items.size 0 _ (by omega) (Nat.zero_le _) ⟨⟨_, Heap.get?_push_size _ rfl, rfl, rfl⟩, hl1.push _⟩ ⟨0, Nat.le_refl 0, setR_new_at hget⟩ fun s' c hm hc hS => hR _ ?_
  obtain ⟨h', g2, d', tk', os'⟩ := s'
  obtain rfl : g2 = s.gens := hm.gens
  obtain rfl : d' = s.drawn := hm.drawn
  obtain rfl : os' = s.os := hm.os
  refine ⟨h', tk', c, rfl, hS, by omega, fun b o e => hm.heap b o ?_ (Heap.get?_push_of_some _ (Heap.get?_push_of_some _ e))⟩
  have hlt := Heap.lt_size e
  intro hm
  rcases List.mem_cons.mp hm with e1 | hm
  · exact Nat.ne_of_lt hlt e1
  · exact Nat.ne_of_lt (Nat.lt_succ_of_lt hlt) ((List.mem_singleton.mp hm).trans z1)
set_option maxRecDepth 100000 in
set_option maxHeartbeats 4000000 in
theorem call_setL {l : Addr} {items : Array Value} (ns : List Int) {Q : Value → Shared → Prop} (hh : A.handled = none) (hl : s.heap.IsList l items) (hi : IntsAre items.toList ns) (hb : ns.length + 1 < scanBound)
    (h : ∀ s2, SetEnd w s ns s2 → Q (.ref s.heap.objs.size) s2) : wpAny (model P w) A (call (.type "set") [.ref l]) Q E s := by
  have hsz : items.size = ns.length := by have q := hi.length; rwa [Array.length_toList] at q
  have hval : ∀ (i : Nat) (v : Value), items[i]? = some v → ∃ k t, ns[i]? = some k ∧ v = .int k t := fun i v hv => by
    have hi2 : i < ns.length := by rw [← hsz]; exact (Array.getElem?_eq_some_iff.mp hv).1
    obtain ⟨t, e⟩ := PyProof.Rows.IntsAre.int_at hi i v (by rw [Array.getElem?_toList]; exact hv)
    exact ⟨ns[i], t, List.getElem?_eq_getElem hi2, by rw [e, List.getD_eq_getElem?_getD, List.getElem?_eq_getElem hi2] <;> rfl⟩
  obtain ⟨c, tl, k1⟩ := F.called_set.mro
  have k2 := F.called_set.made; have k3 := F.called_set.sub
  refine wpAny_call (codeAny_of_tree (show wpAny _ _ (callAny (.type "set") _) _ _ _ from wpAny_pure ⟨Code.quiet_builtin _ (by decide +kernel), codeAny_builtin F.entry_type_call ?_⟩))
  rw [Around.under_plain (weight_type_call_type "set" [.ref l] []) rfl]
  have k4 := F.called_set.notType; have k5 := F.called_set.canCreate; have k6 := F.typeCall_set_1 (.ref l)
  repeat (any_goals (first | assumption | wp_step))
  refine codeAny_mono (code_set_led1 (.ref l) (E := E) (Q₁ := fun obj t => obj = .ref s.heap.objs.size ∧ t = { s with heap := s.heap.push (set0 w) }) ⟨rfl, rfl⟩) fun r t hr => ?_
  match r, hr with
  | .error e, hr => exact hr
  | .ok (.ret obj), hr =>
    obtain ⟨rfl, rfl⟩ := hr
    have hT : Shared.TypeIs { s with heap := s.heap.push (set0 w) } (.ref s.heap.objs.size) "set" := ⟨_, Heap.get?_push_size _ rfl, rfl⟩
    have k7 := F.called_set.init.lookup; have k8 := F.called_set.init.bind (.ref s.heap.objs.size)
    repeat (any_goals (first | assumption | wp_step))
    refine codeAny_mono (codeAny_call_builtin (R := wants (fun r t => r = .none ∧ SetEnd w s ns t) E) F.called_set.init.plain F.entry_set_init (check_set_init_1 hT ?_)) fun r2 t2 hr2 => ?_
    · obtain ⟨⟨ocls, od, odata, osl⟩, hol, hcl, nl, hdl⟩ := hl
      simp only at hcl hdl
      subst hcl; subst hdl
      have hol' : (s.heap.push (set0 w)).get? l = some { cls := .type "list", dict := od, data := .seq items nl, slots := osl } := Heap.get?_push_of_some _ hol
      have hl1 : (s.heap.push (set0 w)).IsList l items := ⟨_, hol', rfl, nl, rfl⟩
      have q1 := F.sub_list_set; have q2 := F.sub_list_frozenset
      have q3 : (Value.type "list" == Value.type "dict") = false := by decide
      unfold Builtin.«set.__init__» noKeywords Builtin.Frozenset.updateFrom
      generalize hPI : pyIter = PI
      wp_walk
      subst hPI
      refine wpAny_pyIter_list hl1 (wpAny_bind (wpAny_runValue ?_))
      refine set_fill ns (by simp [hh]) (Heap.lt_size hol) hsz hval hb hl1 fun s2 hs => ?_
      show wpAny _ _ _ _ _ _
      exact wpAny_pure (show wpAny _ _ (ret Value.none) _ _ _ from wpAny_pure ⟨rfl, hs⟩)
    · match r2, hr2 with
      | .error e, hr2 => exact hr2
      | .ok (.ret r), hr2 =>
        obtain ⟨rfl, hs⟩ := hr2
        repeat (any_goals (first | assumption | wp_step))
        exact h _ hs
end
end BV

end
/-! text: BV18.lean -/
section
set_option maxRecDepth 100000
set_option autoImplicit false
set_option maxHeartbeats 4000000
namespace BV
open PySem PySem.Spec PyProof.Rows L2
section
variable {X : Cx} {g : Pg} {W : WX} {tg e a b : Expr} {es : List Expr} {ie ia ib : IE} {is : List IE} {pos p p2 pos2 : Pos}
theorem ints_reps {K : PySem.W.Frag} {wa : Option Addr} {Av : Addr → Prop} {H : Hp} {vs : List V} {xs : List D} {ns : List Int} (r : Reps K wa Av H vs xs) (h : intsO xs = some ns) : vs = ns.map V.int := r.ints h
/-- set(x), x a list or a tuple of ints -/
def rSetI (K : PySem.W.Frag) (w : World) : List V → Hp → VK → Prop := fun vs H Q => ∃ (a : Addr) (ns : List Int), vs = [V.ref a] ∧ (SqL K H a (ns.map V.int) ∨ SqT K H a (ns.map V.int)) ∧ ns.length ≤ 1000 ∧
  ∀ p c, H p = none → Q (.ref p) (upd H p (SetO w p (fun j => decide (j ∈ ns)) c))
theorem c_setI (hc : X.calm = true) : CallR X (.type "set") (rSetI X.K X.w) := by
  intro pins s σ H xs us Q I r h
  obtain ⟨a, ns, rfl, hs, hn, q⟩ := h
  rw [Vals.ref1 r]
  have hb : ns.length + 1 < scanBound := by unfold scanBound; omega
  have hf := I.hok.fresh (Nat.le_refl s.heap.objs.size)
  rcases hs with hs | hs
  · obtain ⟨its, rv, pl, _⟩ := I.list hs
    refine call_setL ns (I.ok.hd hc) pl.isList (by simpa using rv.ints) hb fun s2 ⟨h', tk, c, e, hR, _, hk⟩ => ?_
    subst e
    exact ⟨.ref _, upd H s.heap.objs.size (SetO X.w s.heap.objs.size (fun j => decide (j ∈ ns)) c), I.laid hk (Nat.le_refl _) (setO_new hR), rfl, q _ _ hf⟩
  · obtain ⟨its, rv, pl, _⟩ := I.tuple hs
    refine call_set_tupI ns (I.ok.hd hc) pl (by simpa using rv.ints) hb fun h' tk c hR _ hk => ?_
    exact ⟨.ref _, upd H s.heap.objs.size (SetO X.w s.heap.objs.size (fun j => decide (j ∈ ns)) c), I.laid hk (Nat.le_refl _) (setO_new hR), rfl, q _ _ hf⟩
/-- sorted(a set of ints), whatever n is said, if the members are fewer than 64 -/
def rSrtS (w : World) (ns : List Int) : List V → Hp → VK → Prop := fun vs H Q => ∃ (a : Addr) (c : Nat), vs = [V.ref a] ∧ H a = some (SetO w a (fun j => decide (j ∈ ns)) c) ∧ (ssetL ns).length < 64 ∧
  ∀ p, H p = none → Q (.ref p) (upd H p (.lst ((ssetL ns).map V.int)))
theorem setR_card {w : World} {h : Heap} {a : Addr} {ns : List Int} {c : Nat} (R : SetR w h a (fun j => decide (j ∈ ns)) c) : c = (ssetL ns).length := by
  obtain ⟨o, es, ep, t, _, _, _, _, nd, hm, _, _, hn, _⟩ := R
  have h1 : (es.toList.map keyOf).Perm (ssetL ns) := by
    refine (List.perm_ext_iff_of_nodup nd ?_).mpr fun k => ?_
    · exact (ssetL_up ns).imp fun h => Int.ne_of_lt h
    · rw [← hm k, ssetL_mem]; simp
  rw [← hn, ← h1.length_eq, List.length_map, Array.length_toList]
theorem c_srtS (hc : X.calm = true) {ns : List Int} : CallR X (.builtin "sorted") (rSrtS X.w ns) := by
  intro pins s σ H xs us Q I r h
  obtain ⟨a, c, rfl, ha, h64, q⟩ := h
  have := setR_card (setO_get I ha)
  refine cr_sortedSet hc pins s σ H _ us Q I r ⟨a, _, c, rfl, ha, by omega, fun ns' p h1 h2 h3 hp => ?_⟩
  rw [ssetL_eq (ns := ns) h1 fun k => by rw [h2]; simp]
  exact q p hp
theorem callR_anyNs {r : List Int → List V → Hp → VK → Prop} {f : Value} (h : ∀ ns, CallR X f (r ns)) : CallR X f (fun vs H Q => ∃ ns, r ns vs H Q) := fun pins s σ H xs us Q I rv ⟨ns, q⟩ => h ns pins s σ H xs us Q I rv q
theorem sset_end {F : Fr} {Av : Addr → Prop} {ρ : Env} {o : Or} {σ : L2.St} {H : Hp} {ns : List Int} {Q : VK} {u : HO} (rs : RS X.K F Av ρ o σ H) {p1 p2 : Addr} (h1 : H p1 = none) (h2 : upd H p1 u p2 = none)
    (q : ∀ w H', RS X.K F Av ρ o σ H' → Kw F.wa H H' → Rep X.K F.wa Av H' w (.lst ((ssetL ns).map .int)) → Q w H') : Q (.ref p2) (upd (upd H p1 u) p2 (.lst ((ssetL ns).map V.int))) :=
  q _ _ ((rs.alloc h1).alloc h2) ((kw_alloc h1).trans (kw_alloc h2)) (Rep.newLst (rs.alloc h1) h2 (reps_int _))
theorem be_sset (hc : X.calm = true) (hg : Gl X "sorted") (hm : X.mg "sorted" = none) (hv : bootBuiltins "sorted" = some (.builtin "sorted")) (hg2 : Gl X "set") (hm2 : X.mg "set" = none) (hv2 : bootBuiltins "set" = some (.type "set")) (ha : BAB X g W [e] is)
    (he : starEach [e] X.env = (false, eval e X.env) :: starEach [] X.env := by rfl) (he2 : starEach [.Call (.Name "set" p2) [e] [] pos2] X.env = (false, eval (.Call (.Name "set" p2) [e] [] pos2) X.env) :: starEach [] X.env := by rfl) :
    BE X g W (.Call (.Name "sorted" p) [.Call (.Name "set" p2) [e] [] pos2] [] pos) (.bi .sset is) :=
  peW (pe_callB (callR_anyNs fun ns => c_srtS hc (ns := ns)) hg hm hv (pa_cons (pe_callTy (c_setI hc) hg2 hm2 hv2 ha (by decide) (by decide) he rfl) pa_nil he2) (by decide) (by decide) he2 rfl) fun σ H Q h => by
    obtain ⟨F, Av, ρ, o, rs, q⟩ := bi_read h
    refine ⟨F, Av, ρ, o, rs, q.mono fun vs H1 ⟨F, Av, ρ, o, σ', ds, z, rs, rp, hz, q⟩ => ?_⟩
    obtain ⟨d, hds, hz2⟩ := rep1 (f := ssetO) hz
    clear hz; subst hds; have hz := hz2; clear hz2
    obtain ⟨v, rfl, r1⟩ := prd1 rp
    unfold ssetO at hz
    cases e1 : seqO d with
    | none => rw [e1] at hz; cases hz
    | some ys =>
      rw [e1] at hz
      simp only [Option.bind_some] at hz
      cases e2 : intsO ys with
      | none => rw [e2] at hz; cases hz
      | some ns =>
        rw [e2] at hz
        obtain ⟨h1, h2, rfl⟩ := sset1_some hz
        have : ∃ a, v = .ref a ∧ (SqL X.K H1 a (ns.map V.int) ∨ SqT X.K H1 a (ns.map V.int)) := by
          rcases seqO_some e1 with rfl | rfl
          · obtain ⟨a, vs, rfl, h1, r2⟩ := r1.tup
            exact ⟨a, rfl, .inr (by rw [← r2.ints e2]; exact h1.sq)⟩
          · obtain ⟨a, vs, rfl, h1, r2⟩ := r1.lst
            exact ⟨a, rfl, .inl (by rw [← r2.ints e2]; exact h1)⟩
        obtain ⟨a, rfl, hs⟩ := this
        exact ⟨a, ns, rfl, hs, h1, fun p1 c hp1 => ⟨ns, p1, c, rfl, upd_same, h2, fun p2 hp2 => sset_end rs hp1 hp2 q⟩⟩
/-! ### sorted(dict(pairs)) -/
def addK (ks : List Int) (k : Int) : List Int := if k ∈ ks then ks else ks ++ [k]
theorem putK_keys {k : Int} {x : V} {kvs : List (Key × V)} {ks : List Int} (h : kvs.map (·.1) = ks.map Sum.inl) : (putK kvs (.inl k) x).map (·.1) = (addK ks k).map Sum.inl := by
  have hany : (kvs.any fun kv => decide (kv.1 = (Sum.inl k : Key))) = decide (k ∈ ks) := by
    have e1 : (kvs.any fun kv => decide (kv.1 = (Sum.inl k : Key))) = (kvs.map (·.1)).any fun q => decide (q = (Sum.inl k : Key)) := by rw [List.any_map]; rfl
    rw [e1, h, List.any_map, Bool.eq_iff_iff, List.any_eq_true, decide_eq_true_iff]
    constructor
    · rintro ⟨j, hj, e⟩
      have : j = k := by simpa using e
      exact this ▸ hj
    · intro hk; exact ⟨k, hk, by simp⟩
  unfold putK addK
  rw [hany]
  by_cases hk : k ∈ ks
  · rw [if_pos (decide_eq_true hk), if_pos hk, ← h, List.map_map]
    refine List.map_congr_left fun kv _ => ?_
    simp only [Function.comp]
    split
    · rename_i e; exact e ▸ rfl
    · rfl
  · rw [if_neg (by simpa using hk), if_neg hk, List.map_append, List.map_append, h]
    rfl
theorem merge_keys : ∀ {more : List (Key × V)} {ms : List Int} {kvs : List (Key × V)} {ks : List Int}, more.map (·.1) = ms.map Sum.inl → kvs.map (·.1) = ks.map Sum.inl → (mergeK kvs more).map (·.1) = (ms.foldl addK ks).map Sum.inl
  | [], [], kvs, ks, _, h => h
  | [], _ :: _, _, _, h, _ => by cases h
  | _ :: _, [], _, _, h, _ => by cases h
  | kv :: more, m :: ms, kvs, ks, h, h2 => by
    simp only [List.map_cons, List.cons.injEq] at h
    have := merge_keys (more := more) (ms := ms) (kvs := putK kvs kv.1 kv.2) (ks := addK ks m) h.2 (by rw [h.1]; exact putK_keys h2)
    exact this
theorem addK_mem {ks : List Int} {k j : Int} : j ∈ addK ks k ↔ j = k ∨ j ∈ ks := by
  unfold addK
  split
  · rename_i h
    constructor
    · exact .inr
    · rintro (rfl | h2)
      · exact h
      · exact h2
  · simp [or_comm]
theorem addK_nd {ks : List Int} {k : Int} (h : ks.Nodup) : (addK ks k).Nodup := by
  unfold addK
  split
  · exact h
  · rename_i hk
    refine List.nodup_append.mpr ⟨h, by simp, fun a ha b hb e => ?_⟩
    rw [List.mem_singleton] at hb
    exact hk (hb ▸ e ▸ ha)
theorem fold_keys : ∀ (ms ks : List Int), ks.Nodup → (ms.foldl addK ks).Nodup ∧ ∀ j, j ∈ ms.foldl addK ks ↔ j ∈ ks ∨ j ∈ ms
  | [], ks, h => ⟨h, fun j => by simp⟩
  | m :: ms, ks, h => by
    obtain ⟨h1, h2⟩ := fold_keys ms (addK ks m) (addK_nd h)
    refine ⟨h1, fun j => ?_⟩
    rw [List.foldl_cons, h2, addK_mem, List.mem_cons]
    constructor
    · rintro ((h | h) | h) <;> simp [h]
    · rintro (h | h | h) <;> simp [h]
theorem fold_perm (ms : List Int) : (ms.foldl addK []).Perm (ssetL ms) := by
  obtain ⟨h1, h2⟩ := fold_keys ms [] (by simp)
  refine (List.perm_ext_iff_of_nodup h1 ?_).mpr fun k => ?_
  · exact (ssetL_up ms).imp fun h => Int.ne_of_lt h
  · rw [h2, ssetL_mem]; simp
/-- dict(pairs) with int keys -/
def rDicI (K : PySem.W.Frag) : List V → Hp → VK → Prop := fun vs H Q => ∃ (a : Addr) (ps : List Addr) (kvs : List (Key × V)) (ns : List Int), vs = [.ref a] ∧ SqL K H a (ps.map V.ref) ∧ Paired (fun p kv => SqT K H p [kV kv.1, kv.2]) ps kvs ∧ kvs.map (·.1) = ns.map Sum.inl ∧
  ∀ p, H p = none → Q (.ref p) (upd H p (.dK (mergeK [] kvs)))
theorem c_dicI (hc : X.calm = true) : CallR X (.type "dict") (rDicI X.K) := fun pins s σ H xs us Q I r ⟨a, ps, kvs, ns, e, h1, h2, h3, q⟩ => call_dictP hc pins s σ H xs us Q I r ⟨a, ps, kvs, e, h1, h2, q⟩
def rSrtD (ns : List Int) : List V → Hp → VK → Prop := fun vs H Q => ∃ (a : Addr) (kvs : List (Key × V)), vs = [.ref a] ∧ H a = some (.dK (mergeK [] kvs)) ∧ kvs.map (·.1) = ns.map Sum.inl ∧
  ∀ p, H p = none → Q (.ref p) (upd H p (.lst ((ssetL ns).map V.int)))
/-- sorted(d) of a dict of ints, of any length -/
theorem sort_dict (hc : X.calm = true) {pins : List (Addr × Obj)} {s : Shared} {σ : L2.St} {H : Hp} {Q : VK} {a : Addr} {kvs : List (Key × V)} {ks : List Int} (I : Inv X pins σ H s) (ha : H a = some (.dK kvs)) (hk : kvs.map (·.1) = ks.map Sum.inl)
    (q : ∀ (ys : List Int) (p : Addr), ys.Perm ks → ys.Pairwise (· ≤ ·) → H p = none → Q (.ref p) (upd H p (.lst (ys.map V.int)))) : wpAny (model X.prog X.w) X.A (call (.builtin "sorted") [.ref a]) (EP X pins σ Q) X.xe s := by
  obtain ⟨z, lo, vs, rel, dd⟩ := dk_rd I.hok (.inl ha)
  obtain ⟨ep, hat⟩ := dd.dictAt
  have key : vs.map (·.1) = ks.map Sum.inl := rel.keys.symm.trans hk
  have hl : vs.length = ks.length := by simpa using congrArg List.length key
  have hz : vs.length ≤ sizeLine := by rw [← rel.length]; exact z
  refine Calls.call_function_entry PyProof.Rows.kind_sorted PyProof.Rows.plain_sorted PyProof.Rows.entry_sorted (PyProof.Rows.args_sorted1 _) ?_
  unfold Builtin.«sorted»
  refine wpAny_bind (m := checkCount "sorted" 1 1 _) (wpAny_pure (wpAny_bind (PySem.W.kdu_collect (A := X.A.in1) (PySem.W.kdl_dict (knd := mixKind X.prog X.w) (kvs := vs) (ep := ep) lo) (I.ok.hd hc) hat hz fun h' tk acc hkp hacc => ?_)))
  have hal : acc.toList.length = ks.length := by rw [Array.length_toList, hacc.1, hl]
  have hI : IntsAre acc.toList ks := ints_each hal fun j v e => by
    obtain ⟨k, x, e1, e2⟩ := hacc.2 j v (by rw [← Array.getElem?_toList]; exact e)
    have e3 : (vs.map (·.1))[j]? = some k := by rw [List.getElem?_map, e1]; rfl
    rw [key, List.getElem?_map] at e3
    cases e4 : ks[j]? with
    | none => rw [e4] at e3; cases e3
    | some y =>
      rw [e4] at e3
      obtain rfl : Sum.inl y = k := Option.some.inj e3
      rcases keyIs_shape (show keyIs (Sum.inl y) v = true from e2) with ⟨i, t, ek, ev⟩ | ⟨z', t, ek, ev⟩
      · cases ek; exact ⟨y, t, rfl, ev⟩
      · cases ek
  have I1 : Inv X pins σ H { s with heap := h', toks := tk } := I.kept hkp
  refine wpAny_bind (wpAny_newList ?_ (by rw [hal, ← hl]; exact hz))
  have ho : (h'.push (seqObj "list" acc.toList.toArray 0)).get? h'.objs.size = some (seqObj "list" acc.toList.toArray 0) := Heap.get?_push_size _ rfl
  show wpAny _ _ _ _ _ { s with heap := h'.push (seqObj "list" acc.toList.toArray 0), toks := tk }
  refine wpAny_bind (wpAny_holding (wpAny_call_entry PyProof.Rows.slot_list_sort ⟨_, ho, rfl⟩ PyProof.Rows.entry_list_sort
    (SrtO.list_sort_ord (s := { s with heap := h'.push (seqObj "list" acc.toList.toArray 0), toks := tk }) SrtO.swo_int ho (by rw [hal, ← hl]; exact hz) (fun h2 => SrtO.ints_sortable hI h2) fun out h1 h2 => ⟨_, rfl, ?_⟩) (PyProof.Rows.args_list_sort _)))
  obtain ⟨g1, g2, g3⟩ := SrtO.ints_out hI h1 h2
  obtain ⟨e', he'⟩ := PyProof.Rows.sortedHeap_at (vs := acc.toList) (out := out.toArray) ho
  have hlen : ((out.map SrtO.iv).map V.int).length ≤ sizeLine := by rw [List.length_map, g2.length_eq, ← hl]; exact hz
  refine wpAny_pure ⟨_, rfl, .ref h'.objs.size, upd H h'.objs.size (.lst ((out.map SrtO.iv).map V.int)), I1.laid (t' := tk) (fun b u e => ?_) (Nat.le_refl _) (show ObjOk X.prog X.w _ _ _ (.lst _) from ⟨hlen, out, e', vals_of_ints g1, he'⟩), rfl, q _ _ g2 g3 (I1.hok.fresh (Nat.le_refl _))⟩
  have hb : b < h'.objs.size := Heap.lt_size e
  rw [PyProof.Rows.sortedHeap_old (Nat.ne_of_lt hb) (by rw [size_push']; exact Nat.lt_succ_of_lt hb)]
  exact Heap.get?_push_of_some _ e
theorem c_srtD (hc : X.calm = true) {ns : List Int} : CallR X (.builtin "sorted") (rSrtD ns) := by
  intro pins s σ H xs us Q I r h
  obtain ⟨a, kvs, rfl, ha, hk, q⟩ := h
  rw [Vals.ref1 r]
  refine sort_dict hc I ha (merge_keys hk (kvs := []) (ks := []) rfl) fun ys p h1 h2 hpn => ?_
  have hnd : ys.Nodup := h1.nodup_iff.mpr (fold_keys ns [] (by simp)).1
  have hup : ys.Pairwise (· < ·) := L2.lt_of_le_nodup ys h2 hnd
  have e := ssetL_eq (ns := ns) hup fun k => by rw [h1.mem_iff, (fold_keys ns [] (by simp)).2]; simp
  rw [e]
  exact q p hpn
theorem keysO_read {K : PySem.W.Frag} {wa : Option Addr} {Av : Addr → Prop} {H : Hp} : ∀ {vs : List V} {xs : List D} {ns : List Int}, Reps K wa Av H vs xs → keysO xs = some ns → ∃ (ps : List Addr) (kvs : List (Key × V)), vs = ps.map V.ref ∧ Paired (fun p kv => SqT K H p [kV kv.1, kv.2]) ps kvs ∧ kvs.map (·.1) = ns.map Sum.inl
  | _, [], _, .nil, h => by cases h; exact ⟨[], [], rfl, .nil, rfl⟩
  | _, x :: xs, ns, .cons r1 r2, h => by
    match x, h with
    | .tup [.int k, d], h =>
      rw [keysO] at h
      cases hk : keysO xs with
      | none => rw [hk] at h; cases h
      | some ms =>
        rw [hk] at h
        cases h
        obtain ⟨ps, kvs, rfl, h1, h2⟩ := keysO_read r2 hk
        cases r1 with
        | tup ht rr =>
          cases rr with
          | cons q1 q2 => cases q2 with
            | cons q2 q3 =>
              cases q3
              cases q1
              exact ⟨_ :: ps, (.inl k, _) :: kvs, rfl, .cons ht.sq h1, by rw [List.map_cons, h2]; rfl⟩
theorem callR_anyD {r : List Int → List V → Hp → VK → Prop} {f : Value} (h : ∀ ns, CallR X f (r ns)) : CallR X f (fun vs H Q => ∃ ns, r ns vs H Q) := callR_anyNs h
theorem be_sdic (hc : X.calm = true) (hg : Gl X "sorted") (hm : X.mg "sorted" = none) (hv : bootBuiltins "sorted" = some (.builtin "sorted")) (hg2 : Gl X "dict") (hm2 : X.mg "dict" = none) (hv2 : bootBuiltins "dict" = some (.type "dict")) (ha : BAB X g W [e] is)
    (he : starEach [e] X.env = (false, eval e X.env) :: starEach [] X.env := by rfl) (he2 : starEach [.Call (.Name "dict" p2) [e] [] pos2] X.env = (false, eval (.Call (.Name "dict" p2) [e] [] pos2) X.env) :: starEach [] X.env := by rfl) :
    BE X g W (.Call (.Name "sorted" p) [.Call (.Name "dict" p2) [e] [] pos2] [] pos) (.bi .sdic is) :=
  peW (pe_callB (callR_anyD fun ns => c_srtD hc (ns := ns)) hg hm hv (pa_cons (pe_callTy (c_dicI hc) hg2 hm2 hv2 ha (by decide) (by decide) he rfl) pa_nil he2) (by decide) (by decide) he2 rfl) fun σ H Q h => by
    obtain ⟨F, Av, ρ, o, rs, q⟩ := bi_read h
    refine ⟨F, Av, ρ, o, rs, q.mono fun vs H1 ⟨F, Av, ρ, o, σ', ds, z, rs, rp, hz, q⟩ => ?_⟩
    obtain ⟨d, hds, hz2⟩ := rep1 (f := sdicO) hz
    clear hz; subst hds; have hz := hz2; clear hz2
    obtain ⟨v, rfl, r1⟩ := prd1 rp
    unfold sdicO at hz
    cases e1 : lstO d with
    | none => rw [e1] at hz; cases hz
    | some ys =>
      have := lstO_some e1
      subst this
      simp only [lstO, Option.bind_some] at hz
      cases e2 : keysO ys with
      | none => rw [e2] at hz; cases hz
      | some ns =>
        rw [e2] at hz
        obtain rfl : z = .lst ((ssetL ns).map .int) := by
          rw [Option.bind_some, sdic1] at hz
          split at hz
          · cases hz; rfl
          · cases hz
        obtain ⟨a, vs, rfl, h3, r2⟩ := r1.lst
        obtain ⟨ps, kvs, rfl, h4, h5⟩ := keysO_read r2 e2
        exact ⟨a, ps, kvs, ns, rfl, h3, h4, h5, fun p1 hp1 => ⟨ns, p1, kvs, rfl, upd_same, h5, fun p2 hp2 => sset_end rs hp1 hp2 q⟩⟩
/-! ### zip -/
theorem zipD_len : ∀ a b : List D, (zipD a b).length = min a.length b.length
  | [], _ => by simp [zipD]
  | _ :: _, [] => by simp [zipD]
  | x :: a, y :: b => by rw [zipD, List.length_cons, List.length_cons, List.length_cons, zipD_len a b]; omega
theorem zipD_get : ∀ (a b : List D) (i : Nat) (x y : D), a[i]? = some x → b[i]? = some y → (zipD a b)[i]? = some (.tup [x, y])
  | [], _, _, _, _, h, _ => by simp at h
  | _ :: _, [], _, _, _, _, h => by simp at h
  | u :: a, v :: b, 0, x, y, h, h2 => by simp at h h2; simp [zipD, h, h2]
  | u :: a, v :: b, i + 1, x, y, h, h2 => by
    simp at h h2
    simp only [zipD, List.getElem?_cons_succ]
    exact zipD_get a b i x y h h2
theorem ItOk.zip {K : PySem.W.Frag} {k : Bool} {wa : Option Addr} {Av : Addr → Prop} {H : Hp} {a b : Addr} {vs ws : List V} {ds es : List D} (r : Reps K wa Av H vs ds) (r2 : Reps K wa Av H ws es) (h : TpA K Av H a vs) (h2 : TpA K Av H b ws) (hz : vs.length ≤ sizeLine) :
    ItOk K k wa Av (RZ.ItzT K a b) (zipD ds es) H := ⟨by rw [zipD_len, ← r.length]; omega, fun Av' H' c kk th => by
  have hq := (h.cv c).sq
  have hq2 := (h2.cv c).sq
  have hl := r.length
  have hl2 := r2.length
  refine ⟨⟨vs, ws, hq, hq2, by rw [zipD_len]; omega⟩, fun i hi => ?_⟩
  rw [zipD_len] at hi
  obtain ⟨d, hd⟩ : ∃ d, ds[i]? = some d := ⟨_, List.getElem?_eq_getElem (by omega)⟩
  obtain ⟨e, he⟩ : ∃ d, es[i]? = some d := ⟨_, List.getElem?_eq_getElem (by omega)⟩
  obtain ⟨v, hv, rv⟩ := r.get hd
  obtain ⟨w, hw, rw_⟩ := r2.get he
  refine ⟨⟨vs, ws, v, w, hq, hq2, hv, hw⟩, fun x H'' ⟨T, x1, y1, ex, hT, eH, g1, g2⟩ => ?_⟩
  have e1 := g1 vs hq; rw [hv] at e1; cases e1
  have e2 := g2 ws hq2; rw [hw] at e2; cases e2
  subst ex
  subst eH
  refine ⟨.inr ⟨T, _, hT, rfl⟩, _, zipD_get ds es i d e hd he, .tup (.inl ⟨.inl upd_same, fun ha => th T ha hT⟩) ?_⟩
  exact .cons ((rv.cv c).cv (cv_alloc hT)) (.cons ((rw_.cv c).cv (cv_alloc hT)) .nil)⟩
theorem bi_zip {kb : Bool} {elts : List Expr} {kk : Nat} {tpos : Pos} (hg : Gl X "zip") (hm : X.mg "zip" = none) (ha : BAB X g W [a, b] [ia, ib]) (hs : starEach [a, b] X.env = (false, eval a X.env) :: starEach [b] X.env := by rfl) (hpl : (backTo pos (starEach [b] X.env)).any (·.1) = false := by rfl) :
    BI X g W kb (.Tuple elts kk tpos) (.Call (.Name "zip" p) [a, b] [] pos) (.bi .zip [ia, ib]) := by
  refine piW (RZ.pi_zipA hg hm ha hs hpl) fun σ H R ⟨F, Av, ρ, o, rs, q⟩ => ⟨F, Av, ρ, o, rs, (seq_bi q).mono fun vs H1 ⟨ds, o1, hl, rs1, k1, rp, z, xs, hz, hx, q1⟩ => ?_⟩
  obtain ⟨v, d, v2, d2, rfl, rfl, r1, r2⟩ := pair2 rp hl
  cases d <;> cases d2 <;> simp only [biF, un2, zipO, reduceCtorEq] at hz
  split at hz <;> cases hz
  rename_i hle
  cases hx
  obtain ⟨x, vs, rfl, h1, rr1⟩ := r1.tup
  obtain ⟨y, ws, rfl, h2, rr2⟩ := r2.tup
  exact ⟨x, y, vs, ws, rfl, .inr ⟨h1.sq, h2.sq, q1 _ H1 rs1 (Kw.refl _ _) (ItOk.zip rr1 rr2 h1 h2 (by rw [rr1.length, ← cap_eq]; exact hle))⟩⟩
theorem bt_sorted : bootBuiltins "sorted" = some (.builtin "sorted") := by decide +kernel
theorem bt_set : bootBuiltins "set" = some (.type "set") := by decide +kernel
end
end BV

end
/-! text: BV19.lean -/
section
set_option maxRecDepth 100000
set_option autoImplicit false
set_option maxHeartbeats 4000000
namespace BV
open PySem PySem.Spec PyProof.Rows L2
/-! ### slices with a step, of tuples -/
def pickS (xs : Array Value) (lo hi : Option Int) (c : Int) : List Value :=
  (List.range (Builtin.Slice.slicePlaces (Builtin.Slice.sliceAdjust lo hi c xs.size).1 (Builtin.Slice.sliceAdjust lo hi c xs.size).2 c)).filterMap fun (k : Nat) => xs[((Builtin.Slice.sliceAdjust lo hi c xs.size).1 + (k : Int) * c).toNat]?
section
variable {prog : Program} {w : World} {A : Around} {E : Value → Shared → Prop} {s : Shared}
theorem applied_step {sl : Addr} {vl vu vs : Value} {lo hi : Option Int} {c : Int} {n : Nat} {Q : Int × Int × Nat → Shared → Prop} (hs : s.heap.IsSliceOf sl vl vu vs) (pl : IsPart vl lo) (pu : IsPart vu hi) (ps : IsPart vs (some c)) (hc : c ≠ 0)
    (h : Q ((Builtin.Slice.sliceAdjust lo hi c n).1, c, Builtin.Slice.slicePlaces (Builtin.Slice.sliceAdjust lo hi c n).1 (Builtin.Slice.sliceAdjust lo hi c n).2 c) s) : wpAny (model prog w) A (Builtin.Slice.sliceApplied (.ref sl) (pure (n : Int))) Q E s := by
  obtain ⟨os, hos, hcs, hds⟩ := id hs
  unfold Builtin.Slice.sliceApplied Builtin.Slice.sliceFields
  refine wpAny_bind (wpAny_bind (wpAny_field hos hds (x := vl) rfl (wpAny_bind (wpAny_field hos hds (x := vu) rfl (wpAny_bind (wpAny_field hos hds (x := vs) rfl (wpAny_pure ?_)))))))
  refine wpAny_bind (HT.slicePart_ ps ?_)
  show wpAny _ _ (if (c == 0) = true then _ else _) _ _ s
  rw [if_neg (by simpa using hc)]
  refine wpAny_bind (HT.slicePart_ pl (wpAny_bind (HT.slicePart_ pu (wpAny_bind (wpAny_pure ?_)))))
  exact wpAny_pure h
theorem getItem_step {t sl : Addr} {items : Array Value} {vl vu vs : Value} {lo hi : Option Int} {c : Int} {Q : Value → Shared → Prop} (ht : IsTup s.heap t items) (hs : s.heap.IsSliceOf sl vl vu vs) (pl : IsPart vl lo) (pu : IsPart vu hi) (ps : IsPart vs (some c)) (h0 : c ≠ 0) (h1 : c ≠ 1)
    (hz : (pickS items lo hi c).length ≤ sizeLine) (h : Q (.ref s.heap.objs.size) { s with heap := s.heap.push { cls := .type "tuple", data := .seq (pickS items lo hi c).toArray } }) : wpAny (model prog w) A (getItem (.ref t) (.ref sl)) Q E s := by
  have hok : sizeOk (.seq (pickS items lo hi c).toArray) := by
    show (pickS items lo hi c).toArray.size ≤ sizeLine
    rwa [List.size_toArray]
  have hT : s.TypeIs (.ref sl) "slice" := let ⟨os, hos, hcs, _⟩ := hs; ⟨os, hos, hcs⟩
  unfold getItem
  try with_reducible refine wpAny_holding ?_
  first | refine wpAny_bind (wpAny_pure ?_) | skip
  refine wpAny_bind (wpAny_sequenceKey ht.typeIs (by decide) ?_)
  refine wpAny_bind (wpAny_callSpecial?_slot (name := Str.ofString "__getitem__") ht.typeIs PyProof.Rows.slot_tuple_getitem (wpAny_call_entry PyProof.Rows.slot_tuple_getitem ht.typeIs entry_tuple_getitem ?_ (args_tuple_getitem _ _)))
  show wpAny _ _ (Builtin.Tuple.tupleItemsOf (.ref t) >>= _) _ _ s
  refine wpAny_bind (PyProof.Rows.tupleItemsOf_ ht (wpAny_bind (wpAny_typeOf hT ?_)))
  rw [if_pos (by decide)]
  refine wpAny_bind (applied_step hs pl pu ps h0 ?_)
  have hno : ¬ ((((Builtin.Slice.sliceAdjust lo hi c items.size).1 == 0 && c == 1) && (Builtin.Slice.slicePlaces (Builtin.Slice.sliceAdjust lo hi c items.size).1 (Builtin.Slice.sliceAdjust lo hi c items.size).2 c == items.size)) = true) := by
    intro q
    rw [Bool.and_eq_true, Bool.and_eq_true] at q
    exact h1 (eq_of_beq q.1.2)
  show wpAny _ _ (if ((((Builtin.Slice.sliceAdjust lo hi c items.size).1 == 0 && c == 1) && (Builtin.Slice.slicePlaces (Builtin.Slice.sliceAdjust lo hi c items.size).1 (Builtin.Slice.sliceAdjust lo hi c items.size).2 c == items.size)) = true) then _ else _) _ _ s
  rw [if_neg hno]
  first
    | exact wpAny_bind (m := Builtin.Tuple.tupleExact _) (wpAny_newObj_type (wpAny_pure ⟨_, rfl, wpAny_pure h⟩) hok)
    | exact wpAny_bind (m := Builtin.Tuple.tupleExact _) (wpAny_newObj_type (wpAny_bind (wpAny_pure (wpAny_pure ⟨_, rfl, wpAny_pure h⟩))) hok)
    | exact wpAny_bind (wpAny_bind (m := Builtin.Tuple.tupleExact _) (wpAny_newObj_type (wpAny_pure (wpAny_pure ⟨_, rfl, wpAny_pure h⟩)) hok))
    | exact wpAny_bind (wpAny_bind (m := Builtin.Tuple.tupleExact _) (wpAny_newObj_type (wpAny_pure ⟨_, rfl, wpAny_pure h⟩) hok))
end
theorem fm_congr {α β : Type} {f g : α → Option β} : ∀ {l : List α}, (∀ a ∈ l, f a = g a) → l.filterMap f = l.filterMap g
  | [], _ => rfl
  | a :: l, h => by rw [List.filterMap_cons, List.filterMap_cons, h a (by simp), fm_congr fun b hb => h b (by simp [hb])]
theorem range_rev {α : Type} (xs : List α) : ∀ n, n ≤ xs.length → (List.range n).filterMap (fun k => xs[n - 1 - k]?) = (xs.take n).reverse
  | 0, _ => by simp
  | n + 1, h => by
    have ih := range_rev xs n (by omega)
    rw [List.range_succ_eq_map, List.filterMap_cons]
    have e0 : xs[n + 1 - 1 - 0]? = some xs[n] := by simp [List.getElem?_eq_getElem (show n < xs.length by omega)]
    rw [e0, List.filterMap_map, List.take_add_one, List.getElem?_eq_getElem (show n < xs.length by omega)]
    simp only [Option.toList_some, List.reverse_append, List.reverse_cons, List.reverse_nil, List.nil_append, List.cons_append]
    rw [← ih]
    congr 1
    refine fm_congr fun k _ => ?_
    simp only [Function.comp]
    congr 1
    omega
theorem pick_rev (xs : Array Value) : pickS xs none none (-1) = xs.toList.reverse := by
  have ea : Builtin.Slice.sliceAdjust none none (-1) xs.size = ((xs.size : Int) - 1, -1) := rfl
  have ep : Builtin.Slice.slicePlaces ((xs.size : Int) - 1) (-1) (-1) = xs.size := by
    unfold Builtin.Slice.slicePlaces
    rw [if_neg (by decide)]
    by_cases h : (xs.size : Int) - 1 > -1
    · rw [if_pos h, Int.neg_neg, Int.ediv_one]; omega
    · rw [if_neg h]; omega
  unfold pickS
  rw [ea]
  simp only [ep]
  have := range_rev xs.toList xs.size (by simp)
  rw [List.take_of_length_le (by simp)] at this
  rw [← this]
  refine fm_congr fun k hk => ?_
  have := List.mem_range.mp hk
  rw [Array.getElem?_toList, show ((xs.size : Int) - 1 + (k : Int) * -1).toNat = xs.size - 1 - k by omega]
theorem pick_rev1 (xs : Array Value) : pickS xs (some (-2)) none (-1) = (xs.toList.take (xs.size - 1)).reverse := by
  have ea : Builtin.Slice.sliceAdjust (some (-2)) none (-1) xs.size = (max (-2 + (xs.size : Int)) (-1), -1) := rfl
  have ep : Builtin.Slice.slicePlaces (max (-2 + (xs.size : Int)) (-1)) (-1) (-1) = xs.size - 1 := by
    unfold Builtin.Slice.slicePlaces
    rw [if_neg (by decide)]
    by_cases h : max (-2 + (xs.size : Int)) (-1) > -1
    · rw [if_pos h, Int.neg_neg, Int.ediv_one]; omega
    · rw [if_neg h]; omega
  unfold pickS
  rw [ea]
  simp only [ep]
  rw [← range_rev xs.toList (xs.size - 1) (by simp)]
  refine fm_congr fun k hk => ?_
  have := List.mem_range.mp hk
  rw [Array.getElem?_toList, show (max (-2 + (xs.size : Int)) (-1) + (k : Int) * -1).toNat = xs.size - 1 - 1 - k by omega]
theorem reps_rev {K : PySem.W.Frag} {wa : Option Addr} {Av : Addr → Prop} {H : Hp} {vs : List V} {ds : List D} (r : Reps K wa Av H vs ds) : Reps K wa Av H vs.reverse ds.reverse := by
  have : ∀ {vs : List V} {ds : List D}, Reps K wa Av H vs ds → Reps K wa Av H vs.reverse ds.reverse := by
    intro vs
    induction vs with
    | nil => intro ds r; cases r; exact .nil
    | cons v vs ih =>
      intro ds r
      cases r with
      | cons r1 r2 =>
        rw [List.reverse_cons, List.reverse_cons]
        exact (ih r2).append (.cons r1 .nil)
  exact this r
theorem reps_take {K : PySem.W.Frag} {wa : Option Addr} {Av : Addr → Prop} {H : Hp} : ∀ {n : Nat} {vs : List V} {ds : List D}, Reps K wa Av H vs ds → Reps K wa Av H (vs.take n) (ds.take n)
  | 0, _, _, _ => by rw [List.take_zero, List.take_zero]; exact .nil
  | n + 1, _, _, .nil => by rw [List.take_nil, List.take_nil]; exact .nil
  | n + 1, _, _, .cons h t => by rw [List.take_succ_cons, List.take_succ_cons]; exact .cons h (reps_take t)
theorem vals_take : ∀ {n : Nat} {vs : List V} {us : List Value}, Vals vs us → Vals (vs.take n) (us.take n)
  | 0, _, _, _ => by rw [List.take_zero, List.take_zero]; exact .nil
  | n + 1, _, _, .nil => by rw [List.take_nil, List.take_nil]; exact .nil
  | n + 1, _, _, .cons h t => by rw [List.take_succ_cons, List.take_succ_cons]; exact .cons h (vals_take t)
section
variable {X : Cx} {g : Pg} {W : WX} {a e : Expr} {ia : IE} {pos p1 p2 p3 q1 q2 : Pos} {k k' : Nat}
/-- e[lo:hi:c] of a tuple: the slice's object is made, then the tuple asked -/
def tStT (K : PySem.W.Frag) (te : TE) (lo : Option Int) (c : Int) : TE := fun σ H Q => te σ H fun x H1 => ∃ a xs, x = .ref a ∧ SqT K H1 a xs ∧ ∀ p (ys : List V), H1 p = none → (∀ its : List Value, Vals xs its → Vals ys (pickS its.toArray lo none c)) → ys.length ≤ xs.length → Q (.ref p) (upd H1 p (.tup ys))
theorem pe_stepT {el : Option Expr} {te : TE} {lo : Option Int} {ys : List V → List V} (hp : ∀ xs its, Vals xs its → Vals (ys xs) (pickS its.toArray lo none (-1))) (hle : ∀ xs, (ys xs).length ≤ xs.length) (he : PE X e te)
    (hl : ∀ {pins : List (Addr × Obj)} {s : Shared} {σ : L2.St} {H : Hp}, Inv X pins σ H s → wpAny (model X.prog X.w) X.A (evalPart el X.env) (fun u s' => ∃ o H', Inv X pins σ H' s' ∧ IsPart u o ∧ o = lo ∧ H' = H) X.xe s)
    (hgd : evalPart (some (.UnaryOp .USub (.Constant (.int 1) k p1) p2)) X.env = evalPart (some (.UnaryOp .USub (.Constant (.int 1) k p1) p2)) X.env := by rfl) :
    PE X (.Subscript e (.Slice el none (some (.UnaryOp .USub (.Constant (.int 1) k p1) p2)) p3) pos) (fun σ H Q => te σ H fun x H1 => ∃ a xs, x = .ref a ∧ SqT X.K H1 a xs ∧ ∀ p, H1 p = none → Q (.ref p) (upd H1 p (.tup (ys xs)))) := by
  refine ⟨fun pins s σ H Q I h => ?_⟩
  refine Subscript_ (thn (he.run pins s σ H _ I h) fun v s1 ⟨x, H1, I1, r1, q1⟩ => ?_)
  obtain ⟨a, xs, ex, hx, q⟩ := q1
  subst ex
  cases r1
  have hst : PO X (some (.UnaryOp .USub (.Constant (.int 1) k p1) p2)) (tPart (tUn (rU fun i => .int (-i)) (tC (.int 1)))) := po_some (pe_un un_neg pe_int)
  refine wpAny_Slice (thn (hl I1) fun vl s2 ⟨l, H2, I2, pl, el', e2⟩ => ?_)
  subst el' e2
  refine thn (po_none.run pins s2 σ H2 (fun o H3 => o = none ∧ H3 = H2) I2 ⟨rfl, rfl⟩) fun vu s3 ⟨u, H3, I3, pu, eu, e3⟩ => ?_
  subst eu e3
  refine thn (hst.run pins s3 σ H3 (fun o H4 => o = some (-1) ∧ H4 = H3) I3 ⟨1, rfl, -1, rfl, rfl, rfl⟩) fun vs s4 ⟨o, H4, I4, ps, eo, e4⟩ => ?_
  subst eo e4
  have I5 : Inv X pins σ H4 { s4 with heap := s4.heap.push { cls := .type "slice", data := .fields #[vl, vu, vs] } } := I4.kept (t' := s4.toks) fun b ob q => Heap.get?_push_of_some _ q
  obtain ⟨its, r, ht, hz⟩ := I5.tuple hx
  have hpk := hp xs its r
  have hlen : (pickS its.toArray l none (-1)).length ≤ sizeLine := by rw [← hpk.length]; exact Nat.le_trans (hle xs) hz
  show wpAny (model X.prog X.w) X.A (subscriptTail e _ (.ref a) (.ref s4.heap.objs.size)) (EP X pins σ Q) X.xe _
  refine tail_any (ops := [.ref a, .ref s4.heap.objs.size]) ht.typeIs PyProof.Rows.slot_tuple_getitem.lookup ?_ (by with_unfolding_all rfl)
  refine getItem_step ht (Heap.IsSliceOf.new _ vl vu vs) pl pu ps (by decide) (by decide) hlen ?_
  refine ⟨.ref _, _, I5.laid (t' := s4.toks) (o := .tup (ys xs)) (fun b ob q => Heap.get?_push_of_some _ q) (Nat.le_refl _) ?_, rfl, q _ (I5.hok.fresh (Nat.le_refl _))⟩
  exact ⟨by rw [hpk.length]; exact hlen, _, hpk, ⟨_, Heap.get?_push_size _ rfl, rfl, 0, rfl⟩⟩

theorem ev_one {C : Nat → List D → Or → BV.R D} {b : Bi} {e : IE} {ρ : Env} {o : Or} : evE C (.bi b [e]) ρ o = (evE C e ρ o).bind fun x o => .of (biF b [x]) o := by
  rw [evE, evEs]
  cases evE C e ρ o <;> rfl
theorem be_revG {b : Bi} {x : Expr} (hT : ∀ F Av ρ o o' σ H xs, RS X.K F Av ρ o σ H → evE g.C ia ρ o = .ok (.tup xs) o' → ∀ pins s Q, Inv X pins σ H s → goR X.K g W F Av ρ σ (fun v d H' => Rep X.K F.wa Av H' v d) H (evE g.C (.bi b [ia]) ρ o) Q → wpAny (model X.prog X.w) X.A (eval x X.env) (EP X pins σ Q) X.xe s)
    (hL : ∀ F Av ρ o o' σ H xs, RS X.K F Av ρ o σ H → evE g.C ia ρ o = .ok (.lst xs) o' → ∀ pins s Q, Inv X pins σ H s → goR X.K g W F Av ρ σ (fun v d H' => Rep X.K F.wa Av H' v d) H (evE g.C (.bi b [ia]) ρ o) Q → wpAny (model X.prog X.w) X.A (eval x X.env) (EP X pins σ Q) X.xe s)
    (hX : ∀ F Av ρ o c d o' σ H, RS X.K F Av ρ o σ H → evE g.C ia ρ o = .exc c d o' → ∀ pins s Q, Inv X pins σ H s → goR X.K g W F Av ρ σ (fun v d H' => Rep X.K F.wa Av H' v d) H (evE g.C (.bi b [ia]) ρ o) Q → wpAny (model X.prog X.w) X.A (eval x X.env) (EP X pins σ Q) X.xe s)
    (hn : ∀ d, (∀ xs, d ≠ .tup xs) → (∀ xs, d ≠ .lst xs) → biF b [d] = none) : BE X g W x (.bi b [ia]) := by
  refine ⟨fun pins s σ H Q I ⟨F, Av, ρ, o, rs, q⟩ => ?_⟩
  cases e : evE g.C ia ρ o with
  | no => rw [ev_one, e] at q; exact q.elim
  | exc c d o' => exact hX F Av ρ o c d o' σ H rs e pins s Q I q
  | ok d o' =>
    by_cases ht : ∃ xs, d = .tup xs
    · obtain ⟨xs, rfl⟩ := ht; exact hT F Av ρ o o' σ H xs rs e pins s Q I q
    · by_cases hl : ∃ xs, d = .lst xs
      · obtain ⟨xs, rfl⟩ := hl; exact hL F Av ρ o o' σ H xs rs e pins s Q I q
      · rw [ev_one, e, BV.R.bind_ok, hn d (fun xs z => ht ⟨xs, z⟩) (fun xs z => hl ⟨xs, z⟩)] at q
        exact q.elim
theorem part_none {pins : List (Addr × Obj)} {s : Shared} {σ : L2.St} {H : Hp} (I : Inv X pins σ H s) : wpAny (model X.prog X.w) X.A (evalPart none X.env) (fun u s' => ∃ o H', Inv X pins σ H' s' ∧ IsPart u o ∧ o = none ∧ H' = H) X.xe s :=
  po_none.run pins s σ H (fun o H2 => o = none ∧ H2 = H) I ⟨rfl, rfl⟩
theorem part_m2 {pins : List (Addr × Obj)} {s : Shared} {σ : L2.St} {H : Hp} (I : Inv X pins σ H s) : wpAny (model X.prog X.w) X.A (evalPart (some (.UnaryOp .USub (.Constant (.int 2) k' q1) q2)) X.env) (fun u s' => ∃ o H', Inv X pins σ H' s' ∧ IsPart u o ∧ o = some (-2) ∧ H' = H) X.xe s :=
  (po_some (pe_un un_neg pe_int)).run pins s σ H (fun o H4 => o = some (-2) ∧ H4 = H) I ⟨2, rfl, -2, rfl, rfl, rfl⟩
theorem be_rev (ha : BB X g W a ia) : BE X g W (.Subscript a (.Slice none none (some (.UnaryOp .USub (.Constant (.int 1) k p1) p2)) p3) pos) (.bi .rev [ia]) := by
  refine be_revG ?_ ?_ ?_ ?_
  · intro F Av ρ o o' σ H xs rs e pins s Q I q
    refine (pe_stepT (ys := List.reverse) (fun xs its r => by rw [pick_rev]; exact r.reverse) (fun xs => by rw [List.length_reverse]; exact Nat.le_refl _) ha part_none).run pins s σ H Q I ⟨F, Av, ρ, o, rs, ?_⟩
    rw [ev_one, e] at q
    rw [e]
    intro v H' rs' k' r
    obtain ⟨a, vs, rfl, h1, r2⟩ := r.tup
    exact ⟨a, vs, rfl, h1.sq, fun p hp => q _ _ (rs'.alloc hp) (k'.trans (kw_alloc hp)) (Rep.newTup rs' hp (reps_rev r2))⟩
  · intro F Av ρ o o' σ H xs rs e pins s Q I q
    refine (pe_revL ha).run pins s σ H Q I ⟨F, Av, ρ, o, rs, ?_⟩
    rw [ev_one, e] at q
    rw [e]
    intro v H' rs' k' r
    obtain ⟨a, vs, rfl, h1, r2⟩ := r.lst
    exact ⟨a, vs, rfl, h1, fun p hp => q _ _ (rs'.alloc hp) (k'.trans (kw_alloc hp)) (Rep.newLst rs' hp (reps_rev r2))⟩
  · intro F Av ρ o c d o' σ H rs e pins s Q I q
    refine (pe_revL ha).run pins s σ H Q I ⟨F, Av, ρ, o, rs, ?_⟩
    rw [ev_one, e] at q
    rw [e]
    exact q
  · intro d h1 h2
    cases d <;> first | rfl | exact absurd rfl (h1 _) | exact absurd rfl (h2 _)
theorem be_rev1 (ha : BB X g W a ia) : BE X g W (.Subscript a (.Slice (some (.UnaryOp .USub (.Constant (.int 2) k' q1) q2)) none (some (.UnaryOp .USub (.Constant (.int 1) k p1) p2)) p3) pos) (.bi .rev1 [ia]) := by
  have key : ∀ F Av ρ o σ H, RS X.K F Av ρ o σ H → ∀ pins s Q, Inv X pins σ H s → goR X.K g W F Av ρ σ (fun v d H' => RepB X.K F.wa Av H' v d) H (evE g.C ia ρ o) (fun x H1 => ∃ a xs, x = .ref a ∧ SqT X.K H1 a xs ∧ ∀ p, H1 p = none → Q (.ref p) (upd H1 p (.tup (xs.take (xs.length - 1)).reverse))) → wpAny (model X.prog X.w) X.A (eval (.Subscript a (.Slice (some (.UnaryOp .USub (.Constant (.int 2) k' q1) q2)) none (some (.UnaryOp .USub (.Constant (.int 1) k p1) p2)) p3) pos) X.env) (EP X pins σ Q) X.xe s := by
    intro F Av ρ o σ H rs pins s Q I q
    exact (pe_stepT (ys := fun xs => (xs.take (xs.length - 1)).reverse) (fun xs its r => by rw [pick_rev1, List.size_toArray, ← r.length]; exact (vals_take r).reverse) (fun xs => by rw [List.length_reverse, List.length_take]; omega) ha part_m2).run pins s σ H Q I ⟨F, Av, ρ, o, rs, q⟩
  refine be_revG ?_ ?_ ?_ ?_
  · intro F Av ρ o o' σ H xs rs e pins s Q I q
    refine key F Av ρ o σ H rs pins s Q I ?_
    rw [ev_one, e] at q
    rw [e]
    intro v H' rs' k' r
    obtain ⟨a, vs, rfl, h1, r2⟩ := r.tup
    have hl := r2.length
    exact ⟨a, vs, rfl, h1.sq, fun p hp => q _ _ (rs'.alloc hp) (k'.trans (kw_alloc hp)) (Rep.newTup rs' hp (reps_rev (by rw [hl]; exact reps_take r2)))⟩
  · intro F Av ρ o o' σ H xs rs e pins s Q I q
    rw [ev_one, e] at q
    exact q.elim
  · intro F Av ρ o c d o' σ H rs e pins s Q I q
    refine key F Av ρ o σ H rs pins s Q I ?_
    rw [ev_one, e] at q
    rw [e]
    exact q
  · intro d h1 h2
    cases d <;> first | rfl | exact absurd rfl (h1 _)
end
end BV

end
/-! text: BV20.lean -/
section
set_option maxRecDepth 100000
set_option autoImplicit false
set_option maxHeartbeats 4000000
namespace BV
open PySem PySem.Spec PyProof.Rows L2
/-! ### a slot's own list: extend, an item stored, an item op= -/
theorem setS2 : ∀ (ρ : Env) (j : Nat) (x y : Sl), setS (setS ρ j x) j y = setS ρ j y
  | [], _, _, _ => rfl
  | _ :: _, 0, _, _ => rfl
  | a :: ρ, j + 1, x, y => by simp only [setS, setS2 ρ j x y]
/-- a slot's own list is written -/
theorem RS.updOwn {K : PySem.W.Frag} {F : Fr} {Av : Addr → Prop} {ρ : Env} {o : Or} {σ : L2.St} {H : Hp} {j : Nat} {a : Addr} {ds ds' : List BV.D} {vs' : List V} (rs : RS K F Av ρ o σ H) (ho : getS ρ j = .own (.lst ds)) (ea : σ[j]? = some (some (.ref a)))
    (av : Av a) (nw : F.wa ≠ some a) (r : Reps K F.wa Av H vs' ds') : RS K F Av (setS ρ j (.own (.lst ds'))) o σ (upd H a (.lst vs')) := by
  have h0 := rs.new j _ a ho ea
  have hu : ∀ k d', getS (setS ρ j .un) k = .own d' → (σ.set j (some (.ref a)))[k]? ≠ some (some (.ref a)) := fun k d' e' z => by
    rw [getS_setS] at e'
    rw [getV_set, ← rs.len] at z
    split at e'
    · cases e'
    · rename_i c
      rw [if_neg c] at z
      have := rs.inj k j d' _ a e' ho z ea
      exact c ⟨this.symm, by rw [this]; exact rs.lt_len (.inr ho)⟩
  have rs2 : RS K F Av (setS ρ j .un) o (σ.set j (some (.ref a))) (upd H a (.lst vs')) := (rs.unset (i := j) (x := some (.ref a))).upd_own av nw h0 hu
  have rs3 := rs2.setOwnL (i := j) (a := a) (vs := vs') (ds := ds') upd_same (r.cv (cv_upd av)) av nw h0 fun k d' e' z => by
    rw [getS_setS] at e'
    rw [getV_set, ← rs.len] at z
    split at e'
    · cases e'
    · rename_i c
      rw [if_neg c] at z
      exact rs.inj k j d' _ a e' ho z ea
  have e2 : (σ.set j (some (.ref a))).set j (some (.ref a)) = σ := by
    rw [List.set_set]
    refine List.ext_getElem? fun n => ?_
    rw [getV_set]
    split
    · rename_i c
      rw [← c.1, ea]
    · rfl
  rw [e2, setS2] at rs3
  exact rs3
theorem Rep.setIn {K : PySem.W.Frag} {wa : Option Addr} {Av : Addr → Prop} {H : Hp} {v : V} {d : BV.D} (r : Rep K wa Av H v d) : ∀ {vs : List V} {ds : List BV.D} (i : Nat), Reps K wa Av H vs ds → Reps K wa Av H (vs.set i v) (ds.set i d)
  | _, _, _, .nil => .nil
  | _, _, 0, .cons _ t => .cons r t
  | _, _, i + 1, .cons h t => .cons h (Rep.setIn r i t)
section
variable {X : Cx} {g : Pg} {W : WX} {st : Stmt} {e k : Expr} {ie ik : IE} {pos : Pos}
theorem bs_ext {j : Nat} {x : Str} {px apos cpos : Pos} (hi : X.N[j]? = some x) (hv : Vis X.env.scope x) (he : BF X g W e ie) (hd : (x == ("__debug__" : Str)) = false := by decide) (hcd : (x == ("__classdict__" : Str)) = false := by decide)
    (hbase : attributeBase (.Name x px) "extend" X.env (eval (.Name x px) X.env) = eval (.Name x px) X.env := by rfl)
    (hfew : ((backTo cpos (starEach (e :: []) X.env)).all (fun x => !x.1) && (backToKw cpos (keywordEach [] X.env)).all (fun x => x.1.isSome)
      && decide ((e :: []).length + ([] : List Keyword).length + (if ([] : List Keyword).isEmpty then 0 else 1) < 30)) = true := by rfl)
    (hline : (apos.endLine == cpos.line) = true := by rfl) (hs : starEach (e :: []) X.env = (false, eval e X.env) :: starEach [] X.env := by rfl) (hsw : swapsWith (.Call (.Attribute (.Name x px) "extend" apos) [e] [] cpos) none pos.line X.env = pure false := by rfl) :
    BS X g W (.Expr (.Call (.Attribute (.Name x px) "extend" apos) [e] [] cpos) pos) (.ext j ie) := by
  refine psW (ps_expr (pe_bm PySem.F.plainAttrs_list PySem.F.slot_list_extend PySem.F.type_list_extend mt_extend (pe_var (i := j) hi hv hd hcd) (pa_cons he pa_nil hs) hbase hfew hline hs rfl) hsw) fun D σ H ⟨F, Av, ρ, o, rs, q⟩ => ?_
  rw [evSs_one, evS] at q
  cases ho : getS ρ j with
  | un => rw [ho] at q; exact q.elim
  | val d => rw [ho] at q; exact q.elim
  | own d =>
    rcases rs.own' ho with ⟨a, vs, ds, ea, rfl, ha, r, av, nw⟩ | ⟨kds, rfl⟩
    rotate_left
    · rw [ho] at q; exact q.elim
    rw [ho] at q
    simp only at q
    refine ⟨_, ea, .inl ⟨rfl, _, SqL.of ha⟩, F, Av, ρ, o, rs, ?_⟩
    cases e1 : evE g.C ie ρ o with
    | no => rw [e1] at q; exact q.elim
    | exc c d o1 => rw [e1] at q; exact fun cls dx H1 x1 x2 x3 => q Av cls dx σ H1 x1 (Cv.kw x2 rs) x3
    | ok d o1 =>
      rw [e1] at q
      simp only [BV.R.out_ok] at q
      rintro v H1 b ws es rs1 k1 rfl rfl hb hb1 rb _
      obtain ⟨a', vs', ea', ha', r', av', nw'⟩ := rs1.own ho
      rw [ea] at ea'
      have : a = a' := by simpa using ea'
      subst this
      dsimp only at q
      split at q
      · rename_i hl
        have rb' : Reps X.K F.wa Av H1 ws es := rb.cv fun c u z n => ⟨z, fun y => n (.inl y)⟩
        refine ⟨a, b, vs', ws, rfl, rfl, ha', hb1, by rw [r'.length, rb'.length, ← cap_eq]; exact hl, ?_⟩
        exact q Av σ _ (rs1.updOwn ho ea av nw (r'.append rb')) ((Cv.kw k1 rs).trans (cv_upd av))
      · exact q.elim
theorem bs_stI {j : Nat} {x : Str} {px tpos : Pos} (hi : X.N[j]? = some x) (hv : Vis X.env.scope x) (hk : BE X g W k ik) (he : BE X g W e ie) (hd : (x == ("__debug__" : Str)) = false := by decide) (hcd : (x == ("__classdict__" : Str)) = false := by decide)
    (ha : ∀ v, assign (.Subscript (.Name x px) k tpos) X.env v = (do
      let ov ← holding [v] (eval (.Name x px) X.env)
      let iv ← holding [v, ov] (eval k X.env)
      standAt tpos
      holding [v, ov, iv] (setItem ov iv v)
      release [v, ov, iv] []) := by intro _; rfl)
    (hs : swapsWithSole [.Subscript (.Name x px) k tpos] e pos.line X.env = pure false := by rfl) (hw : swappedStores [.Subscript (.Name x px) k tpos] e X.env = pure none := by rfl)
    (h1 : (assignEach [.Subscript (.Name x px) k tpos] X.env).map (·.2) = [assign (.Subscript (.Name x px) k tpos) X.env] := by rfl) :
    BS X g W (.Assign [.Subscript (.Name x px) k tpos] e pos) (.stI j ik ie) := by
  refine psW (ps_asg he (pg_sub (pe_var (i := j) hi hv hd hcd) hk set_list ha) hs hw h1) fun D σ H ⟨F, Av, ρ, o, rs, q⟩ => ?_
  rw [evSs_one, evS] at q
  refine ⟨F, Av, ρ, o, rs, (goR.out rs q).mono fun v H1 ⟨d, o1, e1, rs1, k1, r1, q1⟩ => ?_⟩
  cases ho : getS ρ j with
  | un => rw [ho] at q1; exact q1.elim
  | val d => rw [ho] at q1; exact q1.elim
  | own d0 =>
    rcases rs1.own' ho with ⟨a, vs, ds, ea, rfl, ha, r, av, nw⟩ | ⟨kds, rfl⟩
    rotate_left
    · rw [ho] at q1; exact q1.elim
    rw [ho] at q1
    simp only at q1
    refine ⟨_, ea, F, Av, ρ, o1, rs1, (goR.out rs1 q1).mono fun kv H2 ⟨d2, o2, e2, rs2, k2, r2, q2⟩ => ?_⟩
    split at q2
    · rename_i n
      cases r2
      split at q2
      · rename_i i' hix
        obtain ⟨a', vs', ea', ha', r', av', nw'⟩ := rs2.own ho
        rw [ea] at ea'
        have : a = a' := by simpa using ea'
        subst this
        refine ⟨a, vs', n, i', rfl, rfl, ha', by rw [r'.length]; exact hix, ?_⟩
        exact q2 Av σ _ (rs2.updOwn ho ea av nw ((r1.cv (Cv.kw k2 rs1)).setIn i' r')) (cv_upd av)
      · exact q2.elim
    · exact q2.elim
/-- o[i], a list, by values -/
theorem get_list {X : Cx} : PGet X (rIxL X.K) := by
  intro pins s σ H x y v u Q I rx ry h
  obtain ⟨p, xs, i, z, rfl, rfl, hq, he, q⟩ := h
  cases rx
  obtain ⟨t, rfl⟩ := ry
  obtain ⟨its, r, pl, hz⟩ := I.list hq
  obtain ⟨j, h1, h2, h3, h4, h5⟩ := atI_get he
  obtain ⟨w, ew, rw'⟩ := r.get h2
  have hl := r.length
  have hn := line63
  have fin : EP X pins σ Q w s := ⟨z, H, I, rw', q⟩
  by_cases h0 : 0 ≤ i
  · have hj : i.toNat = j := by
      rw [seqIndex_of h0 h5] at h1
      exact Option.some.inj h1
    exact wpAny_getItem_list pl.isList h0 (by omega) (by rw [hj]; simpa using ew) fin
  · have hj : (i + (its.toArray.size : Int)).toNat = j := by
      rw [seqIndex_neg (by omega) h4] at h1
      rw [List.size_toArray, ← hl]
      exact Option.some.inj h1
    exact wpAny_getItem_list_neg pl.isList (by omega) (by rw [List.size_toArray] <;> omega) (by omega) (by rw [hj]; simpa using ew) fin
theorem bs_augI {j : Nat} {x : Str} {px tpos : Pos} {op : O2} {bop : Operator} (ho' : OpR X (inplaceOp bop) (rB X.K (opS op))) (hi : X.N[j]? = some x) (hv : Vis X.env.scope x) (hk : BE X g W k ik) (he : BE X g W e ie) (hd : (x == ("__debug__" : Str)) = false := by decide) (hcd : (x == ("__classdict__" : Str)) = false := by decide)
    (ha : ∀ ov iv new, augStore k ov iv new = (do holding [new, ov, iv] (setItem ov iv new); release [new, ov, iv] []; pure .next) := by intros; rfl) :
    BS X g W (.AugAssign (.Subscript (.Name x px) k tpos) bop e pos) (.augI j ik op ie) := by
  refine psW (ps_augS (tip := rB X.K (opS op)) (pe_var (i := j) hi hv hd hcd) hk get_list he ho' set_list ha) fun D σ H ⟨F, Av, ρ, o, rs, q⟩ => ?_
  rw [evSs_one, evS] at q
  cases ho : getS ρ j with
  | un => rw [ho] at q; exact q.elim
  | val d => rw [ho] at q; exact q.elim
  | own d0 =>
    rcases rs.own' ho with ⟨a, vs, ds, ea, rfl, ha, r, av, nw⟩ | ⟨kds, rfl⟩
    rotate_left
    · rw [ho] at q; exact q.elim
    rw [ho] at q
    simp only at q
    refine ⟨_, ea, F, Av, ρ, o, rs, (goR.out rs q).mono fun kv H1 ⟨d1, o1, e1, rs1, k1, r1, q1⟩ => ?_⟩
    obtain ⟨a1, vs1, ea1, ha1, r1', av1, nw1⟩ := rs1.own ho
    rw [ea] at ea1
    have : a = a1 := by simpa using ea1
    subst this
    split at q1
    · rename_i n
      cases r1
      split at q1
      · rename_i i' x0 hix hat
        split at q1
        · rename_i hsc
          obtain ⟨z0, ez0, rz0⟩ := atI_rep r1' hat
          refine ⟨a, vs1, n, z0, rfl, rfl, SqL.of ha1, ez0, F, Av, ρ, o1, rs1, (goR.out rs1 q1).mono fun yv H2 ⟨d2, o2, e2, rs2, k2, r2, q2⟩ => ?_⟩
          cases hz : op2 op x0 d2 with
          | none => rw [hz] at q2; exact q2.elim
          | some z =>
            rw [hz] at q2
            refine ⟨F, Av, ρ, o2, σ, x0, d2, z, rs2, .inl (rz0.cv (Cv.kw k2 rs1)), .inl r2, by rw [opS, if_pos hsc]; exact hz, fun w H3 rs3 k3 r3 => ?_⟩
            obtain ⟨a3, vs3, ea3, ha3, r3', av3, nw3⟩ := rs3.own ho
            rw [ea] at ea3
            have : a = a3 := by simpa using ea3
            subst this
            refine ⟨a, vs3, n, i', rfl, rfl, ha3, by rw [r3'.length]; exact hix, ?_⟩
            exact q2 Av σ _ (rs3.updOwn ho ea av nw (r3.setIn i' r3')) ((Cv.kw k3 rs2).trans (cv_upd av))
        · exact q1.elim
      · exact q1.elim
    · exact q1.elim
end
end BV

end
/-! text: BV21.lean -/
section
set_option maxRecDepth 100000
set_option autoImplicit false
set_option maxHeartbeats 4000000
namespace BV
open PySem PySem.Spec PyProof.Rows L2
/-! ### a slot's own dict -/
theorem keyD_eq {k k' : L2.Key} {e e' : D} (h : KeyD k e) (h' : KeyD k' e') : eqD e e' = decide (k = k') := by
  cases e <;> simp only [KeyD] at h <;> cases e' <;> simp only [KeyD] at h' <;> subst h <;> subst h'
  · rename_i i j
    show (i == j) = _
    rw [Bool.eq_iff_iff, beq_iff_eq, decide_eq_true_eq]
    exact ⟨fun h => by rw [h], fun h => by cases h; rfl⟩
  · rename_i i s
    show false = _
    symm
    rw [decide_eq_false_iff_not]
    exact fun h => nomatch h
  · rename_i s i
    show false = _
    symm
    rw [decide_eq_false_iff_not]
    exact fun h => nomatch h
  · rename_i s u
    show (s == u) = _
    rw [Bool.eq_iff_iff, beq_iff_eq, decide_eq_true_eq]
    exact ⟨fun h => by rw [h], fun h => cps_inj.mp (Sum.inr.inj h)⟩
section
variable {K : PySem.W.Frag} {wa : Option Addr} {Av : Addr → Prop} {H : Hp}
theorem keyD_of {v : V} {d : D} (h : keyOk d = true) (r : RepB K wa Av H v d) : ∃ k, v = kV k ∧ KeyD k d := by
  cases d <;> simp only [keyOk, Bool.false_eq_true] at h
  · rename_i i
    have : v = .int i := by
      rcases r with r | r
      · cases r; rfl
      · rcases r.kind with ⟨_, e⟩ | ⟨_, e⟩ <;> cases e
    subst this
    exact ⟨.inl i, rfl, rfl⟩
  · rename_i s
    have : v = .str (cps s) := by
      rcases r with r | r
      · cases r; rfl
      · rcases r.kind with ⟨_, e⟩ | ⟨_, e⟩ <;> cases e
    subst this
    exact ⟨.inr (cps s), rfl, rfl⟩
theorem RepsK.len : ∀ {kvs : List (L2.Key × V)} {kds : List (D × D)}, RepsK K wa Av H kvs kds → kvs.length = kds.length
  | _, _, .nil => rfl
  | _, _, .cons _ _ t => congrArg (· + 1) (RepsK.len t)
theorem RepsK.any {k : L2.Key} {e : D} (h : KeyD k e) : ∀ {kvs : List (L2.Key × V)} {kds : List (D × D)}, RepsK K wa Av H kvs kds → (kvs.any fun kv => decide (kv.1 = k)) = kds.any fun kv => eqD kv.1 e
  | _, _, .nil => rfl
  | _, _, .cons h1 _ t => by rw [List.any_cons, List.any_cons, RepsK.any h t, keyD_eq h1 h]
theorem RepsK.val {k : L2.Key} {e : D} (h : KeyD k e) : ∀ {kvs : List (L2.Key × V)} {kds : List (D × D)}, RepsK K wa Av H kvs kds → match valD kds e with
    | some d => ∃ v, valV kvs k = some v ∧ Rep K wa Av H v d
    | none => valV kvs k = none
  | _, _, .nil => rfl
  | _, _, .cons (k := k1) (e := e1) (v := v1) (d := d1) (kvs := kvs) (kds := kds) h1 r t => by
    have ih := RepsK.val h t
    have he := keyD_eq h1 h
    unfold valD at ih ⊢
    unfold valV at ih ⊢
    rw [List.find?_cons, List.find?_cons]
    simp only [he]
    by_cases hk : k1 = k
    · rw [decide_eq_true hk]
      exact ⟨v1, rfl, r⟩
    · rw [decide_eq_false hk]
      exact ih
theorem RepsK.map {k : L2.Key} {e : D} {v : V} {d : D} (h : KeyD k e) (r : Rep K wa Av H v d) : ∀ {kvs : List (L2.Key × V)} {kds : List (D × D)}, RepsK K wa Av H kvs kds →
    RepsK K wa Av H (kvs.map fun kv => if kv.1 = k then (kv.1, v) else kv) (kds.map fun kv => if eqD kv.1 e = true then (kv.1, d) else kv)
  | _, _, .nil => .nil
  | _, _, .cons (k := k1) (e := e1) (v := v1) (d := d1) h1 r1 t => by
    have he := keyD_eq h1 h
    rw [List.map_cons, List.map_cons]
    simp only [he]
    by_cases hk : k1 = k
    · rw [if_pos hk, decide_eq_true hk, if_pos rfl]
      exact .cons h1 r (RepsK.map h r t)
    · rw [if_neg hk, decide_eq_false hk, if_neg Bool.false_ne_true]
      exact .cons h1 r1 (RepsK.map h r t)
theorem RepsK.snoc {k : L2.Key} {e : D} {v : V} {d : D} (h : KeyD k e) (r : Rep K wa Av H v d) : ∀ {kvs : List (L2.Key × V)} {kds : List (D × D)}, RepsK K wa Av H kvs kds → RepsK K wa Av H (kvs ++ [(k, v)]) (kds ++ [(e, d)])
  | _, _, .nil => .cons h r .nil
  | _, _, .cons h1 r1 t => .cons h1 r1 (RepsK.snoc h r t)
theorem RepsK.put {k : L2.Key} {e : D} {v : V} {d : D} (h : KeyD k e) (r : Rep K wa Av H v d) {kvs : List (L2.Key × V)} {kds : List (D × D)} (t : RepsK K wa Av H kvs kds) : RepsK K wa Av H (putK kvs k v) (putD kds e d) := by
  unfold putK putD
  rw [RepsK.any h t]
  split
  · exact RepsK.map h r t
  · exact RepsK.snoc h r t
/-- a dict to be read -/
theorem dic_of {v : V} {kds : List (D × D)} (r : RepB K wa Av H v (.dic kds)) : ∃ a kvs, v = .ref a ∧ H a = some (.dK kvs) ∧ RepsK K wa Av H kvs kds := by
  rcases r with r | r
  · cases r with | dic h q => exact ⟨_, _, rfl, h.1, q⟩
  · obtain ⟨a, kvs, rfl, h, q, _⟩ := r.dic
    exact ⟨a, kvs, rfl, h, q⟩
end
/-- a slot's own object is written -/
theorem RS.updOwnG {K : PySem.W.Frag} {F : Fr} {Av : Addr → Prop} {ρ : Env} {o : Or} {σ : L2.St} {H : Hp} {j : Nat} {a : Addr} {d d' : BV.D} {u' : HO} (rs : RS K F Av ρ o σ H) (ho : getS ρ j = .own d) (ea : σ[j]? = some (some (.ref a)))
    (av : Av a) (nw : F.wa ≠ some a) (r : OwO K F.wa Av H u' d') : RS K F Av (setS ρ j (.own d')) o σ (upd H a u') := by
  have h0 := rs.new j _ a ho ea
  have hu : ∀ k d', getS (setS ρ j .un) k = .own d' → (σ.set j (some (.ref a)))[k]? ≠ some (some (.ref a)) := fun k d' e' z => by
    rw [getS_setS] at e'
    rw [getV_set, ← rs.len] at z
    split at e'
    · cases e'
    · rename_i c
      rw [if_neg c] at z
      have := rs.inj k j d' _ a e' ho z ea
      exact c ⟨this.symm, by rw [this]; exact rs.lt_len (.inr ho)⟩
  have rs2 : RS K F Av (setS ρ j .un) o (σ.set j (some (.ref a))) (upd H a u') := (rs.unset (i := j) (x := some (.ref a))).upd_own av nw h0 hu
  have rs3 := rs2.setOwn (i := j) (a := a) (u := u') (d := d') upd_same (r.cv (cv_upd av)) av nw h0 fun k d' e' z => by
    rw [getS_setS] at e'
    rw [getV_set, ← rs.len] at z
    split at e'
    · cases e'
    · rename_i c
      rw [if_neg c] at z
      exact rs.inj k j d' _ a e' ho z ea
  have e2 : (σ.set j (some (.ref a))).set j (some (.ref a)) = σ := by
    rw [List.set_set]
    refine List.ext_getElem? fun n => ?_
    rw [getV_set]
    split
    · rename_i c
      rw [← c.1, ea]
    · rfl
  rw [e2, setS2] at rs3
  exact rs3
section
variable {X : Cx} {g : Pg} {W : WX} {e k a b f : Expr} {ie ik ia ib jf : IE} {pos : Pos}
theorem R.bind_assoc {α β γ : Type} (r : R α) (f : α → Or → R β) (h : β → Or → R γ) : (r.bind f).bind h = r.bind fun a o => (f a o).bind h := by cases r <;> rfl
/-! ### reads -/
theorem inD_read (hu : X.A.units + 1 < cLine) {op : O2} (hop : op = .inD ∨ op = .ninD) {σ : L2.St} {H : Hp} {Q : VK} (h : tI X.K g W (.op2 op ia ib) σ H Q) : if op = .inD then tDIn (tIB X.K g W ia) (tIB X.K g W ib) σ H Q else tDNotIn (tIB X.K g W ia) (tIB X.K g W ib) σ H Q := by
  obtain ⟨F, Av, ρ, o, rs, q⟩ := h
  rw [evE] at q
  have key : (tIB X.K g W ia) σ H fun y H1 => (tIB X.K g W ib) σ H1 fun x H2 => ∃ a o, x = .ref a ∧ DGet H2 a y o ∧ Q (.bl (if op = .inD then o.isSome else !o.isSome)) H2 := by
    refine ⟨F, Av, ρ, o, rs, q.bind.mono fun v H1 ⟨d, o1, e1, rs1, k1, r1, q1⟩ => ⟨F, Av, ρ, o1, rs1, q1.bind.mono fun u H2 ⟨d2, o2, e2, rs2, k2, r2, q2⟩ => ?_⟩⟩
    obtain ⟨z, hz, q3⟩ := goR_of q2
    have hin : ∃ b, inDO d d2 = some b ∧ z = .bool (if op = .inD then b else !b) := by
      rcases hop with rfl | rfl
      · simp only [op2] at hz
        cases t : inDO d d2 with
        | none => rw [t] at hz; simp at hz
        | some b => rw [t] at hz; simp only [Option.map_some, Option.some.injEq] at hz; exact ⟨b, rfl, by rw [if_pos rfl]; exact hz.symm⟩
      · simp only [op2] at hz
        cases t : inDO d d2 with
        | none => rw [t] at hz; simp at hz
        | some b => rw [t] at hz; simp only [Option.map_some, Option.some.injEq] at hz; exact ⟨b, rfl, by rw [if_neg (by decide)]; exact hz.symm⟩
    obtain ⟨b, hb, rfl⟩ := hin
    unfold inDO at hb
    split at hb
    · rename_i kds
      split at hb
      · rename_i hk
        simp only [Option.some.injEq] at hb
        obtain ⟨kk, rfl, hkd⟩ := keyD_of hk (RepB.cv rs1 k2 r1)
        obtain ⟨a, kvs, rfl, ha, rk⟩ := dic_of r2
        have hv := RepsK.val hkd rk
        have hs : (valV kvs kk).isSome = b := by
          rw [← hb]
          cases t : valD kds d with
          | none => rw [t] at hv; rw [hv]; rfl
          | some x => rw [t] at hv; obtain ⟨v, hv, _⟩ := hv; rw [hv]; rfl
        refine ⟨a, valV kvs kk, rfl, DGet.k ha, ?_⟩
        rw [hs]
        exact q3 _ H2 rs2 (Kw.refl _ _) (.bl _)
      · cases hb
    · cases hb
  rcases hop with rfl | rfl
  · rw [if_pos rfl]; exact key
  · rw [if_neg (by decide)]; exact key
theorem be_din (hu : X.A.units + 1 < cLine) (ha : BB X g W a ia) (hb : BB X g W b ib) (hm : behindInMarks .In b = false := by rfl) : BE X g W (.Compare a [.In] [b] pos) (.op2 .inD ia ib) :=
  peW (pe_cmp (pc_din hu ha hb) hm) fun _ _ _ h => by have := inD_read hu (.inl rfl) h; rwa [if_pos rfl] at this
theorem be_dnin (hu : X.A.units + 1 < cLine) (ha : BB X g W a ia) (hb : BB X g W b ib) (hm : behindInMarks .NotIn b = false := by rfl) : BE X g W (.Compare a [.NotIn] [b] pos) (.op2 .ninD ia ib) :=
  peW (pe_cmp (pc_dnotin hu ha hb) hm) fun _ _ _ h => by have := inD_read hu (.inr rfl) h; rwa [if_neg (by decide)] at this
theorem bt_ofI {op : O2} (hc : isCmp op = true) {tb : TE} {ex : Expr} (h : PT X ex (tB tb)) (w : ∀ σ H Q, tI X.K g W (.op2 op ia ib) σ H Q → tb σ H Q) : BT X g W ex (.op2 op ia ib) := by
  refine ptW h fun σ H Q ⟨F, Av, ρ, o, rs, q⟩ => ?_
  refine w _ _ _ ⟨F, Av, ρ, o, rs, (goR.testV q).mono fun v H1 ⟨d, o1, b, e1, rs1, k1, rp, t, q1⟩ => ?_⟩
  rw [evE] at e1
  have : ∃ b, d = .bool b := by
    cases q2 : evE g.C ia ρ o with
    | no => rw [q2] at e1; cases e1
    | exc _ _ _ => rw [q2] at e1; cases e1
    | ok d1 o1 =>
      rw [q2, R.bind_ok] at e1
      cases q3 : evE g.C ib ρ o1 with
      | no => rw [q3] at e1; cases e1
      | exc _ _ _ => rw [q3] at e1; cases e1
      | ok d2 o2 =>
        rw [q3, R.bind_ok] at e1
        cases q4 : op2 op d1 d2 with
        | none => rw [q4] at e1; cases e1
        | some z => rw [q4] at e1; cases e1; exact cmp_bool hc q4
  obtain ⟨b', rfl⟩ := this
  cases rp
  simp only [truth, Option.some.injEq] at t
  subst t
  exact ⟨_, rfl, q1 _ H1 rs1 (Kw.refl _ _) rfl⟩
theorem bt_din (hu : X.A.units + 1 < cLine) (ha : BB X g W a ia) (hb : BB X g W b ib) (hm : behindInMarks .In b = false := by rfl) : BT X g W (.Compare a [.In] [b] pos) (.op2 .inD ia ib) :=
  bt_ofI rfl (pt_cmp (pc_din hu ha hb) hm) fun _ _ _ h => by have := inD_read hu (.inl rfl) h; rwa [if_pos rfl] at this
theorem bt_dnin (hu : X.A.units + 1 < cLine) (ha : BB X g W a ia) (hb : BB X g W b ib) (hm : behindInMarks .NotIn b = false := by rfl) : BT X g W (.Compare a [.NotIn] [b] pos) (.op2 .ninD ia ib) :=
  bt_ofI rfl (pt_cmp (pc_dnotin hu ha hb) hm) fun _ _ _ h => by have := inD_read hu (.inr rfl) h; rwa [if_neg (by decide)] at this
/-- d[k] -/
theorem be_dix (hu : X.A.units + 1 < cLine) (ha : BB X g W a ia) (hb : BB X g W b ib) (hs : NoSl b := by intro _ _; rfl) : BE X g W (.Subscript a b pos) (.op2 .ixD ia ib) := by
  refine peW (pe_dget hu ha hb hs) fun σ H Q ⟨F, Av, ρ, o, rs, q⟩ => ?_
  rw [evE] at q
  refine ⟨F, Av, ρ, o, rs, q.bind.mono fun v H1 ⟨d, o1, e1, rs1, k1, r1, q1⟩ => ⟨F, Av, ρ, o1, rs1, q1.bind.mono fun u H2 ⟨d2, o2, e2, rs2, k2, r2, q2⟩ => ?_⟩⟩
  obtain ⟨z, hz, q3⟩ := goR_of q2
  simp only [op2] at hz
  unfold ixDO at hz
  split at hz
  · rename_i kds
    split at hz
    · rename_i hk
      obtain ⟨kk, rfl, hkd⟩ := keyD_of hk r2
      obtain ⟨a, kvs, rfl, ha', rk⟩ := dic_of (RepB.cv rs1 k2 r1)
      have hv := RepsK.val hkd rk
      rw [hz] at hv
      obtain ⟨w, hv, rw'⟩ := hv
      exact ⟨a, w, rfl, by rw [← hv]; exact DGet.k ha', q3 _ H2 rs2 (Kw.refl _ _) rw'⟩
    · cases hz
  · cases hz
/-- d.get(k, x) -/
theorem be_dget {apos cpos : Pos} (hu : X.A.units + 1 < cLine) (ha : BB X g W a ia) (hb : BE X g W b ib) (hf : BE X g W f jf) (m : M2 X a "get" apos b f cpos) : BE X g W (.Call (.Attribute a "get" apos) [b, f] [] cpos) (.mth .dget ia [ib, jf]) := by
  refine peW (pe_dget2 hu ha hb hf m) fun σ H Q ⟨F, Av, ρ, o, rs, q⟩ => ?_
  rw [evE] at q
  refine ⟨F, Av, ρ, o, rs, q.bind.mono fun v H1 ⟨d, o1, e1, rs1, k1, r1, q1⟩ => ?_⟩
  split at q1
  · rename_i hm
    cases d <;> simp only [mtOk, Bool.false_eq_true] at hm
    rename_i kds
    obtain ⟨a, kvs, rfl, ha', rk⟩ := dic_of r1
    refine ⟨a, rfl, ?_, F, Av, ρ, o1, rs1, ?_⟩
    · exact .inl ⟨kvs, .inl ha'⟩
    simp only [evEs, R.bind_ok, R.bind_assoc] at q1
    refine q1.bind.mono fun y H2 ⟨dk, o2, e2, rs2, k2, r2, q2⟩ => ⟨F, Av, ρ, o2, rs2, q2.bind.mono fun x H3 ⟨dx, o3, e3, rs3, k3, r3, q9⟩ => ?_⟩
    obtain ⟨z, hz, q10⟩ := goR_of q9
    simp only [mtF, un2] at hz
    split at hz
    · rename_i hk
      obtain ⟨kk, rfl, hkd⟩ := keyD_of hk (.inl (r2.cv (Cv.kw k3 rs2)))
      have rB : RepB X.K F.wa Av H3 (.ref a) (.dic kds) := RepB.cv rs1 (k2.trans k3) r1
      obtain ⟨a', kvs', ea, ha3, rk3⟩ := dic_of rB
      cases ea
      have hv := RepsK.val hkd rk3
      refine ⟨valV kvs' kk, DGet.k ha3, ?_⟩
      simp only [Option.some.injEq] at hz
      subst hz
      cases t : valD kds dk with
      | none => rw [t] at hv; rw [hv]; exact q10 _ H3 rs3 (Kw.refl _ _) (by rw [t]; exact r3)
      | some w => rw [t] at hv; obtain ⟨vv, hv, rv⟩ := hv; rw [hv]; exact q10 _ H3 rs3 (Kw.refl _ _) (by rw [t]; exact rv)
    · cases hz
  · exact q1.elim
/-! ### statements -/
theorem bs_dnew {j : Nat} {x : Str} {pos' : Pos} {dpos : Pos} (hN : X.N.Nodup) (hi : X.N[j]? = some x) (hx : Loc X.env.scope x) (hs : swapsWith (.Dict [] [] dpos) (some (.Name x pos')) pos.line X.env = pure false := by rfl)
    (hf : X.fn x = true ∨ X.env.scope.names.lookup x = some .local := by first | exact .inl rfl | exact .inr rfl | assumption) : BS X g W (.Assign [.Name x pos'] (.Dict [] [] dpos) pos) (.dNew j) := by
  refine psW (ps_set (i := j) hN hi hx pe_dnewK hs hf) fun D σ H ⟨F, Av, ρ, o, rs, q⟩ p hp => ?_
  rw [evSs_one, evS] at q
  obtain ⟨h0, nw⟩ := rs.h0 hp
  have rsa := rs.fresh (u := .dK []) hp
  refine q (Av1 Av p) _ _ (rsa.setOwn upd_same (.inr ⟨[], [], rfl, rfl, .nil⟩) (.inr rfl) nw h0 fun k d' e' z => absurd z (rs.nh hp k d' e')) (cv_av1 hp)
theorem bs_dset {j : Nat} {x : Str} {px tpos : Pos} (hu : X.A.units + 1 < cLine) (hi : X.N[j]? = some x) (hv : Vis X.env.scope x) (hk : BE X g W k ik) (he : BE X g W e ie) (hd : (x == ("__debug__" : Str)) = false := by decide) (hcd : (x == ("__classdict__" : Str)) = false := by decide)
    (hs : swapsWith e (some (.Subscript (.Name x px) k tpos)) pos.line X.env = pure false := by rfl) :
    BS X g W (.Assign [.Subscript (.Name x px) k tpos] e pos) (.dSet j ik ie) := by
  refine psW (ps_dput hu (pe_var (i := j) hi hv hd hcd) hk he hs) fun D σ H ⟨F, Av, ρ, o, rs, q⟩ => ?_
  rw [evSs_one, evS] at q
  refine ⟨F, Av, ρ, o, rs, (goR.out rs q).mono fun v H1 ⟨d, o1, e1, rs1, k1, r1, q1⟩ => ?_⟩
  cases ho : getS ρ j with
  | un => rw [ho] at q1; exact q1.elim
  | val d => rw [ho] at q1; exact q1.elim
  | own d0 =>
    rcases rs1.own' ho with ⟨a, vs, ds, ea, rfl, ha, r, av, nw⟩ | ⟨kds, rfl⟩
    · rw [ho] at q1; exact q1.elim
    rw [ho] at q1
    simp only at q1
    obtain ⟨a, kvs, ea, ha, rk, av, nw⟩ := rs1.ownD ho
    refine ⟨_, ea, F, Av, ρ, o1, rs1, (goR.out rs1 q1).mono fun kv H2 ⟨d2, o2, e2, rs2, k2, r2, q2⟩ => ?_⟩
    split at q2
    · rename_i hk2
      rw [Bool.and_eq_true, decide_eq_true_eq] at hk2
      obtain ⟨kk, rfl, hkd⟩ := keyD_of hk2.1 (.inl r2)
      obtain ⟨a', kvs', ea', ha', rk', av', nw'⟩ := rs2.ownD ho
      rw [ea] at ea'
      have : a = a' := by simpa using ea'
      subst this
      refine ⟨a, _, rfl, DPut.k ha' (by rw [rk'.len, ← cap_eq]; exact hk2.2), ?_⟩
      exact q2 Av σ _ (rs2.updOwnG ho ea av nw (.inr ⟨_, _, rfl, rfl, RepsK.put hkd (r1.cv (Cv.kw k2 rs1)) rk'⟩)) (cv_upd av)
    · exact q2.elim
end
end BV

end
/-! text: BV22.lean -/
section
set_option maxRecDepth 100000
set_option autoImplicit false
set_option maxHeartbeats 4000000
namespace BV
open PySem PySem.Spec PyProof.Rows L2
/-! ### every second of a tuple -/
theorem fm_shift {α : Type} (x : α) (xs : List α) (f : Nat → Nat) : ∀ n : Nat, (List.range n).filterMap (fun k => (x :: xs)[f k + 1]?) = (List.range n).filterMap fun k => xs[f k]? := fun n => fm_congr fun k _ => by simp
theorem range_ev {α : Type} : ∀ (xs : List α), (List.range ((xs.length + 1) / 2)).filterMap (fun k => xs[2 * k]?) = evens xs
  | [] => by simp [evens]
  | [x] => by simp [evens, List.range_succ]
  | x :: y :: r => by
    rw [evens, ← range_ev r, List.length_cons, List.length_cons, show (r.length + 1 + 1 + 1) / 2 = (r.length + 1) / 2 + 1 by omega, List.range_succ_eq_map, List.filterMap_cons]
    simp only [Nat.mul_zero, List.getElem?_cons_zero, List.filterMap_map]
    congr 1
theorem pick_ev0 (xs : Array Value) : pickS xs none none 2 = evens xs.toList := by
  have ea : Builtin.Slice.sliceAdjust none none 2 xs.size = (0, (xs.size : Int)) := rfl
  have ep : Builtin.Slice.slicePlaces 0 (xs.size : Int) 2 = (xs.toList.length + 1) / 2 := by
    unfold Builtin.Slice.slicePlaces
    rw [if_pos (by decide), Array.length_toList]
    by_cases h : (0 : Int) < xs.size
    · rw [if_pos h]; omega
    · rw [if_neg h]; omega
  unfold pickS
  rw [ea]
  simp only [ep]
  rw [← range_ev]
  refine fm_congr fun k hk => ?_
  rw [Array.getElem?_toList, show ((0 : Int) + (k : Int) * 2).toNat = 2 * k by omega]
theorem pick_ev1 (xs : Array Value) : pickS xs (some 1) none 2 = evens (xs.toList.drop 1) := by
  have ea : Builtin.Slice.sliceAdjust (some 1) none 2 xs.size = (min 1 (xs.size : Int), (xs.size : Int)) := rfl
  have ep : Builtin.Slice.slicePlaces (min 1 (xs.size : Int)) (xs.size : Int) 2 = ((xs.toList.drop 1).length + 1) / 2 := by
    unfold Builtin.Slice.slicePlaces
    rw [if_pos (by decide), List.length_drop, Array.length_toList]
    by_cases h : min 1 (xs.size : Int) < xs.size
    · rw [if_pos h]; omega
    · rw [if_neg h]; omega
  unfold pickS
  rw [ea]
  simp only [ep]
  rw [← range_ev]
  refine fm_congr fun k hk => ?_
  have := List.mem_range.mp hk
  rw [List.length_drop, Array.length_toList] at this
  rw [List.getElem?_drop, Array.getElem?_toList, show (min 1 (xs.size : Int) + (k : Int) * 2).toNat = 1 + 2 * k by omega]
theorem vals_evens : ∀ {vs : List V} {us : List Value}, Vals vs us → Vals (evens vs) (evens us)
  | _, _, .nil => .nil
  | _, _, .cons h .nil => .cons h .nil
  | _, _, .cons h (.cons _ t) => .cons h (vals_evens t)
theorem vals_drop1 : ∀ {vs : List V} {us : List Value}, Vals vs us → Vals (vs.drop 1) (us.drop 1)
  | _, _, .nil => .nil
  | _, _, .cons _ t => t
theorem reps_evens {K : PySem.W.Frag} {wa : Option Addr} {Av : Addr → Prop} {H : Hp} : ∀ {vs : List V} {ds : List D}, Reps K wa Av H vs ds → Reps K wa Av H (evens vs) (evens ds)
  | _, _, .nil => .nil
  | _, _, .cons h .nil => .cons h .nil
  | _, _, .cons h (.cons _ t) => .cons h (reps_evens t)
theorem evens_le {α : Type} : ∀ (xs : List α), (evens xs).length ≤ xs.length
  | [] => Nat.le_refl _
  | [x] => Nat.le_refl _
  | x :: y :: r => by have := evens_le r; simp only [evens, List.length_cons]; omega
section
variable {X : Cx} {g : Pg} {W : WX} {a e : Expr} {ia ie : IE} {pos p1 p2 p3 q1 : Pos} {k k' : Option Str}
theorem pe_stepP {el : Option Expr} {te : TE} {lo : Option Int} {ys : List V → List V} (hp : ∀ xs its, Vals xs its → Vals (ys xs) (pickS its.toArray lo none 2)) (hle : ∀ xs, (ys xs).length ≤ xs.length) (he : PE X e te)
    (hl : ∀ {pins : List (Addr × Obj)} {s : Shared} {σ : L2.St} {H : Hp}, Inv X pins σ H s → wpAny (model X.prog X.w) X.A (evalPart el X.env) (fun u s' => ∃ o H', Inv X pins σ H' s' ∧ IsPart u o ∧ o = lo ∧ H' = H) X.xe s) {j} :
    PE X (.Subscript e (.Slice el none (some (.Constant (.int 2) j p1)) p3) pos) (fun σ H Q => te σ H fun x H1 => ∃ a xs, x = .ref a ∧ SqT X.K H1 a xs ∧ ∀ p, H1 p = none → Q (.ref p) (upd H1 p (.tup (ys xs)))) := by
  refine ⟨fun pins s σ H Q I h => ?_⟩
  refine Subscript_ (thn (he.run pins s σ H _ I h) fun v s1 ⟨x, H1, I1, r1, q1⟩ => ?_)
  obtain ⟨a, xs, ex, hx, q⟩ := q1
  subst ex
  cases r1
  have hst : PO X (some (.Constant (.int 2) j p1)) (tPart (tC (.int 2))) := po_some pe_int
  refine wpAny_Slice (thn (hl I1) fun vl s2 ⟨l, H2, I2, pl, el', e2⟩ => ?_)
  subst el' e2
  refine thn (po_none.run pins s2 σ H2 (fun o H3 => o = none ∧ H3 = H2) I2 ⟨rfl, rfl⟩) fun vu s3 ⟨u, H3, I3, pu, eu, e3⟩ => ?_
  subst eu e3
  refine thn (hst.run pins s3 σ H3 (fun o H4 => o = some 2 ∧ H4 = H3) I3 ⟨2, rfl, rfl, rfl⟩) fun vs s4 ⟨o, H4, I4, ps, eo, e4⟩ => ?_
  subst eo e4
  have I5 : Inv X pins σ H4 { s4 with heap := s4.heap.push { cls := .type "slice", data := .fields #[vl, vu, vs] } } := I4.kept (t' := s4.toks) fun b ob q => Heap.get?_push_of_some _ q
  obtain ⟨its, r, ht, hz⟩ := I5.tuple hx
  have hpk := hp xs its r
  have hlen : (pickS its.toArray l none 2).length ≤ sizeLine := by rw [← hpk.length]; exact Nat.le_trans (hle xs) hz
  show wpAny (model X.prog X.w) X.A (subscriptTail e _ (.ref a) (.ref s4.heap.objs.size)) (EP X pins σ Q) X.xe _
  refine tail_any (ops := [.ref a, .ref s4.heap.objs.size]) ht.typeIs PyProof.Rows.slot_tuple_getitem.lookup ?_ (by with_unfolding_all rfl)
  refine getItem_step ht (Heap.IsSliceOf.new _ vl vu vs) pl pu ps (by decide) (by decide) hlen ?_
  refine ⟨.ref _, _, I5.laid (t' := s4.toks) (o := .tup (ys xs)) (fun b ob q => Heap.get?_push_of_some _ q) (Nat.le_refl _) ?_, rfl, q _ (I5.hok.fresh (Nat.le_refl _))⟩
  exact ⟨by rw [hpk.length]; exact hlen, _, hpk, ⟨_, Heap.get?_push_size _ rfl, rfl, 0, rfl⟩⟩
theorem part_1 {j} {pins : List (Addr × Obj)} {s : Shared} {σ : L2.St} {H : Hp} (I : Inv X pins σ H s) : wpAny (model X.prog X.w) X.A (evalPart (some (.Constant (.int 1) j q1)) X.env) (fun u s' => ∃ o H', Inv X pins σ H' s' ∧ IsPart u o ∧ o = some 1 ∧ H' = H) X.xe s :=
  (po_some pe_int).run pins s σ H (fun o H4 => o = some 1 ∧ H4 = H) I ⟨1, rfl, rfl, rfl⟩
theorem be_evG {b : Bi} {x : Expr} {ysV : List V → List V} {ysD : List D → List D} (hb : ∀ xs, biF b [.tup xs] = some (.tup (ysD xs))) (hr : ∀ {wa Av H} {vs : List V} {ds : List D}, Reps X.K wa Av H vs ds → Reps X.K wa Av H (ysV vs) (ysD ds)) (hn : ∀ d, (∀ xs, d ≠ .tup xs) → biF b [d] = none)
    (h : PE X x (fun σ H Q => tIB X.K g W ia σ H fun x H1 => ∃ a xs, x = .ref a ∧ SqT X.K H1 a xs ∧ ∀ p, H1 p = none → Q (.ref p) (upd H1 p (.tup (ysV xs))))) : BE X g W x (.bi b [ia]) := by
  refine peW h fun σ H Q ⟨F, Av, ρ, o, rs, q⟩ => ⟨F, Av, ρ, o, rs, ?_⟩
  rw [ev_one] at q
  refine q.bind.mono fun v H1 ⟨d, o1, e1, rs1, k1, r1, q1⟩ => ?_
  by_cases ht : ∃ xs, d = .tup xs
  · obtain ⟨xs, rfl⟩ := ht
    rw [hb] at q1
    obtain ⟨a, vs, rfl, h1, r2⟩ := r1.tup
    exact ⟨a, vs, rfl, h1.sq, fun p hp => q1 _ _ (rs1.alloc hp) (kw_alloc hp) (Rep.newTup rs1 hp (hr r2))⟩
  · rw [hn d fun xs z => ht ⟨xs, z⟩] at q1
    exact q1.elim
theorem be_ev0 {j} (ha : BB X g W a ia) : BE X g W (.Subscript a (.Slice none none (some (.Constant (.int 2) j p1)) p3) pos) (.bi .ev0 [ia]) :=
  be_evG (ysV := evens) (ysD := evens) (fun xs => rfl) reps_evens (fun d h => by cases d <;> first | rfl | exact absurd rfl (h _)) (pe_stepP (fun xs its r => by rw [pick_ev0]; exact vals_evens r) evens_le ha part_none)
theorem be_ev1 {j j'} (ha : BB X g W a ia) : BE X g W (.Subscript a (.Slice (some (.Constant (.int 1) j' q1)) none (some (.Constant (.int 2) j p1)) p3) pos) (.bi .ev1 [ia]) :=
  be_evG (ysV := fun xs => evens (xs.drop 1)) (ysD := fun xs => evens (xs.drop 1)) (fun xs => rfl) (fun r => reps_evens (r.drop 1)) (fun d h => by cases d <;> first | rfl | exact absurd rfl (h _)) (pe_stepP (fun xs its r => by rw [pick_ev1]; exact vals_evens (vals_drop1 r)) (fun xs => Nat.le_trans (evens_le _) (by simp)) ha part_1)
/-! ### a name of the module -/
theorem be_glob {x : Str} {v : V} {u : Value} {d : D} (hg : Gl X x) (hm : X.mg x = some u) (r : RelV v u) (rp : ∀ wa Av H, Rep X.K wa Av H v d) (hd : (x == ("__debug__" : Str)) = false := by decide) : BE X g W (.Name x pos) (.cst d) :=
  peW (pe_glob hg hm r hd) fun σ H Q ⟨F, Av, ρ, o, rs, q⟩ => q v H rs (Kw.refl _ _) (rp _ _ _)
/-! ### list(x) as a slot's own -/
theorem bf_list {x : Str} {p : Pos} (hg : Gl X x) (hm : X.mg x = none) (hv : bootBuiltins x = some (.type "list")) (ha : BB X g W e ie) (hn : x ≠ "__name__" := by decide) (hdb : (x == ("__debug__" : Str)) = false := by decide)
    (he : starEach (e :: []) X.env = (false, eval e X.env) :: starEach [] X.env := by rfl) (hpl : (backTo pos (starEach [] X.env)).any (·.1) = false := by rfl) : BF X g W (.Call (.Name x p) [e] [] pos) (.bi .list [ie]) := by
  refine peW (pe_callTy call_list_of hg hm hv (pa_cons ha pa_nil he) hn hdb he hpl) fun σ H Q ⟨F, Av, ρ, o, rs, q⟩ => ⟨F, Av, ρ, o, rs, ?_⟩
  rw [ev_one] at q
  cases e1 : evE g.C ie ρ o with
  | no => rw [e1] at q; exact q
  | exc c d o' => rw [e1] at q; exact q
  | ok d o' =>
    rw [e1] at q
    simp only [BV.R.bind_ok] at q
    intro v H1 rs1 k1 r1
    have nH : ∀ p : Addr, H1 p = none → H p = none := fun p hp => by
      by_cases n : F.wa = some p
      · exact absurd hp (rs1.there p (rs1.waav p n))
      · cases z : H p with
        | none => rfl
        | some u => rw [k1 p u n z] at hp; cases hp
    cases d with
    | tup ds =>
      obtain ⟨a, vs, rfl, h1, r2⟩ := r1.tup
      refine ⟨a, vs, rfl, .inr h1.sq, fun p hp => ?_⟩
      exact q _ _ p vs ds (rs1.alloc hp) (k1.trans (kw_alloc hp)) rfl rfl (nH p hp) upd_same (r2.cv (cv_av1 hp)) (rs1.fresh hp)
    | lst ds =>
      obtain ⟨a, vs, rfl, h1, r2⟩ := r1.lst
      refine ⟨a, vs, rfl, .inl h1, fun p hp => ?_⟩
      exact q _ _ p vs ds (rs1.alloc hp) (k1.trans (kw_alloc hp)) rfl rfl (nH p hp) upd_same (r2.cv (cv_av1 hp)) (rs1.fresh hp)
    | _ => exact q.elim
/-! ### a new list taken so often -/
theorem be_rep {b : Expr} {ib : IE} (ha : BF X g W a ia) (hb : BE X g W b ib) : BE X g W (.BinOp a .Mult b pos) (.op2 .rep ia ib) := by
  refine peW (pe_op op_rep ha hb) fun σ H Q ⟨F, Av, ρ, o, rs, q⟩ => ⟨F, Av, ρ, o, rs, ?_⟩
  rw [evE] at q
  cases e1 : evE g.C ia ρ o with
  | no => rw [e1] at q; exact q
  | exc c d o' => rw [e1] at q; exact q
  | ok d o' =>
    rw [e1] at q
    simp only [BV.R.bind_ok] at q
    rintro v H1 p vs ds rs1 k1 rfl rfl hp hv rp rsa
    refine ⟨F, Av, ρ, o', rs1, (goR.bind (q.later k1)).mono fun y H2 ⟨d2, o2, e2, rs2, k2, r2, q2⟩ => ?_⟩
    obtain ⟨z, hz, q3⟩ := goR_of q2
    simp only [op2] at hz
    cases d2 <;> simp only [mulLO, reduceCtorEq] at hz
    · rename_i k
      split at hz
      · rename_i hk
        rw [Bool.and_eq_true, Bool.and_eq_true, decide_eq_true_eq, decide_eq_true_eq, decide_eq_true_eq] at hk
        cases r2
        simp only [Option.some.injEq] at hz
        subst hz
        have nw : F.wa ≠ some p := fun n => rs.there p (rs.waav p n) hp
        have h2 := k2 p _ nw hv
        have rp2 : Reps X.K F.wa Av H2 vs ds := (rp.cv fun b u e n => ⟨e, fun z => n (.inl z)⟩).cv (Cv.kw k2 rs1)
        refine ⟨p, k, vs, rfl, rfl, h2, by omega, by omega, ?_, fun q hq => ?_⟩
        · rw [rp2.length, sizeLine_eq]
          have := Nat.mul_le_mul (show ds.length ≤ 1000 by omega) (show k.toNat ≤ 1000 by omega)
          omega
        · exact q3 _ _ (rs2.alloc hq) (kw_alloc hq) (Rep.newLst rs2 hq (rp2.rep k.toNat))
      · cases hz
end
end BV
namespace BV
open PySem PySem.Spec PyProof.Rows L2
/-- what stands at a name of the module -/
def GlobD (K : PySem.W.Frag) (mg : Str → Option Value) (x : Str) (d : D) : Prop := ∃ v u, mg x = some u ∧ RelV v u ∧ ∀ wa Av H, Rep K wa Av H v d
theorem globI {K : PySem.W.Frag} {mg : Str → Option Value} {x : Str} {i : Int} {t : Tok} (hm : mg x = some (.int i t)) : GlobD K mg x (.int i) := ⟨.int i, _, hm, ⟨t, rfl⟩, fun _ _ _ => .int i⟩
theorem globS {K : PySem.W.Frag} {mg : Str → Option Value} {x : Str} {y : Str} {s : List Nat} {t : Tok} (hm : mg x = some (.str y t)) (h : y = cps s) : GlobD K mg x (.str s) := by
  subst h
  exact ⟨.str (cps s), _, hm, ⟨t, rfl⟩, fun _ _ _ => .str s⟩
theorem globT {K : PySem.W.Frag} {mg : Str → Option Value} {x : Str} {a : Addr} {od : Option Addr} {n : Nat} {sl : Array (Option Value)} {its : Array Value} {ds : List D} {vs : List V} (hm : mg x = some (.ref a)) (hl : K.lookup a = some ⟨.type "tuple", od, .seq its n, sl⟩)
    (hv : Vals vs its.toList) (hr : ∀ wa Av H, Reps K wa Av H vs ds) (hs : its.size ≤ sizeLine) : GlobD K mg x (.tup ds) :=
  ⟨.ref a, _, hm, rfl, fun _ _ _ => .tup (.inr ⟨_, its, n, hl, rfl, rfl, hs, hv⟩) (hr _ _ _)⟩
theorem relS {y : Str} {s : List Nat} {t : Tok} (h : y = cps s) : RelV (.str (cps s)) (.str y t) := by subst h; exact ⟨t, rfl⟩
theorem be_globD {X : Cx} {g : Pg} {W : WX} {pos : Pos} {x : Str} {d : D} (hg : Gl X x) (h : GlobD X.K X.mg x d) (hd : (x == ("__debug__" : Str)) = false := by decide) : BE X g W (.Name x pos) (.cst d) := by
  obtain ⟨v, u, hm, r, rp⟩ := h
  exact be_glob hg hm r rp hd
theorem room2 {k : Nat} {A : Around} (r : L2.Room k A) : A.units + 1 < cLine := by have := r.un; omega
end BV

end
/-! text: BV23.lean -/
section
set_option maxRecDepth 100000
set_option autoImplicit false
set_option maxHeartbeats 4000000
namespace BV
open PySem PySem.Spec PyProof.Rows L2
/-! BV23: sorted(set(rows)), rows a list of tuples of ints -/
theorem cdR_eq : ∀ r : List Int, cdR r = TS.code 64 r
  | [] => rfl
  | d :: r => by rw [cdR, TS.code, cdR_eq r]
theorem bd_inj : ∀ (r q : List Int), r.length = q.length → TS.Bd 64 r → TS.Bd 64 q → cdR r = cdR q → r = q
  | [], [], _, _, _, _ => rfl
  | [], _ :: _, h, _, _, _ => by cases h
  | _ :: _, [], h, _, _, _ => by cases h
  | d :: r, e :: q, h, h1, h2, hc => by
    have hl : r.length = q.length := by simpa using h
    rw [cdR_eq, cdR_eq] at hc
    rcases Int.lt_trichotomy d e with g | g | g
    · have := TS.code_lt hl h1.tail h2.tail g; omega
    · subst g
      have hh : cdR r = cdR q := by
        rw [cdR_eq, cdR_eq]
        simp only [TS.code, hl] at hc
        omega
      rw [bd_inj r q hl h1.tail h2.tail hh]
    · have := TS.code_lt hl.symm h2.tail h1.tail g; omega
theorem insR_mem (x : List Int) : ∀ (l : List (List Int)) (k : List Int), (∀ y ∈ l, cdR x = cdR y → x = y) → (k ∈ insR x l ↔ k = x ∨ k ∈ l)
  | [], k, _ => by simp [insR]
  | y :: r, k, h => by
    unfold insR
    split
    · simp
    · split
      · rw [List.mem_cons, insR_mem x r k fun z hz => h z (List.mem_cons_of_mem _ hz), List.mem_cons]
        constructor
        · rintro (a | a | a) <;> simp [a]
        · rintro (a | a | a) <;> simp [a]
      · have e : x = y := h y List.mem_cons_self (by omega)
        subst e
        simp
theorem insR_up (x : List Int) : ∀ (l : List (List Int)), (∀ y ∈ l, cdR x = cdR y → x = y) → l.Pairwise (fun a b => cdR a < cdR b) → (insR x l).Pairwise (fun a b => cdR a < cdR b)
  | [], _, _ => by simp [insR]
  | y :: r, h, hp => by
    obtain ⟨h1, h2⟩ := List.pairwise_cons.mp hp
    have h' : ∀ z ∈ r, cdR x = cdR z → x = z := fun z hz => h z (List.mem_cons_of_mem _ hz)
    unfold insR
    split
    · rename_i c
      refine List.pairwise_cons.mpr ⟨fun z hz => ?_, hp⟩
      rcases List.mem_cons.mp hz with rfl | hz
      · exact c
      · have := h1 z hz; omega
    · split
      · rename_i c
        refine List.pairwise_cons.mpr ⟨fun z hz => ?_, insR_up x r h' h2⟩
        rcases (insR_mem x r z h').mp hz with rfl | hz
        · exact c
        · exact h1 z hz
      · exact hp
theorem ssetR_ok : ∀ (rs : List (List Int)), (∀ a ∈ rs, ∀ b ∈ rs, cdR a = cdR b → a = b) → (∀ k, k ∈ ssetR rs ↔ k ∈ rs) ∧ (ssetR rs).Pairwise (fun a b => cdR a < cdR b)
  | [], _ => ⟨fun k => by simp [ssetR], by simp [ssetR]⟩
  | r :: rs, h => by
    obtain ⟨h1, h2⟩ := ssetR_ok rs fun a ha b hb => h a (List.mem_cons_of_mem _ ha) b (List.mem_cons_of_mem _ hb)
    have hi : ∀ y ∈ rs.foldr insR [], cdR r = cdR y → r = y := fun y hy => h r List.mem_cons_self y (List.mem_cons_of_mem _ ((h1 y).mp hy))
    refine ⟨fun k => ?_, ?_⟩
    · show k ∈ insR r (rs.foldr insR []) ↔ _
      rw [insR_mem _ _ _ hi, show k ∈ rs.foldr insR [] ↔ k ∈ rs from h1 k, List.mem_cons]
    · exact insR_up _ _ hi h2
theorem upR_one : ∀ (a b : List (List Int)), a.Pairwise (fun a b => cdR a < cdR b) → b.Pairwise (fun a b => cdR a < cdR b) → (∀ k, k ∈ a ↔ k ∈ b) → a = b
  | [], [], _, _, _ => rfl
  | [], y :: b, _, _, h => by have := (h y).mpr (by simp); simp at this
  | x :: a, [], _, _, h => by have := (h x).mp (by simp); simp at this
  | x :: a, y :: b, ha, hb, h => by
    obtain ⟨a1, a2⟩ := List.pairwise_cons.mp ha
    obtain ⟨b1, b2⟩ := List.pairwise_cons.mp hb
    have hx := (h x).mp (by simp)
    have hy := (h y).mpr (by simp)
    have exy : x = y := by
      rcases List.mem_cons.mp hx with e | hx
      · exact e
      · rcases List.mem_cons.mp hy with e | hy
        · exact e.symm
        · have := a1 _ hy; have := b1 _ hx; omega
    subst exy
    congr 1
    refine upR_one a b a2 b2 fun k => ⟨fun hk => ?_, fun hk => ?_⟩
    · rcases List.mem_cons.mp ((h k).mp (by simp [hk])) with e | e
      · have := a1 k hk; rw [e] at this; omega
      · exact e
    · rcases List.mem_cons.mp ((h k).mpr (by simp [hk])) with e | e
      · have := b1 k hk; rw [e] at this; omega
      · exact e
theorem bdR_ok {k : Nat} {r : List Int} (h : bdR k r = true) : r.length = k ∧ TS.Bd 64 r := by
  simp only [bdR, Bool.and_eq_true, beq_iff_eq, List.all_eq_true, decide_eq_true_eq] at h
  exact h
theorem okR_ok {rs : List (List Int)} (h : okR rs = true) : ∃ d, ∀ r ∈ rs, r.length = d ∧ TS.Bd 64 r := by
  cases rs with
  | nil => exact ⟨0, fun r hr => nomatch hr⟩
  | cons x rs => exact ⟨x.length, fun r hr => bdR_ok (List.all_eq_true.mp h r hr)⟩
theorem okR_inj {rs : List (List Int)} (h : okR rs = true) : ∀ a ∈ rs, ∀ b ∈ rs, cdR a = cdR b → a = b := fun a ha b hb e => by
  obtain ⟨d, hd⟩ := okR_ok h
  obtain ⟨a1, a2⟩ := hd a ha
  obtain ⟨b1, b2⟩ := hd b hb
  exact bd_inj a b (a1.trans b1.symm) a2 b2 e
theorem ssetT1_some {rs : List (List Int)} {z : D} (h : ssetT1 rs = some z) : rs.length < 64 ∧ okR rs = true ∧ z = .lst ((ssetR rs).map fun r => .tup (r.map .int)) := by
  unfold ssetT1 at h
  split at h
  · rename_i hh; cases h; exact ⟨hh.1, hh.2, rfl⟩
  · cases h
/-- the rows, read -/
theorem rowsO_read {K : PySem.W.Frag} {wa : Option Addr} {Av : Addr → Prop} {H : Hp} : ∀ {vs : List V} {xs : List D} {rs : List (List Int)}, Reps K wa Av H vs xs → rowsO xs = some rs → ∃ ks : List (Addr × List Int), vs = (ks.map fun p => V.ref p.1) ∧ ks.map (·.2) = rs ∧ ∀ p ∈ ks, SqT K H p.1 (p.2.map V.int) ∧ Rep K wa Av H (.ref p.1) (.tup (p.2.map .int))
  | _, _, _, .nil, h => by cases h; exact ⟨[], rfl, rfl, fun p hp => nomatch hp⟩
  | _, x :: xs, rs, .cons r1 r2, h => by
    match x, h with
    | .tup ys, h =>
      rw [rowsO] at h
      cases hn : intsO ys with
      | none => rw [hn] at h; cases h
      | some ns =>
        rw [hn] at h
        simp only [Option.bind_some] at h
        cases hk : rowsO xs with
        | none => rw [hk] at h; cases h
        | some ms =>
          rw [hk] at h
          cases h
          obtain ⟨ks, rfl, h1, h2⟩ := rowsO_read r2 hk
          cases r1 with
          | tup ht rr =>
            rename_i a us
            rw [rr.ints hn] at ht
            have rr2 : Reps K wa Av H (ns.map V.int) (ns.map D.int) := reps_int _
            refine ⟨(a, ns) :: ks, rfl, by rw [List.map_cons, h1], fun p hp => ?_⟩
            rcases List.mem_cons.mp hp with rfl | hp
            · exact ⟨ht.sq, .tup ht rr2⟩
            · exact h2 p hp
section
variable {X : Cx} {g : Pg} {W : WX} {tg e a b : Expr} {es : List Expr} {ie ia ib : IE} {is : List IE} {pos p p2 pos2 : Pos}
/-- sorted of a set that has at most one member -/
def rSrt1 (P : Program) (w : World) : List V → Hp → VK → Prop := fun vs H Q => ∃ (a : Addr) (L : List (Addr × List Int)) , vs = [V.ref a] ∧ H a = some (SetTO P w a L) ∧ (∀ p ∈ L, SqT X.K H p.1 (p.2.map V.int)) ∧ (∀ p ∈ L, p.2 = []) ∧
  ∀ p, L.length < 2 → H p = none → Q (.ref p) (upd H p (.lst (L.map fun q => V.ref q.1)))
theorem c_srt1 (hc : X.calm = true) : CallR X (.builtin "sorted") (rSrt1 (X := X) X.prog X.w) := by
  intro pins s σ H vs us Q I r h
  obtain ⟨a, L, rfl, ha, hk, hL0, q⟩ := h
  have R0 : SetT0 X.prog X.w s.heap a L := (I.hok a _ ha).1
  obtain ⟨es, ep, t, R⟩ := R0.full fun p hp => I.isT (hk p hp)
  have hL : L.length < 2 := by
    match L, R.nd, hL0 with
    | [], _, _ => simp
    | [_], _, _ => simp
    | x :: y :: _, nd, h0 =>
      rw [List.map_cons, List.map_cons, h0 x (by simp), h0 y (by simp)] at nd
      simp at nd
  rw [Vals.ref1 r]
  obtain ⟨o, ho, hex, hd⟩ := R.ob
  have hsz := R.size
  have hfew := R.few
  refine Calls.call_function_entry kind_sorted plain_sorted entry_sorted (args_sorted1 _) ?_
  unfold Builtin.«sorted»
  refine wpAny_bind (m := checkCount "sorted" 1 1 _) (wpAny_pure ?_)
  refine wpAny_bind (collect_set (A := X.A.in1) (I.ok.hd hc) ⟨o, ho, hex.1, hd⟩ R.fits (by unfold scanBound; omega) R.tab.ris R.led fun s1 vs k1 hz g1 o1 pm => ?_)
  have hes : es.toList.map (·.2) = L.map fun q => Value.ref q.1 := by
    rw [R.rows]
    unfold rowsOf
    rw [List.map_map] <;> rfl
  rw [hes] at pm
  have hvs : vs = L.map fun q => Value.ref q.1 := by
    match L, hL, pm with
    | [], _, pm => exact List.Perm.eq_nil pm
    | [q], _, pm => exact List.perm_singleton.mp pm
    | _ :: _ :: _, h, _ => exact absurd h (by simp)
  subst hvs
  have hvl : (L.map fun q => Value.ref q.1).length ≤ sizeLine := by rw [List.length_map, sizeLine_eq]; omega
  refine wpAny_bind (wpAny_newList ?_ hvl)
  have hoL : (s1.heap.push (seqObj "list" (L.map fun q => Value.ref q.1).toArray 0)).get? s1.heap.objs.size = some (seqObj "list" (L.map fun q => Value.ref q.1).toArray 0) := Heap.get?_push_size _ rfl
  refine wpAny_bind (wpAny_holding (wpAny_call_entry slot_list_sort ⟨_, hoL, rfl⟩ entry_list_sort
    (SrtO.list_sort_ord (s := { s1 with heap := s1.heap.push (seqObj "list" (L.map fun q => Value.ref q.1).toArray 0) }) SrtO.swo_int hoL hvl (fun h2 => absurd h2 (by rw [List.length_map]; omega)) fun out h1 h2 => ⟨_, rfl, ?_⟩) (args_list_sort _)))
  have hout : out = L.map fun q => Value.ref q.1 := by
    have hp := h2.perm
    match L, hL, hp with
    | [], _, pm => exact List.Perm.eq_nil pm
    | [q], _, pm => exact List.perm_singleton.mp pm
    | _ :: _ :: _, h, _ => exact absurd h (by simp)
  subst hout
  obtain ⟨c, hc'⟩ := sortedHeap_at (vs := L.map fun q => Value.ref q.1) (out := (L.map fun q => Value.ref q.1).toArray) hoL
  have keep : ∀ b u, s.heap.get? b = some u → (sortedHeap (s1.heap.push (seqObj "list" (L.map fun q => Value.ref q.1).toArray 0)) s1.heap.objs.size (L.map fun q => Value.ref q.1) (L.map fun q => Value.ref q.1).toArray).get? b = some u := fun b u e => by
    have q := k1 b u e
    have hlt := Heap.lt_size q
    rw [sortedHeap_old (Nat.ne_of_lt hlt) (by rw [size_push']; exact Nat.lt_succ_of_lt hlt)]
    exact Heap.get?_push_of_some _ q
  have hn : H s1.heap.objs.size = none := I.hok.fresh hz
  obtain ⟨h', gn, d', tk', os'⟩ := s1
  obtain rfl : gn = s.gens := g1
  have hlen : (L.map fun q => V.ref q.1).length ≤ sizeLine := by rw [List.length_map, sizeLine_eq]; omega
  have J : Inv X pins σ (upd H h'.objs.size (.lst (L.map fun q => V.ref q.1))) { s with heap := sortedHeap (h'.push (seqObj "list" (L.map fun q => Value.ref q.1).toArray 0)) h'.objs.size (L.map fun q => Value.ref q.1) (L.map fun q => Value.ref q.1).toArray, gens := s.gens, drawn := d', toks := tk' } :=
    I.call (ch := []) (Un.laid keep hz hn) (I.hok.laid keep hz ⟨hlen, _, c, by simpa using vals_of_refs L, hc'⟩) I.bare (fun _ z => nomatch z)
  have e : os' = s.os := o1
  subst e
  exact wpAny_pure ⟨_, rfl, .ref h'.objs.size, _, J, rfl, q _ hL hn⟩
theorem callR_or {r1 r2 : List V → Hp → VK → Prop} {f : Value} (h1 : CallR X f r1) (h2 : CallR X f r2) : CallR X f (fun vs H Q => r1 vs H Q ∨ r2 vs H Q) := fun pins s σ H xs us Q I rv h => h.elim (h1 pins s σ H xs us Q I rv) (h2 pins s σ H xs us Q I rv)
theorem reps_of {K : PySem.W.Frag} {wa : Option Addr} {Av : Addr → Prop} {H : Hp} : ∀ (L : List (Addr × List Int)), (∀ p ∈ L, Rep K wa Av H (.ref p.1) (.tup (p.2.map .int))) → Reps K wa Av H (L.map fun q => V.ref q.1) (L.map fun q => D.tup (q.2.map .int))
  | [], _ => .nil
  | p :: L, h => .cons (h p List.mem_cons_self) (reps_of L fun q hq => h q (List.mem_cons_of_mem _ hq))
theorem ssetT_end {F : Fr} {Av : Addr → Prop} {ρ : Env} {o : Or} {σ : L2.St} {H : Hp} {rs : List (List Int)} {ks L L' : List (Addr × List Int)} {Q : VK} {u : HO} (r : RS X.K F Av ρ o σ H) (hok : okR rs = true) (hks : ks.map (·.2) = rs) (hrep : ∀ p ∈ ks, SqT X.K H p.1 (p.2.map V.int) ∧ Rep X.K F.wa Av H (.ref p.1) (.tup (p.2.map .int)))
    (hs : ∀ p ∈ L', p ∈ ks) (ha : ∀ p ∈ ks, p.2 ∈ L'.map (·.2)) (hp : (L'.map (·.2)).Pairwise (fun a b => cdR a < cdR b)) {p1 p2 : Addr} (h1 : H p1 = none) (h2 : upd H p1 u p2 = none)
    (q : ∀ w H', RS X.K F Av ρ o σ H' → Kw F.wa H H' → Rep X.K F.wa Av H' w (.lst ((ssetR rs).map fun r => .tup (r.map .int))) → Q w H') : Q (.ref p2) (upd (upd H p1 u) p2 (.lst (L'.map fun q => V.ref q.1))) := by
  obtain ⟨m1, m2⟩ := ssetR_ok rs (okR_inj hok)
  have e : L'.map (·.2) = ssetR rs := upR_one _ _ hp m2 fun k => by
    rw [m1, ← hks]
    constructor
    · intro hk
      obtain ⟨p, hp, rfl⟩ := List.mem_map.mp hk
      exact List.mem_map.mpr ⟨p, hs p hp, rfl⟩
    · intro hk
      obtain ⟨p, hp, rfl⟩ := List.mem_map.mp hk
      exact ha p hp
  have hr : Reps X.K F.wa Av (upd H p1 u) (L'.map fun q => V.ref q.1) (L'.map fun q => D.tup (q.2.map .int)) := reps_of L' fun p hp => (hrep p (hs p hp)).2.cv (cv_alloc h1)
  have e2 : (L'.map fun q => D.tup (q.2.map .int)) = (ssetR rs).map fun r => .tup (r.map .int) := by rw [← e, List.map_map]; rfl
  rw [e2] at hr
  exact q _ _ ((r.alloc h1).alloc h2) ((kw_alloc h1).trans (kw_alloc h2)) (Rep.newLst (r.alloc h1) h2 hr)
theorem be_ssetT (hu : X.A.units + 64 < cLine) (hc : X.calm = true) (hg : Gl X "sorted") (hm : X.mg "sorted" = none) (hv : bootBuiltins "sorted" = some (.builtin "sorted")) (hg2 : Gl X "set") (hm2 : X.mg "set" = none) (hv2 : bootBuiltins "set" = some (.type "set")) (ha : BAB X g W [e] is)
    (he : starEach [e] X.env = (false, eval e X.env) :: starEach [] X.env := by rfl) (he2 : starEach [.Call (.Name "set" p2) [e] [] pos2] X.env = (false, eval (.Call (.Name "set" p2) [e] [] pos2) X.env) :: starEach [] X.env := by rfl) :
    BE X g W (.Call (.Name "sorted" p) [.Call (.Name "set" p2) [e] [] pos2] [] pos) (.bi .ssetT is) :=
  peW (pe_callB (callR_or (cr_sortedT hc) (c_srt1 hc)) hg hm hv (pa_cons (pe_callTy (cr_setOfT hc hu) hg2 hm2 hv2 ha (by decide) (by decide) he rfl) pa_nil he2) (by decide) (by decide) he2 rfl) fun σ H Q h => by
    obtain ⟨F, Av, ρ, o, rs, q⟩ := bi_read h
    refine ⟨F, Av, ρ, o, rs, q.mono fun vs H1 ⟨F, Av, ρ, o, σ', ds, z, rs, rp, hz, q⟩ => ?_⟩
    obtain ⟨d, hds, hz2⟩ := rep1 (f := ssetTO) hz
    clear hz; subst hds; have hz := hz2; clear hz2
    obtain ⟨v, rfl, r1⟩ := prd1 rp
    unfold ssetTO at hz
    match d, hz, r1 with
    | .lst ys, hz, r1 =>
      simp only [lstO, Option.bind_some] at hz
      cases e2 : rowsO ys with
      | none => rw [e2] at hz; cases hz
      | some rw_ =>
        rw [e2] at hz
        obtain ⟨h64, hok, rfl⟩ := ssetT1_some hz
        obtain ⟨a, vs, rfl, hl, r2⟩ := r1.lst
        obtain ⟨ks, rfl, hks, hrep⟩ := rowsO_read r2 e2
        obtain ⟨dd, hd⟩ := okR_ok hok
        have hd' : ∀ p ∈ ks, p.2.length = dd ∧ TS.Bd 64 p.2 := fun p hp => hd p.2 (hks ▸ List.mem_map.mpr ⟨p, hp, rfl⟩)
        refine ⟨a, ks, rfl, hl, fun p hp => (hrep p hp).1, by rw [← hks, List.length_map] at h64; exact h64, fun p1 L hp1 hL1 hL2 => ?_⟩
        have hsq : ∀ p ∈ L, SqT X.K (upd H1 p1 (SetTO X.prog X.w p1 L)) p.1 (p.2.map V.int) := fun p hp => by
          have := ((hrep p (hL1 p hp)).2.cv (cv_alloc (u := SetTO X.prog X.w p1 L) hp1))
          cases this with
          | tup ht rr =>
            rename_i us
            rw [rr.ints (intsO_map p.2)] at ht
            exact ht.sq
        by_cases hz0 : dd = 0
        · refine .inr ⟨p1, L, rfl, upd_same, hsq, fun p hp => List.length_eq_zero_iff.mp ((hd' p (hL1 p hp)).1.trans hz0), fun p2 hL3 hp2 => ?_⟩
          have hnd : L.Pairwise fun a b => cdR a.2 < cdR b.2 := by
            match L, hL3 with
            | [], _ => exact List.Pairwise.nil
            | [_], _ => exact List.pairwise_singleton _ _
            | _ :: _ :: _, h => exact absurd h (by simp)
          exact ssetT_end (L := L) rs hok hks hrep hL1 hL2 (List.pairwise_map.mpr hnd) hp1 hp2 q
        · refine .inl ⟨p1, L, dd, 64, rfl, upd_same, hsq, by omega, fun p hp => hd' p (hL1 p hp), fun L' p2 pm nd _ pw hp2 => ?_⟩
          have hs' : ∀ p ∈ L', p ∈ ks := fun p hp => hL1 p (pm.mem_iff.mp hp)
          refine ssetT_end (L := L) rs hok hks hrep hs' (fun p hp => ?_) ?_ hp1 hp2 q
          · exact (pm.map (·.2)).mem_iff.mpr (hL2 p hp)
          · refine List.pairwise_map.mpr ?_
            have nd' := List.pairwise_map.mp nd
            refine List.Pairwise.imp_of_mem (fun {x y} hx hy hh => ?_) (List.Pairwise.and pw nd')
            obtain ⟨h1, h2⟩ := hh
            obtain ⟨x1, x2⟩ := hd' x (hs' x hx)
            obtain ⟨y1, y2⟩ := hd' y (hs' y hy)
            rw [← cdR_eq, ← cdR_eq] at h1
            have : cdR x.2 ≠ cdR y.2 := fun e => h2 (bd_inj _ _ (x1.trans y1.symm) x2 y2 e)
            omega
end
end BV

end
/-! text: BM.lean -/
section
set_option autoImplicit false
set_option maxRecDepth 100000
namespace BV
/-! BM: plain lemmas about the evaluator -/
def TI (ns : List Int) : D := .tup (ns.map .int)
def LI (ns : List Int) : D := .lst (ns.map .int)
theorem evSs_nil' (C : Nat → List D → Or → R D) (ρ : Env) (o : Or) : evSs C [] ρ o = .nx ρ o := by rw [evSs]
theorem evSs_cons' (C : Nat → List D → Or → R D) (s : IS) (r : List IS) (ρ : Env) (o : Or) : evSs C (s :: r) ρ o = (evS C s ρ o).then fun ρ o => evSs C r ρ o := by rw [evSs]
theorem stp {C : Nat → List D → Or → R D} {s : IS} {r : List IS} {ρ ρ1 : Env} {o o1 : Or} {z : Out} (h : evS C s ρ o = .nx ρ1 o1) (h2 : evSs C r ρ1 o1 = z) : evSs C (s :: r) ρ o = z := by rw [evSs_cons', h]; exact h2
theorem stR {C : Nat → List D → Or → R D} {s : IS} {r : List IS} {ρ : Env} {o o1 : Or} {d : D} (h : evS C s ρ o = .rt d o1) : evSs C (s :: r) ρ o = .rt d o1 := by rw [evSs_cons', h]; rfl
/-- a call, by its body -/
theorem call_rt {T : Nat → Fn} {k f n : Nat} {b : List IS} {xs : List D} {o o1 : Or} {d : D} (hf : T f = ⟨xs.length, n, b⟩) (h : evSs (callN T k) b (startS n xs) o = .rt d o1) : callN T (k + 1) f xs o = .ok d o1 := by
  rw [callN, hf, if_pos rfl, h]; rfl
theorem intsO_m : ∀ (ns : List Int), intsO (ns.map D.int) = some ns
  | [] => rfl
  | n :: ns => by simp [intsO, intsO_m ns]
theorem boolsO_m : ∀ (ns : List Bool), boolsO (ns.map D.bool) = some ns
  | [] => rfl
  | n :: ns => by simp [boolsO, boolsO_m ns]
theorem upto_eq : ∀ (n : Nat) (lo : Int), upto lo n = (List.range n).map fun k : Nat => D.int (lo + k)
  | 0, lo => rfl
  | n + 1, lo => by
    rw [upto, upto_eq n, List.range_succ_eq_map, List.map_cons, List.map_map]
    congr 1
    · simp
    · refine List.map_congr_left fun k _ => ?_
      simp only [Function.comp, D.int.injEq]
      omega
/-- 0 .. n-1 -/
def RI (n : Nat) : List D := (List.range n).map fun k : Nat => D.int k
theorem RI_len (n : Nat) : (RI n).length = n := by simp [RI]
theorem mem_RI {n : Nat} {x : D} (h : x ∈ RI n) : ∃ k : Nat, k < n ∧ x = .int k := by
  simp only [RI, List.mem_map, List.mem_range] at h
  obtain ⟨k, hk, rfl⟩ := h
  exact ⟨k, hk, rfl⟩
theorem rangeO_nat {n : Int} (h0 : 0 ≤ n) (h : n ≤ cap) : rangeO 0 n = some (.lst (RI n.toNat)) := by
  have h' : n ≤ 16777216 := h
  unfold rangeO
  rw [if_pos (by refine ⟨by omega, by omega, by omega, by omega, by show (n - 0).toNat ≤ 16777216; omega⟩), upto_eq]
  congr 2
  rw [RI, show (n - 0).toNat = n.toNat by omega]
  exact List.map_congr_left fun k _ => by simp
theorem rangeO_neg {n : Int} (h0 : n ≤ 0) (h : -(2 ^ 62) ≤ n) : rangeO 0 n = some (.lst []) := by
  unfold rangeO
  rw [if_pos (by refine ⟨by omega, by omega, by omega, by omega, by show (n - 0).toNat ≤ 16777216; omega⟩), show (n - 0).toNat = 0 by omega]
  rfl
theorem rangeO_two {lo hi : Int} (h : -(2 ^ 62) ≤ lo) (h1 : hi < 2 ^ 62) (h2 : lo < 2 ^ 62) (h3 : -(2 ^ 62) ≤ hi) (h4 : hi - lo ≤ cap) : rangeO lo hi = some (.lst ((List.range (hi - lo).toNat).map fun k : Nat => D.int (lo + k))) := by
  have h' : hi - lo ≤ 16777216 := h4
  unfold rangeO
  rw [if_pos (by refine ⟨by omega, by omega, by omega, by omega, by show (hi - lo).toNat ≤ 16777216; omega⟩), upto_eq]
/-- a comprehension that draws nothing -/
theorem compM_fm {f : D → Or → R (Option D)} {g : D → Option D} {o : Or} : ∀ {xs : List D}, (∀ x ∈ xs, f x o = .ok (g x) o) → compM f xs o = .ok (xs.filterMap g) o
  | [], _ => rfl
  | x :: xs, h => by
    rw [compM, h x (by simp), R.bind_ok, compM_fm fun y hy => h y (by simp [hy]), R.bind_ok, List.filterMap_cons]
    cases g x <;> rfl
theorem compM_map {f : D → Or → R (Option D)} {g : D → D} {o : Or} {xs : List D} (h : ∀ x ∈ xs, f x o = .ok (some (g x)) o) : compM f xs o = .ok (xs.map g) o := by
  rw [compM_fm (g := fun x => some (g x)) h, List.filterMap_eq_map']
/-- over 0 .. n-1 -/
theorem compM_RI {f : D → Or → R (Option D)} {g : Nat → D} {o : Or} {n : Nat} (h : ∀ k < n, f (.int k) o = .ok (some (g k)) o) : compM f (RI n) o = .ok ((List.range n).map g) o := by
  have : ∀ m ≤ n, ∀ ks : List Nat, (∀ k ∈ ks, k < n) → compM f (ks.map fun k : Nat => D.int k) o = .ok (ks.map g) o := by
    intro _ _ ks
    induction ks with
    | nil => intro _; rfl
    | cons k ks ih => intro hk; rw [List.map_cons, compM, h k (hk k (by simp)), R.bind_ok, ih fun j hj => hk j (by simp [hj]), R.bind_ok, List.map_cons]
  exact this 0 (Nat.zero_le _) _ fun k hk => List.mem_range.mp hk
theorem compM_RIf {f : D → Or → R (Option D)} {g : Nat → Option D} {o : Or} {n : Nat} (h : ∀ k < n, f (.int k) o = .ok (g k) o) : compM f (RI n) o = .ok ((List.range n).filterMap g) o := by
  have : ∀ ks : List Nat, (∀ k ∈ ks, k < n) → compM f (ks.map fun k : Nat => D.int k) o = .ok (ks.filterMap g) o := by
    intro ks
    induction ks with
    | nil => intro _; rfl
    | cons k ks ih =>
      intro hk
      rw [List.map_cons, compM, h k (hk k (by simp)), R.bind_ok, ih fun j hj => hk j (by simp [hj]), R.bind_ok, List.filterMap_cons]
      cases g k <;> rfl
  exact this _ fun k hk => List.mem_range.mp hk
/-- the places where p holds -/
theorem compM_RIp {f : D → Or → R (Option D)} {p : Nat → Bool} {o : Or} {n : Nat} (h : ∀ k < n, f (.int k) o = .ok (if p k then some (.int k) else none) o) : compM f (RI n) o = .ok (((List.range n).filter p).map fun k : Nat => D.int k) o := by
  rw [compM_RIf h]
  congr 1
  induction List.range n with
  | nil => rfl
  | cons k ks ih =>
    rw [List.filterMap_cons, List.filter_cons]
    cases p k <;> simp [ih]
/-- a comprehension that draws -/
theorem compM_draw {f : D → Or → R (Option D)} {P : D → Prop} : ∀ {xs : List D}, (∀ x ∈ xs, ∀ o, ∃ y o', f x o = .ok (some y) o' ∧ P y) → ∀ o, ∃ ys o', compM f xs o = .ok ys o' ∧ ys.length = xs.length ∧ ∀ y ∈ ys, P y
  | [], _, o => ⟨[], o, rfl, rfl, by simp⟩
  | x :: xs, h, o => by
    obtain ⟨y, o1, e, hy⟩ := h x (by simp) o
    obtain ⟨ys, o2, e2, hl, hp⟩ := compM_draw (xs := xs) (fun z hz => h z (by simp [hz])) o1
    refine ⟨y :: ys, o2, ?_, by simp [hl], by simpa using ⟨hy, hp⟩⟩
    rw [compM, e, R.bind_ok, e2, R.bind_ok]
theorem ints_of {P : Int → Prop} : ∀ {ys : List D}, (∀ y ∈ ys, ∃ n, y = .int n ∧ P n) → ∃ ns : List Int, ys = ns.map .int ∧ ∀ n ∈ ns, P n
  | [], _ => ⟨[], rfl, by simp⟩
  | y :: ys, h => by
    obtain ⟨n, rfl, hn⟩ := h y (by simp)
    obtain ⟨ns, rfl, hp⟩ := ints_of (ys := ys) fun z hz => h z (by simp [hz])
    exact ⟨n :: ns, rfl, by simpa using ⟨hn, hp⟩⟩
theorem compM_drawI {f : D → Or → R (Option D)} {P : Int → Prop} {xs : List D} (h : ∀ x ∈ xs, ∀ o, ∃ n o', f x o = .ok (some (.int n)) o' ∧ P n) (o : Or) : ∃ (ns : List Int) (o' : Or), compM f xs o = .ok (ns.map .int) o' ∧ ns.length = xs.length ∧ ∀ n ∈ ns, P n := by
  obtain ⟨ys, o', e, hl, hp⟩ := compM_draw (P := fun y => ∃ n, y = .int n ∧ P n) (fun x hx o => let ⟨n, o', e, hn⟩ := h x hx o; ⟨_, o', e, n, rfl, hn⟩) o
  obtain ⟨ns, rfl, hn⟩ := ints_of hp
  exact ⟨ns, o', e, by simpa using hl, hn⟩
/-- a loop -/
theorem forM_inv {f : D → Env → Or → Out} {I : List D → Env → Or → Prop} : ∀ {xs : List D}, (∀ x r ρ o, I (x :: r) ρ o → (∃ ρ' o', (f x ρ o = .nx ρ' o' ∨ f x ρ o = .ct ρ' o') ∧ I r ρ' o')) → ∀ {ρ o}, I xs ρ o → ∃ ρ' o', forM f xs ρ o = .nx ρ' o' ∧ I [] ρ' o'
  | [], _, ρ, o, i => ⟨ρ, o, rfl, i⟩
  | x :: xs, h, ρ, o, i => by
    obtain ⟨ρ1, o1, e, i1⟩ := h x xs ρ o i
    obtain ⟨ρ2, o2, e2, i2⟩ := forM_inv (xs := xs) h i1
    refine ⟨ρ2, o2, ?_, i2⟩
    rcases e with e | e <;> rw [forM, e] <;> exact e2
theorem forM_ni {f : D → Env → Or → Out} : ∀ {n : Nat} {g : Nat → D} {I : Nat → Env → Or → Prop} {ρ o}, (∀ k < n, ∀ ρ o, I k ρ o → ∃ ρ' o', (f (g k) ρ o = .nx ρ' o' ∨ f (g k) ρ o = .ct ρ' o') ∧ I (k + 1) ρ' o') → I 0 ρ o → ∃ ρ' o', forM f ((List.range n).map g) ρ o = .nx ρ' o' ∧ I n ρ' o'
  | 0, g, I, ρ, o, _, i => ⟨ρ, o, rfl, i⟩
  | n + 1, g, I, ρ, o, h, i => by
    obtain ⟨ρ1, o1, e, i1⟩ := h 0 (by omega) ρ o i
    obtain ⟨ρ2, o2, e2, i2⟩ := forM_ni (n := n) (g := fun k => g (k + 1)) (I := fun k => I (k + 1)) (fun k hk ρ o i => h (k + 1) (by omega) ρ o i) i1
    refine ⟨ρ2, o2, ?_, i2⟩
    rw [List.range_succ_eq_map, List.map_cons, List.map_map]
    rcases e with e | e <;> rw [forM, e] <;> exact e2
theorem forM_RI {f : D → Env → Or → Out} {n : Nat} {I : Nat → Env → Or → Prop} {ρ o} (h : ∀ k < n, ∀ ρ o, I k ρ o → ∃ ρ' o', (f (.int k) ρ o = .nx ρ' o' ∨ f (.int k) ρ o = .ct ρ' o') ∧ I (k + 1) ρ' o') (i : I 0 ρ o) : ∃ ρ' o', forM f (RI n) ρ o = .nx ρ' o' ∧ I n ρ' o' := forM_ni (g := fun k : Nat => D.int k) h i
/-! equality -/
mutual
theorem eqD_refl : ∀ d : D, okN 60 d = true → eqD d d = true := fun d h => eqD_refl' 60 d h
theorem eqD_refl' : ∀ (n : Nat) (d : D), okN n d = true → eqD d d = true
  | _, .non, _ => rfl
  | _, .bool _, _ => by simp [eqD]
  | _, .int _, _ => by simp [eqD]
  | _, .str _, _ => by simp [eqD]
  | n + 1, .tup xs, h => by
    simp only [okN, List.all_eq_true] at h
    exact eqDs_refl n xs h
  | n + 1, .lst xs, h => by
    simp only [okN, List.all_eq_true] at h
    exact eqDs_refl n xs h
  | 0, .tup _, h => by simp [okN] at h
  | 0, .lst _, h => by simp [okN] at h
  | n, .dic _, h => by simp [okN] at h
  | n, .tok, h => by simp [okN] at h
theorem eqDs_refl : ∀ (n : Nat) (xs : List D), (∀ x ∈ xs, okN n x = true) → eqDs xs xs = true
  | _, [], _ => rfl
  | n, x :: xs, h => by
    rw [eqDs, eqD_refl' n x (h x (by simp)), eqDs_refl n xs fun y hy => h y (by simp [hy])]
    rfl
end
theorem eqDs_ints : ∀ a b : List Int, eqDs (a.map D.int) (b.map D.int) = decide (a = b)
  | [], [] => rfl
  | [], _ :: _ => rfl
  | _ :: _, [] => rfl
  | x :: a, y :: b => by
    rw [List.map_cons, List.map_cons, eqDs, eqD, eqDs_ints a b]
    by_cases h : x = y <;> simp [h]
theorem ok_ints (n : Nat) (a : List Int) : (a.map D.int).all (okN n) = true := by
  simp only [List.all_eq_true, List.mem_map]
  rintro x ⟨i, _, rfl⟩
  simp [okN]
theorem eqO_TI (a b : List Int) : eqO (TI a) (TI b) = some (decide (a = b)) := by
  simp only [eqO, TI, scalD, Bool.false_eq_true, if_false, okN, ok_ints, Bool.and_self, if_true, eqD, eqDs_ints]
theorem eqO_LI (a b : List Int) : eqO (LI a) (LI b) = some (decide (a = b)) := by
  simp only [eqO, LI, scalD, Bool.false_eq_true, if_false, okN, ok_ints, Bool.and_self, if_true, eqD, eqDs_ints]
theorem eqO_int (a b : Int) : eqO (.int a) (.int b) = some (decide (a = b)) := by
  rw [eqO, scalD, if_pos rfl, eqD]
  by_cases h : a = b <;> simp [h]
/-- a list beside the empty list -/
theorem eqO_nilL {xs : List D} (h : xs.all (okN 59) = true) : eqO (.lst xs) (.lst []) = some xs.isEmpty := by
  simp only [eqO, scalD, Bool.false_eq_true, if_false, okN, h, List.all_nil, Bool.and_self, if_true, eqD]
  cases xs <;> rfl
theorem eqO_nilT {xs : List D} (h : xs.all (okN 59) = true) : eqO (.tup xs) (.tup []) = some xs.isEmpty := by
  simp only [eqO, scalD, Bool.false_eq_true, if_false, okN, h, List.all_nil, Bool.and_self, if_true, eqD]
  cases xs <;> rfl
theorem eqO_nn : eqO (.lst []) (.lst []) = some true := eqO_nilL (by simp)
theorem ok_nats (n : Nat) (ks : List Nat) : (ks.map fun k : Nat => D.int k).all (okN n) = true := by
  simp only [List.all_eq_true, List.mem_map]
  rintro x ⟨i, _, rfl⟩
  simp [okN]
/-! places -/
theorem atI_nat' {α : Type} (xs : List α) (k : Nat) (h : k < xs.length) : atI xs (k : Int) = some xs[k] := by
  rw [atI, ixN, if_pos (by omega), if_pos (by omega), Option.bind_some, Int.toNat_natCast, List.getElem?_eq_getElem h]
theorem atI_toNat {α : Type} (xs : List α) (i : Int) (h0 : 0 ≤ i) (h : i < xs.length) : atI xs i = some (xs[i.toNat]'(by omega)) := by
  rw [atI, ixN, if_pos (by omega), if_pos (by omega), Option.bind_some, List.getElem?_eq_getElem]
/-! operators by the kinds of their operands -/
section
variable (a b : Int) (xs ys : List D) (o : Or) (ρ : Env)
theorem op2_add_int : op2 .add (.int a) (.int b) = some (.int (a + b)) := rfl
theorem op2_sub_int : op2 .sub (.int a) (.int b) = some (.int (a - b)) := rfl
theorem op2_lt_int : op2 .lt (.int a) (.int b) = some (.bool (decide (a < b))) := rfl
theorem op2_le_int : op2 .le (.int a) (.int b) = some (.bool (decide (a ≤ b))) := rfl
theorem op2_gt_int : op2 .gt (.int a) (.int b) = some (.bool (decide (b < a))) := rfl
theorem op2_ge_int : op2 .ge (.int a) (.int b) = some (.bool (decide (b ≤ a))) := rfl
theorem op2_is_non (x : D) : op2 .is x .non = some (.bool (isNon x)) := rfl
theorem op2_isNot_non (x : D) : op2 .isNot x .non = some (.bool (!isNon x)) := rfl
theorem op2_ix_tup : op2 .ix (.tup xs) (.int a) = atI xs a := rfl
theorem op2_ix_lst : op2 .ix (.lst xs) (.int a) = atI xs a := rfl
theorem op2_eq {x y : D} {c : Bool} (h : eqO x y = some c) : op2 .eq x y = some (.bool c) := by rw [op2, h]; rfl
theorem op2_ne {x y : D} {c : Bool} (h : eqO x y = some c) : op2 .ne x y = some (.bool (!c)) := by rw [op2, h]; rfl
theorem op2_eq_int : op2 .eq (.int a) (.int b) = some (.bool (decide (a = b))) := op2_eq (eqO_int a b)
theorem op2_ne_int : op2 .ne (.int a) (.int b) = some (.bool (!decide (a = b))) := op2_ne (eqO_int a b)
theorem op2_eq_TI (u v : List Int) : op2 .eq (TI u) (TI v) = some (.bool (decide (u = v))) := op2_eq (eqO_TI u v)
theorem op2_ne_TI (u v : List Int) : op2 .ne (TI u) (TI v) = some (.bool (!decide (u = v))) := op2_ne (eqO_TI u v)
theorem op2_mul_int {a b : Int} (h : mulOk a b = true) : op2 .mul (.int a) (.int b) = some (.int (a * b)) := by show (if mulOk a b = true then some (D.int (a * b)) else none) = _; rw [if_pos h]
theorem op2_mod_int {a b : Int} (h : 0 < b) : op2 .mod (.int a) (.int b) = some (.int (a % b)) := by show (if 0 < b then some (D.int (a % b)) else none) = _; rw [if_pos h]
theorem op2_fdiv_int {a b : Int} (h : 0 < b) (h2 : b < 1073741824) : op2 .fdiv (.int a) (.int b) = some (.int (a / b)) := by show (if 0 < b ∧ b < 1073741824 then some (D.int (a / b)) else none) = _; rw [if_pos ⟨h, h2⟩]
theorem op2_add_tup {xs ys : List D} (h : xs.length + ys.length ≤ cap) : op2 .add (.tup xs) (.tup ys) = some (.tup (xs ++ ys)) := by show (if xs.length + ys.length ≤ cap then some (D.tup (xs ++ ys)) else none) = _; rw [if_pos h]
theorem op2_add_lst {xs ys : List D} (h : xs.length + ys.length ≤ cap) : op2 .add (.lst xs) (.lst ys) = some (.lst (xs ++ ys)) := by show (if xs.length + ys.length ≤ cap then some (D.lst (xs ++ ys)) else none) = _; rw [if_pos h]
theorem op2_mul_tup {xs : List D} {k : Int} (h : repOk xs.length k = true) : op2 .mul (.tup xs) (.int k) = some (.tup (rep xs k.toNat)) := by show (if repOk xs.length k = true then some (D.tup (rep xs k.toNat)) else none) = _; rw [if_pos h]
theorem op1_not {x : D} {c : Bool} (h : truth x = some c) : op1 .not x = some (.bool (!c)) := by rw [op1, h]; rfl
theorem op1_not_b (c : Bool) : op1 .not (.bool c) = some (.bool (!c)) := rfl
theorem op1_neg_int : op1 .neg (.int a) = some (.int (-a)) := rfl
theorem op1_chkI : op1 .chkI (.int a) = some (.int a) := rfl
theorem isNon_int : isNon (.int a) = false := rfl
theorem isNon_non : isNon .non = true := rfl
theorem isNon_tup : isNon (.tup xs) = false := rfl
theorem isNon_lst : isNon (.lst xs) = false := rfl
theorem bi_len_tup : biF .len [.tup xs] = some (.int xs.length) := rfl
theorem bi_len_lst : biF .len [.lst xs] = some (.int xs.length) := rfl
theorem bi_int : biF .int [.int a] = some (.int a) := rfl
theorem bi_abs : biF .abs [.int a] = some (.int (if a < 0 then -a else a)) := rfl
theorem bi_tuple_lst : biF .tuple [.lst xs] = some (.tup xs) := rfl
theorem bi_tuple_tup : biF .tuple [.tup xs] = some (.tup xs) := rfl
theorem bi_list_tup : biF .list [.tup xs] = some (.lst xs) := rfl
theorem bi_rng1 : biF .range [.int a] = rangeO 0 a := rfl
theorem bi_rng2 : biF .range [.int a, .int b] = rangeO a b := rfl
theorem bi_sum_tup (ns : List Int) : biF .sum [.tup (ns.map .int)] = some (.int ns.sum) := by show ((intsO (ns.map D.int)).map fun ns : List Int => D.int ns.sum) = _; rw [intsO_m]; rfl
theorem bi_sum_lst (ns : List Int) : biF .sum [.lst (ns.map .int)] = some (.int ns.sum) := by show ((intsO (ns.map D.int)).map fun ns : List Int => D.int ns.sum) = _; rw [intsO_m]; rfl
theorem bi_all (bs : List Bool) : biF .all [.lst (bs.map .bool)] = some (.bool (bs.all id)) := by show ((boolsO (bs.map D.bool)).map fun bs : List Bool => D.bool (bs.all id)) = _; rw [boolsO_m]; rfl
theorem bi_any (bs : List Bool) : biF .any [.lst (bs.map .bool)] = some (.bool (bs.any id)) := by show ((boolsO (bs.map D.bool)).map fun bs : List Bool => D.bool (bs.any id)) = _; rw [boolsO_m]; rfl
theorem bi_min (n : Int) (ns : List Int) : biF .min1 [.lst ((n :: ns).map .int)] = some (.int (minL (n :: ns))) := by show (minIs (intsO ((n :: ns).map D.int))).or _ = _; rw [intsO_m]; rfl
theorem bi_max (n : Int) (ns : List Int) : biF .max1 [.lst ((n :: ns).map .int)] = some (.int (maxL (n :: ns))) := by show (maxIs (intsO ((n :: ns).map D.int))).or _ = _; rw [intsO_m]; rfl
theorem bi_isT {t : Ty} {x : D} {c : Bool} (h : isTy t x = some c) : biF (.isT t) [x] = some (.bool c) := by show (isTy t x).map D.bool = _; rw [h]; rfl
theorem test_bool {α : Type} (c : Bool) (f : Bool → D → Or → R α) : (R.ok (.bool c) o).test f = f c (.bool c) o := rfl
theorem test_int {α : Type} (f : Bool → D → Or → R α) : (R.ok (.int a) o).test f = f (a != 0) (.int a) o := rfl
theorem setS_setS : ∀ (ρ : Env) (i : Nat) (x y : Sl), setS (setS ρ i x) i y = setS ρ i y
  | [], _, _, _ => rfl
  | _ :: _, 0, _, _ => rfl
  | _ :: r, i + 1, x, y => by rw [setS, setS, setS, setS_setS r]
theorem getS_set_eq : ∀ (ρ : Env) (i : Nat) (x : Sl), i < ρ.length → getS (setS ρ i x) i = x
  | [], _, _, h => by simp at h
  | _ :: _, 0, _, _ => rfl
  | _ :: r, i + 1, x, h => by rw [setS, getS, getS_set_eq r i x (by simpa using h)]
theorem getS_set_ne : ∀ (ρ : Env) (i j : Nat) (x : Sl), i ≠ j → getS (setS ρ i x) j = getS ρ j
  | [], _, _, _, _ => rfl
  | _ :: _, 0, 0, _, h => absurd rfl h
  | _ :: _, 0, _ + 1, _, _ => rfl
  | _ :: _, _ + 1, 0, _, _ => rfl
  | _ :: r, i + 1, j + 1, x, h => by rw [setS, getS, getS, getS_set_ne r i j x fun e => h (by rw [e])]
theorem setS_len' : ∀ (ρ : Env) (i : Nat) (x : Sl), (setS ρ i x).length = ρ.length
  | [], _, _ => rfl
  | _ :: _, 0, _ => rfl
  | _ :: r, i + 1, x => by rw [setS, List.length_cons, setS_len' r, List.length_cons]
end
section
variable {C : Nat → List D → Or → R D} {ρ ρ1 : Env} {o o1 o2 : Or} {c e s : IE} {a b : List IS} {i : Nat} {n : Nat} {d : D} {z : Out}
theorem ifT (h : evE C c ρ o = .ok (.bool true) o1) (h2 : evSs C a ρ o1 = z) : evS C (.ifs c a b) ρ o = z := by rw [evS, h]; exact h2
theorem ifF (h : evE C c ρ o = .ok (.bool false) o1) (h2 : evSs C b ρ o1 = z) : evS C (.ifs c a b) ρ o = z := by rw [evS, h]; exact h2
theorem ifB {q : Bool} (h : evE C c ρ o = .ok (.bool q) o1) (h2 : (if q then evSs C a ρ o1 else evSs C b ρ o1) = z) : evS C (.ifs c a b) ρ o = z := by
  cases q
  · exact ifF h h2
  · exact ifT h h2
theorem st_ret (h : evE C e ρ o = .ok d o1) : evS C (.ret e) ρ o = .rt d o1 := by rw [evS, h]; rfl
theorem st_set (h : evE C e ρ o = .ok d o1) : evS C (.set (.slot i) e) ρ o = .nx (setS ρ i (.val d)) o1 := by rw [evS, h]; rfl
theorem st_setO {xs : List D} (h : evE C e ρ o = .ok (.lst xs) o1) : evS C (.setO i e) ρ o = .nx (setS ρ i (.own (.lst xs))) o1 := by rw [evS, h]; rfl
theorem st_par {ps : List (Nat × Bool)} {es : List IE} {xs : List D} (h : evEs C es ρ o = .ok xs o1) (h2 : parS ps xs ρ = some ρ1) : evS C (.par ps es) ρ o = .nx ρ1 o1 := by rw [evS, h, R.out_ok, h2]
theorem st_app {xs : List D} (h : getS ρ i = .own (.lst xs)) (h2 : evE C e ρ o = .ok d o1) (h3 : xs.length < cap) : evS C (.app i e) ρ o = .nx (setS ρ i (.own (.lst (xs ++ [d])))) o1 := by rw [evS, h]; simp only [h2, R.out_ok, if_pos h3]
theorem st_aug {p : O2} {x y w : D} (h : getS ρ i = .val x) (hs : scalar x = true) (h2 : evE C e ρ o = .ok y o1) (h3 : op2 p x y = some w) : evS C (.aug i p e) ρ o = .nx (setS ρ i (.val w)) o1 := by rw [evS, h]; simp only [hs, if_true, h2, R.out_ok, h3]
theorem st_for {p : IP} {xs : List D} (h : evE C s ρ o = .ok (.lst xs) o1) (h2 : forM (fun x ρ o => match bindP p x ρ with
        | none => .no
        | some ρ => evSs C b ρ o) xs ρ o1 = z) : evS C (.for_ p s b) ρ o = z := by rw [evS, h]; exact h2
theorem st_forI {xs : List D} (h : evE C s ρ o = .ok (.lst xs) o1) (h2 : forM (fun x ρ o => evSs C b (setS ρ i (.val x)) o) xs ρ o1 = z) : evS C (.for_ (.slot i) s b) ρ o = z := st_for h h2
theorem st_forT {xs : List D} (h : evE C s ρ o = .ok (.tup xs) o1) (h2 : forM (fun x ρ o => evSs C b (setS ρ i (.val x)) o) xs ρ o1 = z) : evS C (.for_ (.slot i) s b) ρ o = z := by rw [evS, h]; exact h2
theorem ev_range {n : Int} (h : evE C e ρ o = .ok (.int n) o1) (h0 : 0 ≤ n) (hc : n ≤ cap) : evE C (.bi .range [e]) ρ o = .ok (.lst (RI n.toNat)) o1 := by
  rw [evE, evEs, h, R.bind_ok, evEs, R.bind_ok, R.bind_ok, bi_rng1, rangeO_nat h0 hc]; rfl
/-- a comprehension over a range, drawing nothing -/
theorem ev_comp {g : Nat → D} (hs : evE C s ρ o = .ok (.lst (RI n)) o1) (he : ∀ k < n, evE C e (setS ρ i (.val (.int k))) o1 = .ok (g k) o1) : evE C (.comp (.slot i) s (.cst (.bool true)) e) ρ o = .ok (.lst ((List.range n).map g)) o1 := by
  rw [evE, hs]
  simp only [R.seq, R.bind_ok, items, R.of_some]
  rw [compM_RI (g := g)]
  · rfl
  · intro k hk
    simp only [bindP, wipeS, slotsP, setS_setS, evE, test_bool, if_true, he k hk, R.bind_ok]
theorem ev_compF {g : Nat → D} {p : Nat → Bool} (hs : evE C s ρ o = .ok (.lst (RI n)) o1) (hc : ∀ k < n, evE C c (setS ρ i (.val (.int k))) o1 = .ok (.bool (p k)) o1) (he : ∀ k < n, p k = true → evE C e (setS ρ i (.val (.int k))) o1 = .ok (g k) o1) :
    evE C (.comp (.slot i) s c e) ρ o = .ok (.lst (((List.range n).filter p).map g)) o1 := by
  rw [evE, hs]
  simp only [R.seq, R.bind_ok, items, R.of_some]
  rw [compM_RIf (g := fun k => if p k then some (g k) else none)]
  · have : (List.range n).filterMap (fun k => if p k then some (g k) else none) = ((List.range n).filter p).map g := by
      induction List.range n with
      | nil => rfl
      | cons k ks ih =>
        rw [List.filterMap_cons, List.filter_cons]
        cases p k <;> simp [ih]
    rw [this]; rfl
  · intro k hk
    simp only [bindP, wipeS, slotsP, setS_setS, hc k hk, test_bool]
    cases h : p k
    · rfl
    · simp only [if_true, he k hk h, R.bind_ok]
/-- .. over any items -/
theorem ev_compX {f : D → D} {xs : List D} (hs : (evE C s ρ o).seq = .ok xs o1) (he : ∀ x ∈ xs, evE C e (setS ρ i (.val x)) o1 = .ok (f x) o1) : evE C (.comp (.slot i) s (.cst (.bool true)) e) ρ o = .ok (.lst (xs.map f)) o1 := by
  rw [evE, hs, R.bind_ok, compM_map (g := f)]
  · rfl
  · intro x hx
    simp only [bindP, wipeS, slotsP, setS_setS, evE, test_bool, if_true, he x hx, R.bind_ok]
theorem ev_compXF {f : D → D} {p : D → Bool} {xs : List D} (hs : (evE C s ρ o).seq = .ok xs o1) (hc : ∀ x ∈ xs, evE C c (setS ρ i (.val x)) o1 = .ok (.bool (p x)) o1) (he : ∀ x ∈ xs, p x = true → evE C e (setS ρ i (.val x)) o1 = .ok (f x) o1) : evE C (.comp (.slot i) s c e) ρ o = .ok (.lst ((xs.filter p).map f)) o1 := by
  rw [evE, hs, R.bind_ok, compM_fm (g := fun x => if p x then some (f x) else none)]
  · have : xs.filterMap (fun k => if p k then some (f k) else none) = (xs.filter p).map f := by
      clear hs hc he
      induction xs with
      | nil => rfl
      | cons k ks ih =>
        rw [List.filterMap_cons, List.filter_cons]
        cases p k <;> simp [ih]
    rw [this]; rfl
  · intro x hx
    simp only [bindP, wipeS, slotsP, setS_setS, hc x hx, test_bool]
    cases h : p x
    · rfl
    · simp only [if_true, he x hx h, R.bind_ok]
/-- a comprehension over a range that draws an int each turn -/
theorem ev_compN {P : Int → Prop} (hs : evE C s ρ o = .ok (.lst (RI n)) o1) (he : ∀ k < n, ∀ o, ∃ m o', evE C e (setS ρ i (.val (.int k))) o = .ok (.int m) o' ∧ P m) : ∃ (ns : List Int) (o' : Or), evE C (.comp (.slot i) s (.cst (.bool true)) e) ρ o = .ok (.lst (ns.map .int)) o' ∧ ns.length = n ∧ ∀ m ∈ ns, P m := by
  obtain ⟨ns, o', h, hl, hp⟩ := compM_drawI (P := P) (xs := RI n) (f := fun x o => match bindP (.slot i) x (wipeS ρ (slotsP (.slot i))) with
        | none => .no
        | some ρ => (evE C (.cst (.bool true)) ρ o).test fun t _ o => if t then (evE C e ρ o).bind fun y o => .ok (some y) o else .ok none o) (fun x hx o => by
    obtain ⟨k, hk, rfl⟩ := mem_RI hx
    obtain ⟨m, o', h, hm⟩ := he k hk o
    refine ⟨m, o', ?_, hm⟩
    simp only [bindP, wipeS, slotsP, setS_setS, evE, test_bool, if_true, h, R.bind_ok]) o1
  refine ⟨ns, o', ?_, by rw [hl, RI_len], hp⟩
  rw [evE, hs]
  simp only [R.seq, R.bind_ok, items, R.of_some]
  exact congrArg (fun r : R (List D) => r.pure.bind fun ys o => R.ok (D.lst ys) o) h
end
/-! the draws -/
/-- _law_next answers by an int below m -/
def Nx (C : Nat → List D → Or → R D) (i : Nat) : Prop := ∀ (m : Int) (o : Or), 0 < m → ∃ (v : Int) (o' : Or), 0 ≤ v ∧ v < m ∧ C i [.tok, .int m] o = .ok (.int v) o'
theorem nx_of {T : Nat → Fn} {i : Nat} (h : T i = ⟨2, 2, [.ret (.draw (.var 0) (.var 1))]⟩) (k : Nat) : Nx (callN T (k + 1)) i := by
  intro m o hm
  rw [callN, h]
  simp only [List.length_cons, List.length_nil, if_true, startS, List.map, List.replicate, List.cons_append, List.nil_append, evSs, evS, evE, getS, R.bind_ok, drawF, hm]
  cases o with
  | nil => exact ⟨0, [], by omega, hm, rfl⟩
  | cons x r => exact ⟨x % m, r, Int.emod_nonneg _ (by omega), Int.emod_lt_of_pos _ hm, rfl⟩
/-! _law_alike -/
def iAlike (i : Nat) : List IS := [.ifs (.bi (.isT .tup) [(.var 1)]) [.ifs (.or (.op1 .not (.bi (.isT .tup) [(.var 0)])) (.op2 .ne (.bi .len [(.var 0)]) (.bi .len [(.var 1)]))) [.ret (.cst (.bool false))] [],
    .ret (.op2 .eq (.comp (.slot 2) (.bi .range [(.bi .len [(.var 1)])]) (.op1 .not (.call i [(.op2 .ix (.var 0) (.var 2)), (.op2 .ix (.var 1) (.var 2))])) (.var 2)) (.lst []))] [],
    .ifs (.op2 .is (.var 1) (.cst .non)) [.ret (.op2 .is (.var 0) (.cst .non))] [],
    .ifs (.bi (.isT .bool) [(.var 1)]) [.ret (.and (.bi (.isT .bool) [(.var 0)]) (.op2 .eq (.var 0) (.var 1)))] [],
    .ifs (.bi (.isT .int) [(.var 1)]) [.ret (.and (.bi (.isT .int) [(.var 0)]) (.and (.op1 .not (.bi (.isT .bool) [(.var 0)])) (.op2 .eq (.var 0) (.var 1))))] [],
    .ret (.and (.bi (.isT .str) [(.var 0)]) (.op2 .eq (.var 0) (.var 1)))]
/-- plain data at most n deep -/
def plD : Nat → D → Bool
  | _, .non => true
  | _, .bool _ => true
  | _, .int _ => true
  | _, .str _ => true
  | n + 1, .tup xs => decide (xs.length ≤ cap) && xs.all (plD n)
  | _, _ => false
def flatD : D → Bool
  | .non => true
  | .bool _ => true
  | .int _ => true
  | .str _ => true
  | _ => false
theorem range_len {α : Type} {xs : List α} (hl : xs.length ≤ cap) : rangeO 0 (xs.length : Int) = some (.lst (RI xs.length)) := by
  have h : ((xs.length : Nat) : Int) ≤ ((cap : Nat) : Int) := Int.ofNat_le.mpr hl
  rw [rangeO_nat (Int.natCast_nonneg _) h, Int.toNat_natCast]
theorem alike_flat {T : Nat → Fn} {i : Nat} (h : T i = ⟨2, 3, iAlike i⟩) (d : D) (hd : flatD d = true) (j : Nat) (o : Or) : callN T (j + 1) i [d, d] o = .ok (.bool true) o := by
  cases d with
  | non => exact call_rt h (stp rfl (stR rfl))
  | bool b => exact call_rt h (stp rfl (stp rfl (stR (by cases b <;> rfl))))
  | int b =>
    refine call_rt h (stp rfl (stp rfl (stp rfl (stR ?_))))
    simp only [startS, List.map, List.length_cons, List.length_nil, List.replicate, List.cons_append, List.nil_append, evS, evE, evEs, getS, R.bind_ok, biF, un1, isTy, Option.map, R.of_some, R.out_ok, truth, op1, op2, eqO_int, R.test, decide_true, Bool.not_false, if_true, evSs_cons', evSs_nil', Out.then_rt]
  | str b =>
    have : eqO (.str b) (.str b) = some true := by simp [eqO, scalD, eqD]
    refine call_rt h (stp rfl (stp rfl (stp rfl (stp rfl (stR ?_)))))
    simp only [startS, List.map, List.length_cons, List.length_nil, List.replicate, List.cons_append, List.nil_append, evS, evE, evEs, getS, R.bind_ok, biF, un1, isTy, Option.map, R.of_some, R.out_ok, truth, op1, op2, this, R.test, if_true]
  | _ => cases hd
theorem alike_refl {T : Nat → Fn} {i : Nat} (h : T i = ⟨2, 3, iAlike i⟩) : ∀ (n : Nat) (d : D), plD n d = true → ∀ (k : Nat) (o : Or), callN T (k + n + 1) i [d, d] o = .ok (.bool true) o := by
  intro n
  induction n with
  | zero =>
    intro d hp k o
    cases d <;> first
      | exact alike_flat h _ rfl _ _
      | cases hp
  | succ n ih =>
    intro d hp k o
    cases d with
    | tup xs =>
      simp only [plD, Bool.and_eq_true, decide_eq_true_eq, List.all_eq_true] at hp
      obtain ⟨hl, hx⟩ := hp
      have ih' : ∀ x ∈ xs, ∀ o, callN T (k + n + 1) i [x, x] o = .ok (.bool true) o := fun x hm o => ih x (hx x hm) k o
      rw [show k + (n + 1) + 1 = (k + n + 1) + 1 by omega]
      refine call_rt h (stR (ifT rfl (stp (o1 := o) (ifF ?_ rfl) (stR (st_ret ?_)))))
      · simp only [startS, List.map, List.length_cons, List.length_nil, List.replicate, List.cons_append, List.nil_append, evE, evEs, getS, R.bind_ok, bi_isT (t := .tup) (x := .tup xs) rfl, R.of_some, op1_not_b, test_bool, Bool.not_true, Bool.false_eq_true, if_false, bi_len_tup, op2_ne_int, decide_true]
      · rw [evE, ev_compF (n := xs.length) (o1 := o) (p := fun _ => false) (g := fun _ => .non)]
        · rw [R.bind_ok, evE, evEs, R.bind_ok, R.bind_ok, show (List.range xs.length).filter (fun _ => false) = [] by simp, List.map_nil, op2_eq eqO_nn]; rfl
        · have e := ev_range (C := callN T (k + n + 1)) (e := .bi .len [.var 1]) (ρ := [.val (.tup xs), .val (.tup xs), .un]) (o := o) (o1 := o) (n := xs.length) rfl (Int.natCast_nonneg _) (Int.ofNat_le.mpr hl)
          rw [Int.toNat_natCast] at e
          exact e
        · intro j hj
          simp only [startS, List.map, List.length_cons, List.length_nil, List.replicate, List.cons_append, List.nil_append, setS, evE, evEs, getS, R.bind_ok, op2_ix_tup, atI_nat' xs j hj, R.of_some, ih' _ (List.getElem_mem hj), op1_not_b, Bool.not_true]
        · intro j _ h; cases h
    | lst xs => cases hp
    | dic xs => cases hp
    | tok => cases hp
    | _ => exact alike_flat h _ rfl _ _
end BV

end
/-! text: BM2.lean -/
section
set_option autoImplicit false
set_option maxRecDepth 100000
namespace BV
/-! BM2: more plain lemmas -/
section
variable {C : Nat → List D → Or → R D} {ρ : Env} {o o1 o2 o3 o4 : Or} {e e1 e2 e3 e4 a b : IE} {d x y z u v : D} {f : Nat}
theorem ev_bi1 {p : Bi} (h : evE C e ρ o = .ok x o1) (h2 : biF p [x] = some z) : evE C (.bi p [e]) ρ o = .ok z o1 := by rw [evE, evEs, h, R.bind_ok, evEs, R.bind_ok, R.bind_ok, h2]; rfl
theorem ev_bi2 {p : Bi} (h : evE C a ρ o = .ok x o1) (h1 : evE C b ρ o1 = .ok y o2) (h2 : biF p [x, y] = some z) : evE C (.bi p [a, b]) ρ o = .ok z o2 := by rw [evE, evEs, h, R.bind_ok, evEs, h1, R.bind_ok, evEs, R.bind_ok, R.bind_ok, R.bind_ok, h2]; rfl
theorem ev_op2 {p : O2} (h : evE C a ρ o = .ok x o1) (h1 : evE C b ρ o1 = .ok y o2) (h2 : op2 p x y = some z) : evE C (.op2 p a b) ρ o = .ok z o2 := by rw [evE, h, R.bind_ok, h1, R.bind_ok, h2]; rfl
theorem ev_op1 {p : O1} (h : evE C a ρ o = .ok x o1) (h2 : op1 p x = some z) : evE C (.op1 p a) ρ o = .ok z o1 := by rw [evE, h, R.bind_ok, h2]; rfl
theorem ev_not {q : Bool} (h : evE C a ρ o = .ok (.bool q) o1) : evE C (.op1 .not a) ρ o = .ok (.bool (!q)) o1 := ev_op1 h rfl
theorem ev_call1 (h : evE C e ρ o = .ok x o1) (h2 : C f [x] o1 = .ok z o2) : evE C (.call f [e]) ρ o = .ok z o2 := by rw [evE, evEs, h, R.bind_ok, evEs, R.bind_ok, R.bind_ok, h2]
theorem ev_call2 (h : evE C a ρ o = .ok x o1) (h1 : evE C b ρ o1 = .ok y o2) (h2 : C f [x, y] o2 = .ok z o3) : evE C (.call f [a, b]) ρ o = .ok z o3 := by rw [evE, evEs, h, R.bind_ok, evEs, h1, R.bind_ok, evEs, R.bind_ok, R.bind_ok, R.bind_ok, h2]
theorem ev_call3 (h : evE C e1 ρ o = .ok x o1) (h1 : evE C e2 ρ o1 = .ok y o2) (h2 : evE C e3 ρ o2 = .ok u o3) (h3 : C f [x, y, u] o3 = .ok z o4) : evE C (.call f [e1, e2, e3]) ρ o = .ok z o4 := by
  rw [evE, evEs, h, R.bind_ok, evEs, h1, R.bind_ok, evEs, h2, R.bind_ok, evEs]; exact h3
theorem ev_call4 {o5 : Or} (h : evE C e1 ρ o = .ok x o1) (h1 : evE C e2 ρ o1 = .ok y o2) (h2 : evE C e3 ρ o2 = .ok u o3) (h3 : evE C e4 ρ o3 = .ok v o4) (h4 : C f [x, y, u, v] o4 = .ok z o5) : evE C (.call f [e1, e2, e3, e4]) ρ o = .ok z o5 := by
  rw [evE, evEs, h, R.bind_ok, evEs, h1, R.bind_ok, evEs, h2, R.bind_ok, evEs, h3, R.bind_ok, evEs]; exact h4
theorem ev_iteB {q : Bool} (h : evE C e ρ o = .ok (.bool q) o1) (h2 : (if q then evE C a ρ o1 else evE C b ρ o1) = .ok z o2) : evE C (.ite e a b) ρ o = .ok z o2 := by rw [evE, h, test_bool]; exact h2
theorem ev_andB {q : Bool} (h : evE C a ρ o = .ok (.bool q) o1) (h2 : (if q then evE C b ρ o1 else .ok (.bool q) o1) = .ok z o2) : evE C (.and a b) ρ o = .ok z o2 := by rw [evE, h, test_bool]; exact h2
theorem ev_orB {q : Bool} (h : evE C a ρ o = .ok (.bool q) o1) (h2 : (if q then .ok (.bool q) o1 else evE C b ρ o1) = .ok z o2) : evE C (.or a b) ρ o = .ok z o2 := by rw [evE, h, test_bool]; exact h2
theorem ev_iteT (h : evE C e ρ o = .ok (.bool true) o1) (h2 : evE C a ρ o1 = .ok z o2) : evE C (.ite e a b) ρ o = .ok z o2 := ev_iteB h h2
theorem ev_iteF (h : evE C e ρ o = .ok (.bool false) o1) (h2 : evE C b ρ o1 = .ok z o2) : evE C (.ite e a b) ρ o = .ok z o2 := ev_iteB h h2
theorem ev_andT (h : evE C a ρ o = .ok (.bool true) o1) (h2 : evE C b ρ o1 = .ok z o2) : evE C (.and a b) ρ o = .ok z o2 := ev_andB h h2
theorem ev_andF (h : evE C a ρ o = .ok (.bool false) o1) : evE C (.and a b) ρ o = .ok (.bool false) o1 := ev_andB h rfl
theorem ev_orT (h : evE C a ρ o = .ok (.bool true) o1) : evE C (.or a b) ρ o = .ok (.bool true) o1 := ev_orB h rfl
theorem ev_mthI {xs : List D} {w : D} (h : evE C a ρ o = .ok (.lst xs) o1) (h1 : evE C b ρ o1 = .ok y o2) (h2 : indexO (.lst xs) y = some w) : evE C (.mth .index a [b]) ρ o = .ok w o2 := by
  rw [evE, h, R.bind_ok, if_pos (by rfl : mtOk .index (.lst xs) = true), evEs, h1, R.bind_ok, evEs, R.bind_ok, R.bind_ok, mtF, un1, h2]; rfl
/-- two Booleans -/
theorem ev_and2 {p q : Bool} (h : evE C a ρ o = .ok (.bool p) o1) (h2 : p = true → evE C b ρ o1 = .ok (.bool q) o1) : evE C (.and a b) ρ o = .ok (.bool (p && q)) o1 := by
  refine ev_andB h ?_
  cases p
  · rfl
  · exact h2 rfl
theorem ev_orF (h : evE C a ρ o = .ok (.bool false) o1) (h2 : evE C b ρ o1 = .ok (.bool false) o2) : evE C (.or a b) ρ o = .ok (.bool false) o2 := ev_orB h h2
theorem ev_tup {es : List IE} {xs : List D} (h : evEs C es ρ o = .ok xs o1) : evE C (.tup es) ρ o = .ok (.tup xs) o1 := by rw [evE, h]; rfl
theorem ev_lst {es : List IE} {xs : List D} (h : evEs C es ρ o = .ok xs o1) : evE C (.lst es) ρ o = .ok (.lst xs) o1 := by rw [evE, h]; rfl
theorem evs_nil : evEs C [] ρ o = .ok [] o := by rw [evEs]
theorem evs_cons {es : List IE} {xs : List D} (h : evE C e ρ o = .ok x o1) (h2 : evEs C es ρ o1 = .ok xs o2) : evEs C (e :: es) ρ o = .ok (x :: xs) o2 := by rw [evEs, h, R.bind_ok, h2]; rfl
theorem ev_slice {xs : List D} {l h : D} {lo hi : Option Int} {e2 e3 : IE} (ha : evE C a ρ o = .ok (.tup xs) o1) (hl : evE C e2 ρ o1 = .ok l o2) (hh : evE C e3 ρ o2 = .ok h o3) (pl : partO l = some lo) (ph : partO h = some hi) : evE C (.slice a e2 e3) ρ o = .ok (.tup (cut xs lo hi)) o3 := by
  rw [evE, ha, R.bind_ok, hl, R.bind_ok, hh, R.bind_ok, sliceO, pl, ph]; rfl
theorem ev_sliceL {xs : List D} {l h : D} {lo hi : Option Int} {e2 e3 : IE} (ha : evE C a ρ o = .ok (.lst xs) o1) (hl : evE C e2 ρ o1 = .ok l o2) (hh : evE C e3 ρ o2 = .ok h o3) (pl : partO l = some lo) (ph : partO h = some hi) : evE C (.slice a e2 e3) ρ o = .ok (.lst (cut xs lo hi)) o3 := by
  rw [evE, ha, R.bind_ok, hl, R.bind_ok, hh, R.bind_ok, sliceO, pl, ph]; rfl
theorem ev_var {i : Nat} (h : getS ρ i = .val d) : evE C (.var i) ρ o = .ok d o := by rw [evE, h]
theorem ev_pk {i : Nat} (h : getS ρ i = .val d) : evE C (.pk i) ρ o = .ok d o := by rw [evE, h]
theorem ev_pkO {i : Nat} (h : getS ρ i = .own d) : evE C (.pk i) ρ o = .ok d o := by rw [evE, h]
theorem ev_cst : evE C (.cst d) ρ o = .ok d o := by rw [evE]
end
theorem cut_hi {α : Type} (xs : List α) (k : Nat) (h : k ≤ xs.length) : cut xs none (some (k : Int)) = xs.take k := by
  simp only [cut, sIx, List.drop_zero, Nat.sub_zero]
  rw [if_neg (by omega), Int.toNat_natCast, Nat.min_eq_left h]
theorem cut_lo {α : Type} (xs : List α) (k : Nat) (h : k ≤ xs.length) : cut xs (some (k : Int)) none = xs.drop k := by
  simp only [cut, sIx]
  rw [if_neg (by omega), Int.toNat_natCast, Nat.min_eq_left h]
  exact List.take_of_length_le (by simp)
theorem bi_len_TI (cs : List Int) : biF .len [TI cs] = some (.int cs.length) := by rw [TI, bi_len_tup, List.length_map]
theorem bi_len_LI (cs : List Int) : biF .len [LI cs] = some (.int cs.length) := by rw [LI, bi_len_lst, List.length_map]
theorem ix_TI {cs : List Int} {i : Int} (h0 : 0 ≤ i) (h : i < cs.length) : op2 .ix (TI cs) (.int i) = some (.int (cs.getD i.toNat 0)) := by
  rw [TI, op2_ix_tup, atI_toNat _ _ h0 (by simpa using h), List.getElem_map, List.getD_eq_getElem?_getD, List.getElem?_eq_getElem (by omega)]; rfl
theorem ix_LI {cs : List Int} {i : Int} (h0 : 0 ≤ i) (h : i < cs.length) : op2 .ix (LI cs) (.int i) = some (.int (cs.getD i.toNat 0)) := by
  rw [LI, op2_ix_lst, atI_toNat _ _ h0 (by simpa using h), List.getElem_map, List.getD_eq_getElem?_getD, List.getElem?_eq_getElem (by omega)]; rfl
/-- the number at i, round and round -/
def at_ (cs : List Int) (i : Int) : Int := cs.getD (i % cs.length).toNat 0
theorem ix_at {cs : List Int} (h : 0 < cs.length) (i : Int) : op2 .ix (TI cs) (.int (i % (cs.length : Int))) = some (.int (at_ cs i)) :=
  ix_TI (Int.emod_nonneg _ (by omega)) (Int.emod_lt_of_pos _ (by omega))
theorem plD_int (n : Nat) (i : Int) : plD n (.int i) = true := by cases n <;> rfl
theorem plD_TI (n : Nat) (cs : List Int) (h : cs.length ≤ cap) : plD (n + 1) (TI cs) = true := by
  simp only [plD, TI, List.length_map, Bool.and_eq_true, decide_eq_true_eq, List.all_eq_true, List.mem_map]
  refine ⟨h, ?_⟩
  rintro x ⟨i, _, rfl⟩
  exact plD_int _ _
/-- Nat places as ints -/
def ni (ks : List Nat) : List Int := ks.map fun k : Nat => (k : Int)
theorem ni_map (ks : List Nat) : (ks.map fun k : Nat => D.int k) = (ni ks).map D.int := by rw [ni, List.map_map]; rfl
theorem ni_len (ks : List Nat) : (ni ks).length = ks.length := by simp [ni]
theorem ev_rangeN {C : Nat → List D → Or → R D} {ρ : Env} {o o1 : Or} {e : IE} {n : Nat} (h : evE C e ρ o = .ok (.int n) o1) (hc : n ≤ cap) : evE C (.bi .range [e]) ρ o = .ok (.lst (RI n)) o1 := by
  have := ev_range h (Int.natCast_nonneg n) (Int.ofNat_le.mpr hc)
  rwa [Int.toNat_natCast] at this
theorem op2_mul_nat {a b : Nat} (h : a ≤ 1000000) : op2 .mul (.int a) (.int b) = some (.int ((a * b : Nat) : Int)) := by
  rw [op2_mul_int, Int.natCast_mul]
  simp only [mulOk, Bool.or_eq_true, Bool.and_eq_true, decide_eq_true_eq]
  left; omega
/-- a loop over 0 .. n-1 that may return -/
theorem forM_find {f : D → Env → Or → Out} {p : Nat → Bool} {r : Nat → D} {I : Env → Prop} {o : Or} (g : Nat → D) : ∀ (ks : List Nat), (∀ k ∈ ks, ∀ ρ, I ρ → if p k = true then f (g k) ρ o = .rt (r k) o else ∃ ρ', f (g k) ρ o = .nx ρ' o ∧ I ρ') → ∀ {ρ}, I ρ →
    match ks.find? p with
    | some k => forM f (ks.map g) ρ o = .rt (r k) o
    | none => ∃ ρ', forM f (ks.map g) ρ o = .nx ρ' o ∧ I ρ'
  | [], _, ρ, i => ⟨ρ, rfl, i⟩
  | k :: ks, h, ρ, i => by
    have hk := h k (by simp) ρ i
    rw [List.find?_cons]
    cases hp : p k with
    | true =>
      rw [if_pos hp] at hk
      show forM f (g k :: ks.map g) ρ o = _
      rw [forM, hk]; rfl
    | false =>
      rw [hp, if_neg (by decide)] at hk
      obtain ⟨ρ1, e, i1⟩ := hk
      have := forM_find g ks (fun j hj => h j (by simp [hj])) i1
      show match ks.find? p with
        | some k => forM f (g _ :: ks.map g) ρ o = .rt (r k) o
        | none => ∃ ρ', forM f (g _ :: ks.map g) ρ o = .nx ρ' o ∧ I ρ'
      rw [forM, e]
      exact this
theorem filt_all (p : Nat → Bool) (ks : List Nat) : (ks.filter fun j => !p j).isEmpty = ks.all p := by
  induction ks with
  | nil => rfl
  | cons k ks ih =>
    rw [List.filter_cons, List.all_cons, ← ih]
    cases p k <;> rfl
theorem eq_range {xs : List Int} {g : Nat → Int} : ((List.range xs.length).map g = xs) ↔ ∀ j < xs.length, g j = xs.getD j 0 := by
  constructor
  · intro h j hj
    have e := congrArg (fun l : List Int => l.getD j 0) h
    simp only [List.getD_eq_getElem?_getD, List.getElem?_map, List.getElem?_range hj, Option.map_some, Option.getD_some] at e
    rw [e, List.getD_eq_getElem?_getD]
  · intro h
    refine List.ext_getElem (by simp) fun j h1 h2 => ?_
    rw [List.getElem_map, List.getElem_range, h j h2, List.getD_eq_getElem?_getD, List.getElem?_eq_getElem h2]; rfl
theorem evI_nil {C : Nat → List D → Or → R D} {ρ : Env} {o o1 : Or} {e : IE} {xs : List D} (h : evE C e ρ o = .ok (.lst xs) o1) (hx : xs.all (okN 59) = true) : evE C (.op2 .eq e (.lst [])) ρ o = .ok (.bool xs.isEmpty) o1 :=
  ev_op2 h (ev_lst evs_nil) (op2_eq (eqO_nilL hx))
theorem evI_nnil {C : Nat → List D → Or → R D} {ρ : Env} {o o1 : Or} {e : IE} {xs : List D} (h : evE C e ρ o = .ok (.lst xs) o1) (hx : xs.all (okN 59) = true) : evE C (.op2 .ne e (.lst [])) ρ o = .ok (.bool (!xs.isEmpty)) o1 :=
  ev_op2 h (ev_lst evs_nil) (op2_ne (eqO_nilL hx))
theorem isEmpty_map {α β : Type} (f : α → β) (xs : List α) : (xs.map f).isEmpty = xs.isEmpty := by cases xs <;> rfl
def optD : Option Nat → D
  | some k => .int k
  | none => .non
theorem minL_mem : ∀ (n : Int) (ns : List Int), minL (n :: ns) ∈ n :: ns
  | n, [] => by simp [minL]
  | n, m :: r => by
    have := minL_mem m r
    show (if minL (m :: r) < n then minL (m :: r) else n) ∈ _
    split
    · exact List.mem_cons_of_mem _ this
    · simp
theorem minL_le : ∀ (n : Int) (ns : List Int), ∀ x ∈ n :: ns, minL (n :: ns) ≤ x
  | n, [], x, h => by simp at h; simp [minL, h]
  | n, m :: r, x, h => by
    have := minL_le m r
    show (if minL (m :: r) < n then minL (m :: r) else n) ≤ x
    rcases List.mem_cons.mp h with rfl | h
    · split <;> omega
    · have := this x h
      split <;> omega
theorem findD_mem (y : Int) : ∀ (ns : List Int) (k : Nat), y ∈ ns → ∃ j, findD (.int y) (ns.map .int) k = some j
  | [], _, h => by simp at h
  | n :: ns, k, h => by
    rw [List.map_cons, findD, eqD]
    by_cases e : n = y
    · exact ⟨k, by simp [e]⟩
    · rcases List.mem_cons.mp h with h | h
      · exact absurd h.symm e
      · obtain ⟨j, hj⟩ := findD_mem y ns (k + 1) h
        exact ⟨j, by simp [e, hj]⟩
theorem flat_ints (ns : List Int) : (ns.map D.int).all flat = true := by
  simp only [List.all_eq_true, List.mem_map]
  rintro x ⟨i, _, rfl⟩
  rfl
theorem indexO_ints {ns : List Int} {y : Int} (h : y ∈ ns) : ∃ j : Nat, indexO (.lst (ns.map .int)) (.int y) = some (.int j) := by
  obtain ⟨j, hj⟩ := findD_mem y ns 0 h
  refine ⟨j, ?_⟩
  simp only [indexO, lstO, Option.bind_some, flat_ints, flat, Bool.and_self, if_true, hj, Option.map_some]
  rfl
theorem inO_LI (ns : List Int) (y : Int) : op2 .isIn (.int y) (.lst (ns.map .int)) = some (.bool (ns.any fun n => decide (n = y))) := by
  show (if (flat (.int y) && (ns.map D.int).all flat) = true then some ((ns.map D.int).any fun x => eqD x (.int y)) else none).map D.bool = _
  rw [flat_ints, List.any_map]
  congr 2
theorem inO_TI (ns : List Int) (y : Int) : op2 .isIn (.int y) (TI ns) = some (.bool (ns.any fun n => decide (n = y))) := by
  show (if (flat (.int y) && (ns.map D.int).all flat) = true then some ((ns.map D.int).any fun x => eqD x (.int y)) else none).map D.bool = _
  rw [flat_ints, List.any_map]
  congr 2
/-- a whole comparison by _law_alike that holds -/
theorem ev_alike {T : Nat → Fn} {i k n : Nat} {ρ : Env} {o o1 o2 : Or} {a b : IE} {x y : D} (h : T i = ⟨2, 3, iAlike i⟩) (ha : evE (callN T (k + n + 1)) a ρ o = .ok x o1) (hb : evE (callN T (k + n + 1)) b ρ o1 = .ok y o2) (e : x = y) (hp : plD n x = true) :
    evE (callN T (k + n + 1)) (.op1 .not (.call i [a, b])) ρ o = .ok (.bool false) o2 := by
  subst e
  exact ev_not (q := true) (ev_call2 ha hb (alike_refl h n x hp k o2))
theorem cut_hiA {α : Type} (xs : List α) (k : Nat) : cut xs none (some (k : Int)) = xs.take k := by
  rcases Nat.le_total k xs.length with h | h
  · exact cut_hi xs k h
  · simp only [cut, sIx, List.drop_zero, Nat.sub_zero]
    rw [if_neg (by omega), Int.toNat_natCast, Nat.min_eq_right h, List.take_of_length_le (by omega), List.take_of_length_le h]
theorem cut_m1 {α : Type} (xs : List α) (h : 0 < xs.length) : cut xs none (some (-1)) = xs.take (xs.length - 1) := by
  simp only [cut, sIx, List.drop_zero, Nat.sub_zero]
  rw [if_pos (by omega), show ((-1 : Int) + (xs.length : Int)).toNat = xs.length - 1 by omega]
/-- the body ends well: the draws' slot and the number of slots are as before -/
def Gd (n : Nat) (x : Out) (P : Env → Or → Prop) : Prop := ∃ ρ' o', x = .nx ρ' o' ∧ ρ'.length = n ∧ P ρ' o'
theorem stpG {C : Nat → List D → Or → R D} {s : IS} {r : List IS} {ρ ρ1 : Env} {o o1 : Or} {n : Nat} {P : Env → Or → Prop} (h : evS C s ρ o = .nx ρ1 o1) (h2 : Gd n (evSs C r ρ1 o1) P) : Gd n (evSs C (s :: r) ρ o) P := by rw [evSs_cons', h]; exact h2
theorem evSs_app {C : Nat → List D → Or → R D} : ∀ (a b : List IS) (ρ : Env) (o : Or), evSs C (a ++ b) ρ o = (evSs C a ρ o).then fun ρ o => evSs C b ρ o
  | [], b, ρ, o => by rw [evSs_nil', List.nil_append]; rfl
  | s :: a, b, ρ, o => by
    rw [List.cons_append, evSs_cons', evSs_cons']
    cases evS C s ρ o <;> try rfl
    simp only [Out.then_nx]
    exact evSs_app a b _ _
theorem segG {C : Nat → List D → Or → R D} {a b : List IS} {ρ : Env} {o : Or} {n m : Nat} {P Q : Env → Or → Prop} (h : Gd n (evSs C a ρ o) P) (h2 : ∀ ρ1 o1, ρ1.length = n → P ρ1 o1 → Gd m (evSs C b ρ1 o1) Q) : Gd m (evSs C (a ++ b) ρ o) Q := by
  obtain ⟨ρ1, o1, e, hl, hp⟩ := h
  rw [evSs_app, e]
  exact h2 ρ1 o1 hl hp
theorem list29 {l : Env} (h : l.length = 29) : ∃ a0 a1 a2 a3 a4 a5 a6 a7 a8 a9 a10 a11 a12 a13 a14 a15 a16 a17 a18 a19 a20 a21 a22 a23 a24 a25 a26 a27 a28, l = [a0, a1, a2, a3, a4, a5, a6, a7, a8, a9, a10, a11, a12, a13, a14, a15, a16, a17, a18, a19, a20, a21, a22, a23, a24, a25, a26, a27, a28] := by
  match l, h with
  | [a0, a1, a2, a3, a4, a5, a6, a7, a8, a9, a10, a11, a12, a13, a14, a15, a16, a17, a18, a19, a20, a21, a22, a23, a24, a25, a26, a27, a28], _ => exact ⟨a0, a1, a2, a3, a4, a5, a6, a7, a8, a9, a10, a11, a12, a13, a14, a15, a16, a17, a18, a19, a20, a21, a22, a23, a24, a25, a26, a27, a28, rfl⟩
theorem compM_G {f : D → Or → R (Option D)} {g0 : Nat → D} {g : Nat → Option D} {o : Or} : ∀ {ks : List Nat}, (∀ k ∈ ks, f (g0 k) o = .ok (g k) o) → compM f (ks.map g0) o = .ok (ks.filterMap g) o
  | [], _ => rfl
  | k :: ks, h => by
    rw [List.map_cons, compM, h k (by simp), R.bind_ok, compM_G fun j hj => h j (by simp [hj]), R.bind_ok, List.filterMap_cons]
    cases g k <;> rfl
theorem fm_if {α β : Type} (p : α → Bool) (f : α → β) (ks : List α) : ks.filterMap (fun k => if p k then some (f k) else none) = (ks.filter p).map f := by
  induction ks with
  | nil => rfl
  | cons k ks ih =>
    rw [List.filterMap_cons, List.filter_cons]
    cases p k <;> simp [ih]
theorem ev_compG {C : Nat → List D → Or → R D} {ρ : Env} {o o1 : Or} {s c e : IE} {i : Nat} {ks : List Nat} {g0 f : Nat → D} {p : Nat → Bool} (hs : (evE C s ρ o).seq = .ok (ks.map g0) o1) (hc : ∀ k ∈ ks, evE C c (setS ρ i (.val (g0 k))) o1 = .ok (.bool (p k)) o1) (he : ∀ k ∈ ks, p k = true → evE C e (setS ρ i (.val (g0 k))) o1 = .ok (f k) o1) : evE C (.comp (.slot i) s c e) ρ o = .ok (.lst ((ks.filter p).map f)) o1 := by
  rw [evE, hs, R.bind_ok, compM_G (g := fun k => if p k then some (f k) else none)]
  · rw [fm_if]; rfl
  · intro k hk
    simp only [bindP, wipeS, slotsP, setS_setS, hc k hk, test_bool]
    cases h : p k
    · rfl
    · simp only [if_true, he k hk h, R.bind_ok]
end BV

end
/-! text: BM3.lean -/
section
set_option autoImplicit false
set_option maxRecDepth 100000
namespace BV
/-! BM3: the draws that every law from k52 on makes -/
def dA : List IS := [.ifs (.op2 .gt (.var 6) (.cst (.int 0))) [.app 2 (.op2 .mod (.bi .int [(.var 6)]) (.cst (.int 997))),
    .set (.slot 6) (.op2 .fdiv (.var 6) (.cst (.int 997)))] []]
def dB : List IS := [.set (.slot 5) (.bi .abs [(.bi .int [(.op2 .ix (.var 0) (.var 4))])]),
    .set (.slot 3) (.op2 .mod (.bi .int [(.op2 .add (.op2 .add (.op2 .mul (.var 3) (.cst (.int 48271))) (.op2 .mod (.var 5) (.cst (.int 1000003)))) (.var 4))]) (.cst (.int 65537))),
    .set (.slot 6) (.cst (.int 0)),
    .ifs (.op2 .ge (.var 5) (.op2 .pow (.cst (.int 10)) (.cst (.int 18)))) [.set (.slot 6) (.var 5)] [.app 2 (.op2 .mod (.bi .int [(.var 5)]) (.cst (.int 997))),
    .app 2 (.op2 .mod (.op2 .mod (.bi .int [(.op2 .add (.op2 .mul (.var 3) (.cst (.int 69621))) (.cst (.int 5)))]) (.cst (.int 65521))) (.cst (.int 997)))],
    .for_ (.slot 7) (.bi .range [(.cst (.int 60))]) dA]
def dC : List IS := [.set (.slot 3) (.op2 .mod (.bi .int [(.op2 .add (.op2 .add (.op2 .mul (.var 3) (.cst (.int 16807))) (.var 4)) (.cst (.int 1)))]) (.cst (.int 65537))),
    .app 2 (.op2 .mod (.bi .int [(.var 3)]) (.cst (.int 997)))]
def iDr : List IS := [.setO 2 (.lst []),
    .set (.slot 3) (.cst (.int 7)),
    .for_ (.slot 4) (.bi .range [(.bi .len [(.var 0)])]) dB,
    .for_ (.slot 4) (.bi .range [(.var 1)]) dC,
    .ret (.slice (.pk 2) (.cst .non) (.op1 .chkI (.var 1)))]
section
variable {C : Nat → List D → Or → R D} {o : Or} {sc : D} {mn : D}
theorem mulOk_r {a b : Int} (h0 : 0 ≤ b) (h : b ≤ 1000000) : mulOk a b = true := by
  simp only [mulOk, Bool.or_eq_true, Bool.and_eq_true, decide_eq_true_eq]
  right; omega
theorem pow_1018 : op2 .pow (.int 10) (.int 18) = some (.int 1000000000000000000) := by
  show (if 0 ≤ (18 : Int) ∧ (18 : Int) ≤ 1000 ∧ (10 : Int).natAbs < 1000 then some (D.int (10 ^ (18 : Int).toNat)) else none) = _
  rw [if_pos (by decide)]
  rfl
theorem app_int {ds : List Int} {ρ : Env} {i : Nat} {e : IE} {n : Int} {o1 : Or} (h : getS ρ i = .own (LI ds)) (he : evE C e ρ o = .ok (.int n) o1) (hl : ds.length < cap) : evS C (.app i e) ρ o = .nx (setS ρ i (.own (LI (ds ++ [n])))) o1 := by
  rw [st_app (xs := ds.map .int) h he (by simpa using hl)]
  simp [LI]
def dE (sc mn : D) (ds : List Int) (m : Int) (x4 x5 x6 x7 : Sl) : Env := [.val sc, .val mn, .own (LI ds), .val (.int m), x4, x5, x6, x7]
theorem dA_ok (ds : List Int) (m : Int) (x4 x5 : Sl) (r : Int) (x7 : Sl) (hl : ds.length < cap) : ∃ (ds' : List Int) (r' : Int), evSs C dA (dE sc mn ds m x4 x5 (.val (.int r)) x7) o = .nx (dE sc mn ds' m x4 x5 (.val (.int r')) x7) o ∧ ds'.length ≤ ds.length + 1 := by
  have e : evE C (.op2 .gt (.var 6) (.cst (.int 0))) (dE sc mn ds m x4 x5 (.val (.int r)) x7) o = .ok (.bool (decide (0 < r))) o := ev_op2 (ev_var rfl) ev_cst (op2_gt_int _ _)
  by_cases h : 0 < r
  · rw [decide_eq_true h] at e
    exact ⟨ds ++ [r % 997], r / 997, stp (ifT e (stp (app_int rfl (ev_op2 (ev_bi1 (ev_var rfl) (bi_int _)) ev_cst (op2_mod_int (by decide))) hl) (stp (st_set (ev_op2 (ev_var rfl) ev_cst (op2_fdiv_int (by decide) (by decide)))) (evSs_nil' _ _ _)))) (evSs_nil' _ _ _), by simp⟩
  · rw [decide_eq_false h] at e
    exact ⟨ds, r, stp (ifF e (evSs_nil' _ _ _)) (evSs_nil' _ _ _), by omega⟩
theorem dFor_ok (ds : List Int) (m : Int) (x4 x5 : Sl) (r : Int) (x7 : Sl) (hl : ds.length + 60 ≤ cap) : ∃ (ds' : List Int) (r' : Int) (x7' : Sl), evS C (.for_ (.slot 7) (.bi .range [(.cst (.int 60))]) dA) (dE sc mn ds m x4 x5 (.val (.int r)) x7) o = .nx (dE sc mn ds' m x4 x5 (.val (.int r')) x7') o ∧ ds'.length ≤ ds.length + 60 := by
  obtain ⟨ρ', o', e, rfl, ds', r', x', rfl, hb⟩ := forM_RI (n := 60) (f := fun x ρ o => evSs C dA (setS ρ 7 (.val x)) o) (I := fun j ρ o' => o' = o ∧ ∃ ds' r' x', ρ = dE sc mn ds' m x4 x5 (.val (.int r')) x' ∧ ds'.length ≤ ds.length + j)
    (ρ := dE sc mn ds m x4 x5 (.val (.int r)) x7) (o := o) (fun j hj ρ o' ⟨ho, ds1, r1, x1, hρ, hb⟩ => by
      subst ho
      subst hρ
      obtain ⟨ds2, r2, e, hl2⟩ := dA_ok (C := C) (o := o') (sc := sc) (mn := mn) ds1 m x4 x5 r1 (.val (.int j)) (by omega)
      exact ⟨_, _, .inl e, rfl, ds2, r2, _, rfl, by omega⟩) ⟨rfl, ds, r, x7, rfl, by omega⟩
  exact ⟨ds', r', x', st_forI (ev_rangeN (n := 60) ev_cst (by decide)) e, hb⟩
theorem dB_ok (sc : List Int) (k : Nat) (hk : k < sc.length) (ds : List Int) (m : Int) (x5 x6 x7 : Sl) (hl : ds.length + 62 ≤ cap) : ∃ (ds' : List Int) (m' : Int) (y5 y6 y7 : Sl), evSs C dB (dE (LI sc) mn ds m (.val (.int k)) x5 x6 x7) o = .nx (dE (LI sc) mn ds' m' (.val (.int k)) y5 y6 y7) o ∧ ds'.length ≤ ds.length + 62 := by
  have e1 : ∀ x5 x6 x7, evS C (.set (.slot 5) (.bi .abs [(.bi .int [(.op2 .ix (.var 0) (.var 4))])])) (dE (LI sc) mn ds m (.val (.int k)) x5 x6 x7) o = .nx (dE (LI sc) mn ds m (.val (.int k)) (.val (.int (if sc.getD k 0 < 0 then -sc.getD k 0 else sc.getD k 0))) x6 x7) o := fun x5 x6 x7 =>
    st_set (ev_bi1 (ev_bi1 (ev_op2 (ev_var rfl) (ev_var rfl) (ix_LI (by omega) (by omega))) (bi_int _)) (bi_abs _))
  generalize hc : (if sc.getD k 0 < 0 then -sc.getD k 0 else sc.getD k 0) = c at e1
  refine Exists.imp (fun ds' => Exists.imp fun m' => Exists.imp fun y5 => Exists.imp fun y6 => Exists.imp fun y7 (h : _ ∧ _) => ⟨stp (e1 _ _ _) (stp (st_set (ev_op2 (ev_bi1 (ev_op2 (ev_op2 (ev_op2 (ev_var rfl) ev_cst (op2_mul_int (mulOk_r (by decide) (by decide)))) (ev_op2 (ev_var rfl) ev_cst (op2_mod_int (by decide))) (op2_add_int _ _)) (ev_var rfl) (op2_add_int _ _)) (bi_int _)) ev_cst (op2_mod_int (by decide)))) (stp (st_set ev_cst) h.1)), h.2⟩) ?_
  generalize (m * 48271 + c % 1000003 + (k : Int)) % 65537 = m2
  show ∃ ds' m' x5 x6 x7', evSs C _ (dE (LI sc) mn ds m2 (.val (.int k)) (.val (.int c)) (.val (.int 0)) x7) o = _ ∧ _
  have e2 : evE C (.op2 .ge (.var 5) (.op2 .pow (.cst (.int 10)) (.cst (.int 18)))) (dE (LI sc) mn ds m2 (.val (.int k)) (.val (.int c)) (.val (.int 0)) x7) o = .ok (.bool (decide (1000000000000000000 ≤ c))) o := ev_op2 (ev_var rfl) (ev_op2 ev_cst ev_cst pow_1018) (op2_ge_int _ _)
  by_cases hh : 1000000000000000000 ≤ c
  · rw [decide_eq_true hh] at e2
    obtain ⟨ds', r', x7', e3, hl3⟩ := dFor_ok (C := C) (o := o) (sc := LI sc) (mn := mn) ds m2 (.val (.int k)) (.val (.int c)) c x7 (by omega)
    exact ⟨ds', m2, _, _, x7', stp (ifT e2 (stp (st_set (ev_var rfl)) (evSs_nil' _ _ _))) (stp e3 (evSs_nil' _ _ _)), by omega⟩
  · rw [decide_eq_false hh] at e2
    obtain ⟨ds', r', x7', e3, hl3⟩ := dFor_ok (C := C) (o := o) (sc := LI sc) (mn := mn) (ds ++ [c % 997] ++ [(m2 * 69621 + 5) % 65521 % 997]) m2 (.val (.int k)) (.val (.int c)) 0 x7 (by simp; omega)
    refine ⟨ds', m2, _, _, x7', stp (ifF e2 (stp (app_int rfl (ev_op2 (ev_bi1 (ev_var rfl) (bi_int _)) ev_cst (op2_mod_int (by decide))) (by omega)) (stp (app_int rfl (ev_op2 (ev_op2 (ev_bi1 (ev_op2 (ev_op2 (ev_var rfl) ev_cst (op2_mul_int (mulOk_r (by decide) (by decide)))) ev_cst (op2_add_int _ _)) (bi_int _)) ev_cst (op2_mod_int (by decide))) ev_cst (op2_mod_int (by decide))) (by simp; omega)) (evSs_nil' _ _ _)))) (stp e3 (evSs_nil' _ _ _)), by simp at hl3; omega⟩
theorem draws_ok {T : Nat → Fn} {f : Nat} (h : T f = ⟨2, 8, iDr⟩) (k : Nat) (sc : List Int) (hs : sc.length ≤ 63) (mn : Nat) (hm : mn ≤ 1000) (o : Or) : ∃ ns : List Int, callN T (k + 1) f [LI sc, .int mn] o = .ok (LI ns) o := by
  obtain ⟨ρ1, o1, e1, rfl, ds1, m1, x4, x5, x6, x7, rfl, hb1⟩ := forM_RI (n := sc.length) (f := fun x ρ o => evSs (callN T k) dB (setS ρ 4 (.val x)) o) (I := fun j ρ o' => o' = o ∧ ∃ ds' m' x4 x5 x6 x7, ρ = dE (LI sc) (.int mn) ds' m' x4 x5 x6 x7 ∧ ds'.length ≤ 62 * j)
    (ρ := dE (LI sc) (.int mn) [] 7 .un .un .un .un) (o := o) (fun j hj ρ o' ⟨ho, ds1, m1, x4, x5, x6, x7, hρ, hb⟩ => by
      subst ho
      subst hρ
      obtain ⟨ds2, m2, y5, y6, y7, e, hl2⟩ := dB_ok (C := callN T k) (o := o') (mn := .int mn) sc j hj ds1 m1 x5 x6 x7 (by show _ ≤ 16777216; omega)
      exact ⟨_, _, .inl e, rfl, ds2, m2, _, y5, y6, y7, rfl, by omega⟩) ⟨rfl, [], 7, .un, .un, .un, .un, rfl, by simp⟩
  obtain ⟨ρ2, o2, e2, rfl, ds2, m2, y4, rfl, hb2⟩ := forM_RI (n := mn) (f := fun x ρ o => evSs (callN T k) dC (setS ρ 4 (.val x)) o) (I := fun j ρ o' => o' = o1 ∧ ∃ ds' m' x4, ρ = dE (LI sc) (.int mn) ds' m' x4 x5 x6 x7 ∧ ds'.length ≤ 4000 + j)
    (ρ := dE (LI sc) (.int mn) ds1 m1 x4 x5 x6 x7) (o := o1) (fun j hj ρ o' ⟨ho, ds1, m1, x4, hρ, hb⟩ => by
      subst ho
      subst hρ
      refine ⟨_, _, .inl (stp (st_set (ev_op2 (ev_bi1 (ev_op2 (ev_op2 (ev_op2 (ev_var rfl) ev_cst (op2_mul_int (mulOk_r (by decide) (by decide)))) (ev_var rfl) (op2_add_int _ _)) ev_cst (op2_add_int _ _)) (bi_int _)) ev_cst (op2_mod_int (by decide)))) (stp (app_int (ds := ds1) rfl (ev_op2 (ev_bi1 (ev_var rfl) (bi_int _)) ev_cst (op2_mod_int (by decide))) (by show _ < 16777216; omega)) (evSs_nil' _ _ _))), rfl, ds1 ++ [(m1 * 16807 + j + 1) % 65537 % 997], _, _, rfl, by simp; omega⟩) ⟨rfl, ds1, m1, x4, rfl, by omega⟩
  refine ⟨ds2.take mn, ?_⟩
  have er : evE (callN T k) (.bi .range [.bi .len [.var 0]]) (dE (LI sc) (.int mn) [] 7 .un .un .un .un) o2 = .ok (.lst (RI sc.length)) o2 := ev_rangeN (ev_bi1 (ev_var rfl) (bi_len_LI _)) (by show _ ≤ 16777216; omega)
  have es : evE (callN T k) (.slice (.pk 2) (.cst .non) (.op1 .chkI (.var 1))) (dE (LI sc) (.int mn) ds2 m2 y4 x5 x6 x7) o2 = .ok (.lst (cut (ds2.map .int) none (some (mn : Int)))) o2 := ev_sliceL (ev_pkO rfl) ev_cst (ev_op1 (ev_var rfl) (op1_chkI _)) rfl rfl
  have ec : cut (ds2.map D.int) none (some (mn : Int)) = (ds2.take mn).map .int := by
    simp only [cut, sIx, List.drop_zero, Nat.sub_zero]
    rw [if_neg (by omega), Int.toNat_natCast, List.map_take]
    rcases Nat.le_total mn ds2.length with h | h
    · rw [Nat.min_eq_left (by simpa using h)]
    · rw [Nat.min_eq_right (by simpa using h), List.take_of_length_le (by simp), List.take_of_length_le (by simpa using h)]
  rw [ec] at es
  exact call_rt h (stp (st_setO (ev_lst evs_nil)) (stp (ρ1 := dE (LI sc) (.int mn) [] 7 .un .un .un .un) (st_set ev_cst) (stp (st_forI er e1) (stp (st_forI (ev_rangeN (ev_var rfl) (by show _ ≤ 16777216; omega)) e2) (stR (st_ret es))))))
end
end BV

end
/-! text: BM4.lean -/
section
set_option autoImplicit false
set_option maxRecDepth 100000
namespace BV
/-! BM4: comprehensions over any list, chains, least and greatest -/
theorem cap_v' : cap = 16777216 := rfl
section
variable {C : Nat → List D → Or → R D} {ρ : Env} {o o1 o2 o3 o4 o5 : Or} {e s c a b d : IE} {i : Nat} {x y z u v : D} {α : Type}
theorem compM_A {f : D → Or → R (Option D)} {g0 : α → D} {g : α → Option D} {o : Or} : ∀ {ks : List α}, (∀ k ∈ ks, f (g0 k) o = .ok (g k) o) → compM f (ks.map g0) o = .ok (ks.filterMap g) o
  | [], _ => rfl
  | k :: ks, h => by
    rw [List.map_cons, compM, h k (by simp), R.bind_ok, compM_A fun j hj => h j (by simp [hj]), R.bind_ok, List.filterMap_cons]
    cases g k <;> rfl
/-- a comprehension over any pattern -/
theorem ev_compP {pt : IP} {ks : List α} {g0 f : α → D} {p : α → Bool} {ρ1 : α → Env} (hs : (evE C s ρ o).seq = .ok (ks.map g0) o1) (hb : ∀ k ∈ ks, bindP pt (g0 k) (wipeS ρ (slotsP pt)) = some (ρ1 k)) (hc : ∀ k ∈ ks, evE C c (ρ1 k) o1 = .ok (.bool (p k)) o1) (he : ∀ k ∈ ks, p k = true → evE C e (ρ1 k) o1 = .ok (f k) o1) :
    evE C (.comp pt s c e) ρ o = .ok (.lst ((ks.filter p).map f)) o1 := by
  rw [evE, hs, R.bind_ok, compM_A (g := fun k => if p k then some (f k) else none)]
  · rw [fm_if]; rfl
  · intro k hk
    simp only [hb k hk, hc k hk, test_bool]
    cases h : p k
    · rfl
    · simp only [if_true, he k hk h, R.bind_ok]
theorem ev_compPm {pt : IP} {ks : List α} {g0 f : α → D} {ρ1 : α → Env} (hs : (evE C s ρ o).seq = .ok (ks.map g0) o1) (hb : ∀ k ∈ ks, bindP pt (g0 k) (wipeS ρ (slotsP pt)) = some (ρ1 k)) (he : ∀ k ∈ ks, evE C e (ρ1 k) o1 = .ok (f k) o1) :
    evE C (.comp pt s (.cst (.bool true)) e) ρ o = .ok (.lst (ks.map f)) o1 := by
  have := ev_compP (p := fun _ => true) (c := .cst (.bool true)) hs hb (fun _ _ => ev_cst) fun k hk _ => he k hk
  rwa [List.filter_eq_self.mpr fun _ _ => rfl] at this
/-- .. over a slot -/
theorem ev_compA {ks : List α} {g0 f : α → D} {p : α → Bool} (hs : (evE C s ρ o).seq = .ok (ks.map g0) o1) (hc : ∀ k ∈ ks, evE C c (setS ρ i (.val (g0 k))) o1 = .ok (.bool (p k)) o1) (he : ∀ k ∈ ks, p k = true → evE C e (setS ρ i (.val (g0 k))) o1 = .ok (f k) o1) :
    evE C (.comp (.slot i) s c e) ρ o = .ok (.lst ((ks.filter p).map f)) o1 :=
  ev_compP (ρ1 := fun k => setS ρ i (.val (g0 k))) hs (fun k _ => by simp only [bindP, wipeS, slotsP, setS_setS]) hc he
theorem ev_compAm {ks : List α} {g0 f : α → D} (hs : (evE C s ρ o).seq = .ok (ks.map g0) o1) (he : ∀ k ∈ ks, evE C e (setS ρ i (.val (g0 k))) o1 = .ok (f k) o1) :
    evE C (.comp (.slot i) s (.cst (.bool true)) e) ρ o = .ok (.lst (ks.map f)) o1 :=
  ev_compPm (ρ1 := fun k => setS ρ i (.val (g0 k))) hs (fun k _ => by simp only [bindP, wipeS, slotsP, setS_setS]) he
theorem seq_lst {xs : List D} (h : evE C e ρ o = .ok (.lst xs) o1) : (evE C e ρ o).seq = .ok xs o1 := by rw [h]; rfl
theorem seq_tup {xs : List D} (h : evE C e ρ o = .ok (.tup xs) o1) : (evE C e ρ o).seq = .ok xs o1 := by rw [h]; rfl
theorem ev_chn {p q : O2} {t : Bool} (ha : evE C a ρ o = .ok x o1) (hb : evE C b ρ o1 = .ok y o2) (h1 : op2 p x y = some (.bool t)) (hd : t = true → evE C d ρ o2 = .ok z o2) {w : Bool} (h2 : t = true → op2 q y z = some (.bool w)) : evE C (.chn p q a b d) ρ o = .ok (.bool (t && w)) o2 := by
  rw [evE, ha, R.bind_ok, hb, R.bind_ok, h1]
  cases t
  · rfl
  · simp only [R.of_some, R.bind_ok, hd rfl, h2 rfl, Bool.true_and]
theorem ev_ite2 {q : Bool} (h : evE C e ρ o = .ok (.bool q) o1) (h1 : q = true → evE C a ρ o1 = .ok x o2) (h2 : q = false → evE C b ρ o1 = .ok y o2) : evE C (.ite e a b) ρ o = .ok (if q then x else y) o2 := by
  refine ev_iteB h ?_
  cases q
  · exact h2 rfl
  · exact h1 rfl
end
theorem bi_minN {ns : List Int} (h : 0 < ns.length) : biF .min1 [.lst (ns.map .int)] = some (.int (minL ns)) := by
  cases ns with
  | nil => simp at h
  | cons n ns => exact bi_min n ns
theorem bi_maxN {ns : List Int} (h : 0 < ns.length) : biF .max1 [.lst (ns.map .int)] = some (.int (maxL ns)) := by
  cases ns with
  | nil => simp at h
  | cons n ns => exact bi_max n ns
theorem maxL_mem : ∀ (n : Int) (ns : List Int), maxL (n :: ns) ∈ n :: ns
  | n, [] => by simp [maxL]
  | n, m :: r => by
    have := maxL_mem m r
    show (if n < maxL (m :: r) then maxL (m :: r) else n) ∈ _
    split
    · exact List.mem_cons_of_mem _ this
    · simp
theorem maxL_le : ∀ (n : Int) (ns : List Int), ∀ x ∈ n :: ns, x ≤ maxL (n :: ns)
  | n, [], x, h => by simp at h; simp [maxL, h]
  | n, m :: r, x, h => by
    have := maxL_le m r
    show x ≤ (if n < maxL (m :: r) then maxL (m :: r) else n)
    rcases List.mem_cons.mp h with rfl | h
    · split <;> omega
    · have := this x h
      split <;> omega
theorem minN_mem {ns : List Int} (h : 0 < ns.length) : minL ns ∈ ns := by cases ns with | nil => simp at h | cons n ns => exact minL_mem n ns
theorem maxN_mem {ns : List Int} (h : 0 < ns.length) : maxL ns ∈ ns := by cases ns with | nil => simp at h | cons n ns => exact maxL_mem n ns
theorem minN_le {ns : List Int} {x : Int} (h : x ∈ ns) : minL ns ≤ x := by cases ns with | nil => simp at h | cons n ns => exact minL_le n ns x h
theorem maxN_le {ns : List Int} {x : Int} (h : x ∈ ns) : x ≤ maxL ns := by cases ns with | nil => simp at h | cons n ns => exact maxL_le n ns x h
/-- the first place of a number -/
def idxL (ns : List Int) (y : Int) : Nat := ns.findIdx fun n => decide (n = y)
theorem findD_idx (y : Int) : ∀ (ns : List Int) (k : Nat), y ∈ ns → findD (.int y) (ns.map .int) k = some (k + idxL ns y)
  | [], _, h => by simp at h
  | n :: ns, k, h => by
    rw [List.map_cons, findD, eqD, idxL, List.findIdx_cons]
    by_cases e : n = y
    · simp [e]
    · rcases List.mem_cons.mp h with h | h
      · exact absurd h.symm e
      · rw [if_neg (by simp [e]), findD_idx y ns (k + 1) h, decide_eq_false e]
        simp only [cond_false, Option.some.injEq, idxL]
        omega
theorem index_ints {ns : List Int} {y : Int} (h : y ∈ ns) : indexO (.lst (ns.map .int)) (.int y) = some (.int (idxL ns y)) := by
  simp only [indexO, lstO, Option.bind_some, flat_ints, flat, Bool.and_self, if_true, findD_idx y ns 0 h, Option.map_some, Nat.zero_add]
  rfl
theorem idxL_lt {ns : List Int} {y : Int} (h : y ∈ ns) : idxL ns y < ns.length := List.findIdx_lt_length_of_exists ⟨y, h, by simp⟩
theorem idxL_get {ns : List Int} {y : Int} (h : y ∈ ns) : ns.getD (idxL ns y) 0 = y := by
  have hl := idxL_lt h
  have := List.findIdx_getElem (w := hl) (xs := ns) (p := fun n => decide (n = y))
  rw [List.getD_eq_getElem?_getD, List.getElem?_eq_getElem hl]
  exact of_decide_eq_true this
theorem idxL_first {ns : List Int} {y : Int} {j : Nat} (h : j < idxL ns y) (hj : j < ns.length) : ns.getD j 0 ≠ y := by
  have := List.not_of_lt_findIdx (p := fun n => decide (n = y)) h
  rw [List.getD_eq_getElem?_getD, List.getElem?_eq_getElem hj]
  exact of_decide_eq_false (by simpa using this)
/-! pairs of ints -/
def toP (q : Int × Int) : D := .tup [.int q.1, .int q.2]
theorem ord_pairs (qs : List (Int × Int)) : ordOk (qs.map toP) = true := by
  simp only [ordOk, Bool.and_eq_true, List.all_eq_true, List.mem_map]
  refine ⟨?_, ?_⟩
  · rintro _ ⟨a, _, rfl⟩ _ ⟨b, _, rfl⟩; rfl
  · rintro _ ⟨a, _, rfl⟩; rfl
theorem ints_pairs (q : Int × Int) (qs : List (Int × Int)) : intsO ((q :: qs).map toP) = none := rfl
theorem fold_mem {p : D → D → Bool} : ∀ (r : List D) (x : D), r.foldl (fun a y => if p y a then y else a) x ∈ x :: r
  | [], x => by simp
  | y :: r, x => by
    rw [List.foldl_cons]
    have := fold_mem (p := p) r (if p y x then y else x)
    rcases List.mem_cons.mp this with h | h
    · rw [h]
      split <;> simp
    · simp [h]
/-- the least pair, whatever it is -/
theorem least_pairs {qs : List (Int × Int)} (h : 0 < qs.length) : ∃ q ∈ qs, biF .min1 [.lst (qs.map toP)] = some (toP q) := by
  cases qs with
  | nil => simp at h
  | cons q qs =>
    have e : biF .min1 [.lst ((q :: qs).map toP)] = leastO (some (toP q :: qs.map toP)) := rfl
    have ho := ord_pairs (q :: qs)
    rw [List.map_cons] at ho
    rw [e, leastO, if_pos ho]
    have := fold_mem (p := fun y a => ltD y a) (qs.map toP) (toP q)
    rw [← List.map_cons] at this
    obtain ⟨q', hq, e2⟩ := List.mem_map.mp this
    exact ⟨q', hq, by rw [← e2]⟩
theorem op2_mod_nat {a b : Nat} (h : 0 < b) : op2 .mod (.int a) (.int b) = some (.int ((a % b : Nat) : Int)) := by rw [op2_mod_int (by omega), Int.natCast_emod]
theorem rangeO_ii {lo hi : Int} (h : -(2 ^ 62) ≤ lo) (h1 : hi < 2 ^ 62) (h2 : lo < 2 ^ 62) (h3 : -(2 ^ 62) ≤ hi) (h4 : hi - lo ≤ 1000000) : rangeO lo hi = some (.lst ((List.range (hi - lo).toNat).map fun k : Nat => D.int (lo + k))) := rangeO_two h h1 h2 h3 (by rw [cap_v']; omega)
theorem nxN4 {T : Nat → Fn} {i : Nat} (h : T i = ⟨2, 2, [.ret (.draw (.var 0) (.var 1))]⟩) (k : Nat) (m : Nat) (o : Or) (hm : 0 < m) : ∃ (v : Nat) (o' : Or), v < m ∧ callN T (k + 1) i [.tok, .int m] o = .ok (.int v) o' := by
  obtain ⟨v, o', h0, h1, e⟩ := nx_of h k m o (by omega)
  obtain ⟨v, rfl⟩ := Int.eq_ofNat_of_zero_le h0
  exact ⟨v, o', by omega, e⟩
/-- a comprehension over any list that draws an int each turn -/
theorem ev_compND {C : Nat → List D → Or → R D} {ρ : Env} {o o1 : Or} {s e : IE} {i : Nat} {xs : List D} {P : Int → Prop} (hs : (evE C s ρ o).seq = .ok xs o1) (he : ∀ x ∈ xs, ∀ o, ∃ m o', evE C e (setS ρ i (.val x)) o = .ok (.int m) o' ∧ P m) : ∃ (ns : List Int) (o' : Or), evE C (.comp (.slot i) s (.cst (.bool true)) e) ρ o = .ok (.lst (ns.map .int)) o' ∧ ns.length = xs.length ∧ ∀ m ∈ ns, P m := by
  obtain ⟨ns, o', h, hl, hp⟩ := compM_drawI (P := P) (xs := xs) (f := fun x o => match bindP (.slot i) x (wipeS ρ (slotsP (.slot i))) with
        | none => .no
        | some ρ => (evE C (.cst (.bool true)) ρ o).test fun t _ o => if t then (evE C e ρ o).bind fun y o => .ok (some y) o else .ok none o) (fun x hx o => by
    obtain ⟨m, o', h, hm⟩ := he x hx o
    refine ⟨m, o', ?_, hm⟩
    simp only [bindP, wipeS, slotsP, setS_setS, evE, test_bool, if_true, h, R.bind_ok]) o1
  refine ⟨ns, o', ?_, hl, hp⟩
  rw [evE, hs]
  simp only [R.bind_ok]
  exact congrArg (fun r : R (List D) => r.pure.bind fun ys o => R.ok (D.lst ys) o) h
/-! comprehensions of two walks -/
theorem comp_inner {r : R (List D)} {f : List D → Or → R (List D)} {g : List D} {o' : Or} (h : (r.bind fun xs o => (f xs o).pure.bind fun ys o => .ok (D.lst ys) o) = .ok (.lst g) o') : (r.bind fun xs o => f xs o) = .ok g o' := by
  cases r with
  | no => cases h
  | exc _ _ _ => cases h
  | ok xs o =>
    simp only [R.bind_ok] at h ⊢
    cases e : f xs o with
    | no => rw [e] at h; cases h
    | exc _ _ _ => rw [e] at h; cases h
    | ok ys o2 => rw [e] at h; cases h; rfl
theorem compL_A {α : Type} {f : D → Or → R (List D)} {g0 : α → D} {g : α → List D} {o : Or} : ∀ {ks : List α}, (∀ k ∈ ks, f (g0 k) o = .ok (g k) o) → compL f (ks.map g0) o = .ok (ks.flatMap g) o
  | [], _ => rfl
  | k :: ks, h => by
    rw [List.map_cons, compL, h k (by simp), R.bind_ok, compL_A fun j hj => h j (by simp [hj]), R.bind_ok, List.flatMap_cons]
theorem ev_comp2 {α : Type} {C : Nat → List D → Or → R D} {ρ : Env} {o o1 : Or} {s c s1 c1 e : IE} {pt p1 : IP} {ks : List α} {g0 : α → D} {g : α → List D} {p : α → Bool} {ρ1 : α → Env} (hs : (evE C s ρ o).seq = .ok (ks.map g0) o1) (hb : ∀ k ∈ ks, bindP pt (g0 k) (wipeS ρ (slotsP pt ++ slotsP p1)) = some (ρ1 k)) (hc : ∀ k ∈ ks, evE C c (ρ1 k) o1 = .ok (.bool (p k)) o1)
    (hi : ∀ k ∈ ks, p k = true → evE C (.comp p1 s1 c1 e) (ρ1 k) o1 = .ok (.lst (g k)) o1) (hl : (ks.flatMap fun k => if p k then g k else []).length ≤ cap) : evE C (.comp2 pt s c p1 s1 c1 e) ρ o = .ok (.lst (ks.flatMap fun k => if p k then g k else [])) o1 := by
  rw [evE, hs, R.bind_ok, compL_A (g := fun k => if p k then g k else [])]
  · rw [R.pure_ok, R.bind_ok, if_pos hl]
  · intro k hk
    simp only [hb k hk, hc k hk, test_bool]
    cases h : p k
    · rfl
    · have := hi k hk h
      rw [evE] at this
      simp only [if_true]
      exact comp_inner this
theorem pl_int2 (a b : Int) (n : Nat) : plD (n + 1) (.tup [.int a, .int b]) = true := by
  simp [plD, plD_int, cap]
end BV

end
/-! text: BMF.lean -/
section
set_option autoImplicit false
set_option maxRecDepth 100000
namespace BV
/-! BMF: fractions -/
def red (a b : Int) : Int × Int := (a / (Int.gcd a b : Int), b / (Int.gcd a b : Int))
section
variable {a b c d : Int}
theorem gcd_pos' (hb : 0 < b) : 0 < (Int.gcd a b : Int) := by
  have : Int.gcd a b ≠ 0 := fun h => by have := (Int.gcd_eq_zero_iff.mp h).2; omega
  omega
theorem gcd_le' (hb : 0 < b) : (Int.gcd a b : Int) ≤ b := Int.le_of_dvd hb (Int.gcd_dvd_right a b)
theorem red_mul (hb : 0 < b) : (red a b).1 * (Int.gcd a b : Int) = a ∧ (red a b).2 * (Int.gcd a b : Int) = b :=
  ⟨Int.ediv_mul_cancel (Int.gcd_dvd_left a b), Int.ediv_mul_cancel (Int.gcd_dvd_right a b)⟩
theorem red_pos (hb : 0 < b) : 0 < (red a b).2 := by
  have h := (red_mul (a := a) hb).2
  have hg := gcd_pos' (a := a) hb
  by_cases h0 : 0 < (red a b).2
  · exact h0
  · have := Int.mul_nonpos_of_nonpos_of_nonneg (show (red a b).2 ≤ 0 by omega) (Int.le_of_lt hg)
    omega
theorem red_le (hb : 0 < b) : (red a b).2 ≤ b := Int.ediv_le_self _ (by omega)
theorem red_cross (hb : 0 < b) : (red a b).1 * b = a * (red a b).2 := by
  obtain ⟨h1, h2⟩ := red_mul (a := a) hb
  generalize hx : (red a b).1 = x at *
  generalize hy : (red a b).2 = y at *
  generalize hg : (Int.gcd a b : Int) = g at *
  clear hx hy hg
  subst h1
  subst h2
  rw [Int.mul_left_comm, Int.mul_comm y, Int.mul_assoc, Int.mul_comm g y, Int.mul_left_comm]
theorem red_cop (hb : 0 < b) : Int.gcd (red a b).1 (red a b).2 = 1 := by
  have hg : 0 < Int.gcd a b := by have := gcd_pos' (a := a) hb; omega
  unfold red
  rw [Int.gcd_ediv_gcd_ediv_gcd hg]
theorem cop_dvd {p q s : Int} (h : Int.gcd p q = 1) (hd : q ∣ p * s) : q ∣ s := by
  have h1 : q.natAbs ∣ p.natAbs * s.natAbs := by rw [← Int.natAbs_mul]; exact Int.natAbs_dvd_natAbs.mpr hd
  have h2 : Nat.Coprime q.natAbs p.natAbs := Nat.Coprime.symm h
  exact Int.natAbs_dvd_natAbs.mp (h2.dvd_of_dvd_mul_left h1)
theorem cop_eq {p q r s : Int} (h1 : Int.gcd p q = 1) (h2 : Int.gcd r s = 1) (hq : 0 < q) (hs : 0 < s) (h : p * s = r * q) : p = r ∧ q = s := by
  have d1 : q ∣ s := cop_dvd h1 ⟨r, by rw [h, Int.mul_comm]⟩
  have d2 : s ∣ q := cop_dvd h2 ⟨p, by rw [← h, Int.mul_comm]⟩
  have e : q = s := Int.le_antisymm (Int.le_of_dvd hs d1) (Int.le_of_dvd hq d2)
  subst e
  exact ⟨Int.eq_of_mul_eq_mul_right (by omega) h, rfl⟩
theorem red_eq (hb : 0 < b) (hd : 0 < d) : red a b = red c d ↔ a * d = c * b := by
  have p1 := red_pos (a := a) hb
  have p2 := red_pos (a := c) hd
  have x1 := red_cross (a := a) hb
  have x2 := red_cross (a := c) hd
  constructor
  · intro h
    rw [← h] at x2
    generalize red a b = q at *
    have : (a * d) * q.2 = (c * b) * q.2 := by
      rw [Int.mul_right_comm, ← x1, Int.mul_right_comm c, ← x2, Int.mul_right_comm]
    exact Int.eq_of_mul_eq_mul_right (by omega) this
  · intro h
    have : (red a b).1 * (red c d).2 = (red c d).1 * (red a b).2 := by
      have e : ((red a b).1 * (red c d).2) * (b * d) = ((red c d).1 * (red a b).2) * (b * d) := by
        have l : ((red a b).1 * (red c d).2) * (b * d) = ((red a b).1 * b) * ((red c d).2 * d) := by
          rw [Int.mul_assoc, Int.mul_left_comm (red c d).2, ← Int.mul_assoc]
        have r : ((red c d).1 * (red a b).2) * (b * d) = ((red c d).1 * d) * ((red a b).2 * b) := by
          rw [Int.mul_assoc, Int.mul_comm b d, Int.mul_left_comm (red a b).2, ← Int.mul_assoc]
        rw [l, r, x1, x2]
        have l2 : a * (red a b).2 * ((red c d).2 * d) = (a * d) * ((red a b).2 * (red c d).2) := by
          rw [Int.mul_comm (red c d).2 d, ← Int.mul_assoc, Int.mul_right_comm a, Int.mul_assoc]
        have r2 : c * (red c d).2 * ((red a b).2 * b) = (c * b) * ((red a b).2 * (red c d).2) := by
          rw [Int.mul_comm (red a b).2 b, ← Int.mul_assoc, Int.mul_right_comm c, Int.mul_assoc, Int.mul_comm (red c d).2]
        rw [l2, r2, h]
      exact Int.eq_of_mul_eq_mul_right (by have := Int.mul_pos hb hd; omega) e
    obtain ⟨e1, e2⟩ := cop_eq (red_cop hb) (red_cop hd) p1 p2 this
    exact Prod.ext e1 e2
theorem red_id (h : Int.gcd a b = 1) : red a b = (a, b) := by
  unfold red
  rw [h]
  simp
end
/-- a loop that returns at the first item that has something -/
theorem forM_fs {α : Type} {f : D → Env → Or → Out} {g0 : α → D} {g : α → Option D} {I : Env → Prop} {o : Or} : ∀ (ks : List α), (∀ k ∈ ks, ∀ ρ, I ρ → match g k with
      | some d => f (g0 k) ρ o = .rt d o
      | none => ∃ ρ', f (g0 k) ρ o = .nx ρ' o ∧ I ρ') → ∀ {ρ}, I ρ →
    match ks.findSome? g with
    | some d => forM f (ks.map g0) ρ o = .rt d o
    | none => ∃ ρ', forM f (ks.map g0) ρ o = .nx ρ' o ∧ I ρ'
  | [], _, ρ, i => ⟨ρ, rfl, i⟩
  | k :: ks, h, ρ, i => by
    have hk := h k (by simp) ρ i
    rw [List.findSome?_cons]
    cases hg : g k with
    | some d =>
      rw [hg] at hk
      show forM f (g0 k :: ks.map g0) ρ o = _
      rw [forM, hk]; rfl
    | none =>
      rw [hg] at hk
      obtain ⟨ρ1, e, i1⟩ := hk
      have := forM_fs ks (fun j hj => h j (by simp [hj])) i1
      show match ks.findSome? g with
        | some d => forM f (g0 k :: ks.map g0) ρ o = .rt d o
        | none => ∃ ρ', forM f (g0 k :: ks.map g0) ρ o = .nx ρ' o ∧ I ρ'
      rw [forM, e]
      exact this
theorem bezout : ∀ (m n : Nat), ∃ x y : Int, (m : Int) * x + n * y = (Nat.gcd m n : Int) := by
  intro m n
  induction m, n using Nat.gcd.induction with
  | H0 n => exact ⟨0, 1, by simp⟩
  | H1 m n h ih =>
    obtain ⟨x, y, e⟩ := ih
    have hd : (n : Int) = m * (n / m : Nat) + (n % m : Nat) := by rw [← Int.natCast_mul, ← Int.natCast_add, Nat.div_add_mod]
    refine ⟨y - (n / m : Nat) * x, x, ?_⟩
    rw [Nat.gcd_rec, ← e]
    generalize ((n / m : Nat) : Int) = q at *
    generalize ((n % m : Nat) : Int) = r at *
    rw [hd]
    grind
theorem eqO_toP (p q : Int × Int) : eqO (toP p) (toP q) = some (decide (p = q)) := by
  have := eqO_TI [p.1, p.2] [q.1, q.2]
  rw [show toP p = TI [p.1, p.2] from rfl, show toP q = TI [q.1, q.2] from rfl, this]
  congr 1
  rw [decide_eq_decide]
  constructor
  · intro h
    simp only [List.cons.injEq, and_true] at h
    exact Prod.ext h.1 h.2
  · rintro rfl; rfl
/-- numbers stretched keep their order -/
theorem ssetL_map {f : Int → Int} {vs : List Int} (h : ∀ a ∈ vs, ∀ b ∈ vs, a < b → f a < f b) : ssetL (vs.map f) = (ssetL vs).map f := by
  symm
  refine ssetL_eq ?_ fun k => ?_
  · refine List.pairwise_map.mpr ?_
    refine (ssetL_up vs).imp_of_mem fun ha hb hab => h _ ((ssetL_mem _ _).mp ha) _ ((ssetL_mem _ _).mp hb) hab
  · simp only [List.mem_map, ssetL_mem]
theorem maps_of {α : Type} {f : α → D} {P : α → Prop} : ∀ {ys : List D}, (∀ y ∈ ys, ∃ a, y = f a ∧ P a) → ∃ as : List α, ys = as.map f ∧ ∀ a ∈ as, P a
  | [], _ => ⟨[], rfl, by simp⟩
  | y :: ys, h => by
    obtain ⟨a, rfl, ha⟩ := h y (by simp)
    obtain ⟨as, rfl, hp⟩ := maps_of (ys := ys) fun z hz => h z (by simp [hz])
    exact ⟨a :: as, rfl, by simpa using ⟨ha, hp⟩⟩
/-- a comprehension that draws -/
theorem ev_compDr {α : Type} {C : Nat → List D → Or → R D} {ρ : Env} {o o1 : Or} {s e : IE} {i : Nat} {xs : List D} {f : α → D} {P : α → Prop} (hs : (evE C s ρ o).seq = .ok xs o1) (he : ∀ x ∈ xs, ∀ o, ∃ a o', evE C e (setS ρ i (.val x)) o = .ok (f a) o' ∧ P a) : ∃ (as : List α) (o' : Or), evE C (.comp (.slot i) s (.cst (.bool true)) e) ρ o = .ok (.lst (as.map f)) o' ∧ as.length = xs.length ∧ ∀ a ∈ as, P a := by
  obtain ⟨ys, o', h, hl, hp⟩ := compM_draw (P := fun y => ∃ a, y = f a ∧ P a) (xs := xs) (f := fun x o => match bindP (.slot i) x (wipeS ρ (slotsP (.slot i))) with
        | none => .no
        | some ρ => (evE C (.cst (.bool true)) ρ o).test fun t _ o => if t then (evE C e ρ o).bind fun y o => .ok (some y) o else .ok none o) (fun x hx o => by
    obtain ⟨a, o', h, hm⟩ := he x hx o
    refine ⟨f a, o', ?_, a, rfl, hm⟩
    simp only [bindP, wipeS, slotsP, setS_setS, evE, test_bool, if_true, h, R.bind_ok]) o1
  obtain ⟨as, rfl, ha⟩ := maps_of hp
  refine ⟨as, o', ?_, by simpa using hl, ha⟩
  rw [evE, hs]
  simp only [R.bind_ok]
  exact congrArg (fun r : R (List D) => r.pure.bind fun ys o => R.ok (D.lst ys) o) h
theorem ev_rangeZ {C : Nat → List D → Or → R D} {ρ : Env} {o o1 : Or} {e : IE} {n : Int} (h : evE C e ρ o = .ok (.int n) o1) (h0 : -1000000 ≤ n) (h1 : n ≤ 1000000) : evE C (.bi .range [e]) ρ o = .ok (.lst (RI n.toNat)) o1 := by
  refine ev_bi1 h ?_
  rw [bi_rng1]
  by_cases hn : 0 ≤ n
  · rw [rangeO_nat hn (by rw [cap_v']; omega)]
  · rw [rangeO_neg (by omega) (by omega), show n.toNat = 0 by omega]; rfl
theorem list28 {l : Env} (h : l.length = 28) : ∃ a0 a1 a2 a3 a4 a5 a6 a7 a8 a9 a10 a11 a12 a13 a14 a15 a16 a17 a18 a19 a20 a21 a22 a23 a24 a25 a26 a27, l = [a0, a1, a2, a3, a4, a5, a6, a7, a8, a9, a10, a11, a12, a13, a14, a15, a16, a17, a18, a19, a20, a21, a22, a23, a24, a25, a26, a27] := by
  match l, h with
  | [a0, a1, a2, a3, a4, a5, a6, a7, a8, a9, a10, a11, a12, a13, a14, a15, a16, a17, a18, a19, a20, a21, a22, a23, a24, a25, a26, a27], _ => exact ⟨a0, a1, a2, a3, a4, a5, a6, a7, a8, a9, a10, a11, a12, a13, a14, a15, a16, a17, a18, a19, a20, a21, a22, a23, a24, a25, a26, a27, rfl⟩
theorem pickN {T : Nat → Fn} {i n : Nat} (hn : T n = ⟨2, 2, [.ret (.draw (.var 0) (.var 1))]⟩) (h : T i = ⟨2, 2, [.ret (.op2 .ix (.var 1) (.call n [(.var 0), (.bi .len [(.var 1)])]))]⟩) (k : Nat) (rows : List D) (hr : 0 < rows.length) (o : Or) : ∃ (j : Nat) (hj : j < rows.length) (o' : Or), callN T (k + 2) i [.tok, .lst rows] o = .ok rows[j] o' := by
  obtain ⟨v, o', hv, e⟩ := nxN4 hn k rows.length o hr
  exact ⟨v, hv, o', call_rt h (stR (st_ret (ev_op2 (ev_var rfl) (ev_call2 (ev_var rfl) (ev_bi1 (ev_var rfl) (bi_len_lst _)) e) (by rw [op2_ix_lst, atI_nat' _ _ hv]))))⟩
theorem filt_allI {α : Type} (p : α → Bool) (ks : List α) : (ks.filter fun j => !p j).isEmpty = ks.all p := by
  induction ks with
  | nil => rfl
  | cons k ks ih =>
    rw [List.filter_cons, List.all_cons, ← ih]
    cases p k <;> rfl
/-! common, _law_gcd -/
def iCommon : List IS := [.par [(0, false), (1, false)] [(.bi .abs [(.var 0)]), (.bi .abs [(.var 1)])],
    .whl 100000000 (.op2 .gt (.var 1) (.cst (.int 0))) [.par [(0, false), (1, false)] [(.var 1), (.op2 .mod (.var 0) (.var 1))]],
    .ret (.var 0)]
def iGcd : List IS := [.par [(2, false), (3, false)] [(.bi .abs [(.var 0)]), (.bi .abs [(.var 1)])],
    .whl 100000000 (.op2 .ne (.var 3) (.cst (.int 0))) [.par [(2, false), (3, false)] [(.var 3), (.op2 .mod (.bi .int [(.var 2)]) (.var 3))]],
    .ret (.var 2)]
theorem abs_nat (a : Int) : (if a < 0 then -a else a) = ((a.natAbs : Nat) : Int) := by split <;> omega
theorem gcd_step (x y : Nat) : Nat.gcd x y = Nat.gcd y (x % y) := by rw [Nat.gcd_comm, Nat.gcd_rec, Nat.gcd_comm]
theorem gt_ii (a b : Int) : op2 .gt (.int a) (.int b) = some (.bool (decide (b < a))) := rfl
theorem whl_common {C : Nat → List D → Or → R D} (o : Or) : ∀ (N x y : Nat), y < N →
    whileM (fun ρ o => evE C (.op2 .gt (.var 1) (.cst (.int 0))) ρ o) (fun ρ o => evSs C [.par [(0, false), (1, false)] [(.var 1), (.op2 .mod (.var 0) (.var 1))]] ρ o) N [.val (.int x), .val (.int y)] o = .nx [.val (.int (Nat.gcd x y)), .val (.int 0)] o
  | 0, x, y, h => by omega
  | N + 1, x, y, h => by
    have e := ev_op2 (C := C) (ρ := [.val (.int x), .val (.int y)]) (o := o) (a := .var 1) (b := .cst (.int 0)) (ev_var rfl) ev_cst (gt_ii _ _)
    rw [whileM, e, R.out_ok]
    by_cases hy : 0 < y
    · rw [decide_eq_true (show (0 : Int) < y by omega)]
      have b : evSs C [.par [(0, false), (1, false)] [(.var 1), (.op2 .mod (.var 0) (.var 1))]] [.val (.int x), .val (.int y)] o = .nx [.val (.int y), .val (.int ((x % y : Nat) : Int))] o :=
        stp (st_par (evs_cons (ev_var rfl) (evs_cons (ev_op2 (ev_var rfl) (ev_var rfl) (op2_mod_nat hy)) evs_nil)) rfl) (evSs_nil' _ _ _)
      simp only [truth, b, Out.turn]
      rw [whl_common o N y (x % y) (by have := Nat.mod_lt x hy; omega), ← gcd_step]
    · have h0 : y = 0 := by omega
      subst h0
      rw [decide_eq_false (show ¬ (0 : Int) < ((0 : Nat) : Int) by omega)]
      simp only [truth, Nat.gcd_zero_right]
      rfl
theorem whl_gcd {C : Nat → List D → Or → R D} (o : Or) (u v : Sl) : ∀ (N x y : Nat), y < N →
    whileM (fun ρ o => evE C (.op2 .ne (.var 3) (.cst (.int 0))) ρ o) (fun ρ o => evSs C [.par [(2, false), (3, false)] [(.var 3), (.op2 .mod (.bi .int [(.var 2)]) (.var 3))]] ρ o) N [u, v, .val (.int x), .val (.int y)] o = .nx [u, v, .val (.int (Nat.gcd x y)), .val (.int 0)] o
  | 0, x, y, h => by omega
  | N + 1, x, y, h => by
    have e := ev_op2 (C := C) (ρ := [u, v, .val (.int x), .val (.int y)]) (o := o) (a := .var 3) (b := .cst (.int 0)) (ev_var rfl) ev_cst (op2_ne_int _ _)
    rw [whileM, e, R.out_ok]
    by_cases hy : 0 < y
    · rw [decide_eq_false (show ¬ ((y : Nat) : Int) = 0 by omega), Bool.not_false]
      have b : evSs C [.par [(2, false), (3, false)] [(.var 3), (.op2 .mod (.bi .int [(.var 2)]) (.var 3))]] [u, v, .val (.int x), .val (.int y)] o = .nx [u, v, .val (.int y), .val (.int ((x % y : Nat) : Int))] o :=
        stp (st_par (evs_cons (ev_var rfl) (evs_cons (ev_op2 (ev_bi1 (ev_var rfl) (bi_int _)) (ev_var rfl) (op2_mod_nat hy)) evs_nil)) rfl) (evSs_nil' _ _ _)
      simp only [truth, b, Out.turn]
      rw [whl_gcd o u v N y (x % y) (by have := Nat.mod_lt x hy; omega), ← gcd_step]
    · have h0 : y = 0 := by omega
      subst h0
      rw [decide_eq_true (show ((0 : Nat) : Int) = 0 from rfl), Bool.not_true]
      simp only [truth, Nat.gcd_zero_right]
      rfl
theorem common_ok {T : Nat → Fn} {f : Nat} (h : T f = ⟨2, 2, iCommon⟩) (k : Nat) (a b : Int) (hb : b.natAbs < 100000000) (o : Or) : callN T (k + 1) f [.int a, .int b] o = .ok (.int (Int.gcd a b)) o := by
  refine call_rt h (stp (st_par (evs_cons (ev_bi1 (ev_var rfl) (bi_abs a)) (evs_cons (ev_bi1 (ev_var rfl) (bi_abs b)) evs_nil)) rfl) (stp (ρ1 := [.val (.int (Int.gcd a b)), .val (.int 0)]) (o1 := o) ?_ (stR (st_ret (ev_var rfl)))))
  rw [evS, abs_nat, abs_nat]
  exact whl_common o _ _ _ hb
theorem gcd_ok {T : Nat → Fn} {f : Nat} (h : T f = ⟨2, 4, iGcd⟩) (k : Nat) (a b : Int) (hb : b.natAbs < 100000000) (o : Or) : callN T (k + 1) f [.int a, .int b] o = .ok (.int (Int.gcd a b)) o := by
  refine call_rt h (stp (st_par (evs_cons (ev_bi1 (ev_var rfl) (bi_abs a)) (evs_cons (ev_bi1 (ev_var rfl) (bi_abs b)) evs_nil)) rfl) (stp (ρ1 := [.val (.int a), .val (.int b), .val (.int (Int.gcd a b)), .val (.int 0)]) (o1 := o) ?_ (stR (st_ret (ev_var rfl)))))
  rw [evS, abs_nat, abs_nat]
  exact whl_gcd o _ _ _ _ _ hb
/-! fraction, _law_fraction -/
def iFrac (c : Nat) : List IS := [.set (.slot 2) (.ite (.op2 .gt (.var 1) (.cst (.int 0))) (.call c [(.var 0), (.var 1)]) (.op1 .neg (.call c [(.var 0), (.var 1)]))),
    .ret (.tup [(.op2 .fdiv (.var 0) (.var 2)), (.op2 .fdiv (.var 1) (.var 2))])]
theorem frac_ok {T : Nat → Fn} {c f : Nat} (hc : T c = ⟨2, 2, iCommon⟩) (h : T f = ⟨2, 3, iFrac c⟩) (k : Nat) (a b : Int) (h0 : 0 < b) (h1 : b < 100000000) (o : Or) : callN T (k + 2) f [.int a, .int b] o = .ok (toP (red a b)) o := by
  have hg := gcd_pos' (a := a) h0
  have hl := gcd_le' (a := a) h0
  have e := common_ok hc k a b (by omega) o
  refine call_rt h (stp (st_set (d := .int (Int.gcd a b)) (o1 := o) ?_) (stR (st_ret (ev_tup (evs_cons (ev_op2 (ev_var rfl) (ev_var rfl) (op2_fdiv_int hg (by omega))) (evs_cons (ev_op2 (ev_var rfl) (ev_var rfl) (op2_fdiv_int hg (by omega))) evs_nil))))))
  have et := ev_op2 (C := callN T (k + 1)) (ρ := startS 3 [.int a, .int b]) (o := o) (a := .var 1) (b := .cst (.int 0)) (ev_var rfl) ev_cst (gt_ii _ _)
  rw [decide_eq_true h0] at et
  exact ev_iteT et (ev_call2 (ev_var rfl) (ev_var rfl) e)
def iLFrac (c : Nat) : List IS := [.set (.slot 2) (.call c [(.var 0), (.var 1)]),
    .ret (.ite (.op2 .gt (.var 1) (.cst (.int 0))) (.tup [(.op2 .fdiv (.var 0) (.var 2)), (.op2 .fdiv (.var 1) (.var 2))]) (.tup [(.op2 .sub (.cst (.int 0)) (.op2 .fdiv (.var 0) (.var 2))), (.op2 .sub (.cst (.int 0)) (.op2 .fdiv (.var 1) (.var 2)))]))]
theorem lfrac_ok {T : Nat → Fn} {c f : Nat} (hc : T c = ⟨2, 4, iGcd⟩) (h : T f = ⟨2, 3, iLFrac c⟩) (k : Nat) (a b : Int) (h0 : 0 < b) (h1 : b < 100000000) (o : Or) : callN T (k + 2) f [.int a, .int b] o = .ok (toP (red a b)) o := by
  have hg := gcd_pos' (a := a) h0
  have hl := gcd_le' (a := a) h0
  have e := gcd_ok hc k a b (by omega) o
  have et := ev_op2 (C := callN T (k + 1)) (ρ := [.val (.int a), .val (.int b), .val (.int (Int.gcd a b))]) (o := o) (a := .var 1) (b := .cst (.int 0)) (ev_var rfl) ev_cst (gt_ii _ _)
  rw [decide_eq_true h0] at et
  exact call_rt h (stp (st_set (ev_call2 (ev_var rfl) (ev_var rfl) e)) (stR (st_ret (ev_iteT et (ev_tup (evs_cons (ev_op2 (ev_var rfl) (ev_var rfl) (op2_fdiv_int hg (by omega))) (evs_cons (ev_op2 (ev_var rfl) (ev_var rfl) (op2_fdiv_int hg (by omega))) evs_nil)))))))
theorem mul_r {a b : Int} (h0 : -100000000 < b) (h1 : b < 100000000) : op2 .mul (.int a) (.int b) = some (.int (a * b)) := op2_mul_int (by
  simp only [mulOk, Bool.or_eq_true, Bool.and_eq_true, decide_eq_true_eq]
  right; omega)
theorem mul_l {a b : Int} (h0 : -100000000 < a) (h1 : a < 100000000) : op2 .mul (.int a) (.int b) = some (.int (a * b)) := op2_mul_int (by
  simp only [mulOk, Bool.or_eq_true, Bool.and_eq_true, decide_eq_true_eq]
  left; omega)
theorem ix_p0 (q : Int × Int) : op2 .ix (toP q) (.int 0) = some (.int q.1) := rfl
theorem ix_p1 (q : Int × Int) : op2 .ix (toP q) (.int 1) = some (.int q.2) := rfl
end BV

end
/-! text: k51_IR.lean -/
section
namespace Lk51
open BV
/-- is_number(thing); 0:thing -/
def i0 : List IS := [.ret (.and (.bi (.isT .int) [(.var 0)]) (.op1 .not (.bi (.isT .bool) [(.var 0)])))]
/-- is_from(thing, least); 0:thing 1:least -/
def i1 : List IS := [.ret (.and (.call 0 [(.var 0)]) (.op2 .ge (.var 0) (.var 1)))]
/-- are_numbers(thing); 0:thing 1:one -/
def i2 : List IS := [.ret (.and (.bi (.isT .tup) [(.var 0)]) (.bi .all [(.comp (.slot 1) (.var 0) (.cst (.bool true)) (.call 0 [(.var 1)]))]))]
/-- pulses_of(digits, gap, wait); 0:digits 1:gap 2:wait 3:found 4:time 5:digit 6:k -/
def i3 : List IS := [.setO 3 (.lst []),
    .set (.slot 4) (.cst (.int 0)),
    .for_ (.slot 5) (.var 0) [.for_ (.slot 6) (.bi .range [(.ite (.op2 .gt (.var 5) (.cst (.int 0))) (.var 5) (.cst (.int 10)))]) [.app 3 (.op2 .add (.var 4) (.op2 .mul (.var 6) (.var 1)))],
    .set (.slot 4) (.op2 .add (.op2 .ix (.pk 3) (.op1 .neg (.cst (.int 1)))) (.var 2))],
    .ret (.bi .tuple [(.pk 3)])]
/-- are_pulses(thing); 0:thing 1:k -/
def i4 : List IS := [.ret (.and (.call 2 [(.var 0)]) (.bi .all [(.comp (.slot 1) (.bi .range [(.op2 .sub (.bi .len [(.var 0)]) (.cst (.int 1)))]) (.cst (.bool true)) (.op2 .lt (.op2 .ix (.var 0) (.var 1)) (.op2 .ix (.var 0) (.op2 .add (.var 1) (.cst (.int 1))))))]))]
/-- groups_of(times, least); 0:times 1:least 2:found 3:k -/
def i5 : List IS := [.setO 2 (.lst []),
    .for_ (.slot 3) (.bi .range [(.bi .len [(.var 0)])]) [.ifs (.and (.op2 .gt (.var 3) (.cst (.int 0))) (.op2 .lt (.op2 .sub (.op2 .ix (.var 0) (.var 3)) (.op2 .ix (.var 0) (.op2 .sub (.var 3) (.cst (.int 1))))) (.var 1))) [.augI 2 (.op1 .neg (.cst (.int 1))) .add (.cst (.int 1))] [.app 2 (.cst (.int 1))]],
    .ret (.bi .tuple [(.pk 2)])]
/-- figures_of(groups); 0:groups 1:group -/
def i6 : List IS := [.ifs (.bi .any [(.comp (.slot 1) (.var 0) (.cst (.bool true)) (.op2 .gt (.var 1) (.cst (.int 10))))]) [.ret (.cst .non)] [],
    .ret (.bi .tuple [(.comp (.slot 1) (.var 0) (.cst (.bool true)) (.op2 .mod (.var 1) (.cst (.int 10))))])]
/-- read_pulses(times, least); 0:times 1:least -/
def i7 : List IS := [.ret (.call 6 [(.call 5 [(.var 0), (.var 1)])])]
/-- gaps_of(times); 0:times 1:k -/
def i8 : List IS := [.ret (.bi .tuple [(.bi .sset [(.comp (.slot 1) (.bi .range [(.op2 .sub (.bi .len [(.var 0)]) (.cst (.int 1)))]) (.cst (.bool true)) (.op2 .sub (.op2 .ix (.var 0) (.op2 .add (.var 1) (.cst (.int 1)))) (.op2 .ix (.var 0) (.var 1))))])])]
/-- readings(times); 0:times 1:found 2:least 3:told -/
def i9 : List IS := [.setO 1 (.lst []),
    .for_ (.slot 2) (.ite (.op2 .gt (.bi .len [(.var 0)]) (.cst (.int 1))) (.op2 .add (.call 8 [(.var 0)]) (.tup [(.op2 .add (.op2 .ix (.call 8 [(.var 0)]) (.op1 .neg (.cst (.int 1)))) (.cst (.int 1)))])) (.tup [(.cst (.int 1))])) [.set (.slot 3) (.call 7 [(.var 0), (.var 2)]),
    .ifs (.op2 .isNot (.var 3) (.cst .non)) [.app 1 (.tup [(.var 2), (.var 3)])] []],
    .ret (.bi .tuple [(.pk 1)])]
/-- bounds_for(times, digits); 0:times 1:digits 2:able 3:gaps 4:below 5:first 6:least 7:told 8:gap -/
def i10 : List IS := [.set (.slot 2) (.comp (.tup [(.slot 6), (.slot 7)]) (.call 9 [(.var 0)]) (.op2 .eq (.var 7) (.bi .tuple [(.var 1)])) (.var 6)),
    .ifs (.op2 .eq (.var 2) (.lst [])) [.ret (.cst .non)] [],
    .set (.slot 3) (.call 8 [(.var 0)]),
    .set (.slot 4) (.comp (.slot 8) (.var 3) (.op2 .lt (.var 8) (.op2 .ix (.var 2) (.cst (.int 0)))) (.var 8)),
    .set (.slot 5) (.ite (.op2 .ne (.var 4) (.lst [])) (.op2 .add (.op2 .ix (.var 4) (.op1 .neg (.cst (.int 1)))) (.cst (.int 1))) (.cst (.int 1))),
    .ret (.tup [(.var 5), (.ite (.or (.op2 .eq (.var 3) (.tup [])) (.op2 .gt (.op2 .ix (.var 2) (.op1 .neg (.cst (.int 1)))) (.op2 .ix (.var 3) (.op1 .neg (.cst (.int 1)))))) (.cst .non) (.op2 .ix (.var 2) (.op1 .neg (.cst (.int 1)))))])]
/-- could_be_sent(times, least, most); 0:times 1:least 2:most 3:groups 4:rows 5:group 6:longer 7:lost 8:row 9:more 10:_ -/
def i11 : List IS := [.set (.slot 3) (.call 5 [(.var 0), (.var 1)]),
    .set (.slot 4) (.lst [(.tup [(.cst (.int 0)), (.tup [])])]),
    .for_ (.slot 5) (.var 3) [.setO 6 (.lst []),
    .for_ (.tup [(.slot 7), (.slot 8)]) (.var 4) [.for_ (.slot 9) (.bi .range [(.op2 .add (.op2 .sub (.var 2) (.var 7)) (.cst (.int 1)))]) [.ifs (.op2 .le (.op2 .add (.var 5) (.var 9)) (.cst (.int 10))) [.app 6 (.tup [(.op2 .add (.var 7) (.var 9)), (.op2 .add (.var 8) (.tup [(.op2 .mod (.op2 .add (.var 5) (.var 9)) (.cst (.int 10)))]))])] []]],
    .frz 6,
    .set (.slot 4) (.var 6)],
    .ret (.bi .tuple [(.bi .ssetT [(.comp (.tup [(.slot 10), (.slot 8)]) (.var 4) (.cst (.bool true)) (.var 8))])])]
/-- count_pulses(digits); 0:digits 1:digit -/
def i12 : List IS := [.ret (.bi .sum [(.comp (.slot 1) (.var 0) (.cst (.bool true)) (.ite (.op2 .gt (.var 1) (.cst (.int 0))) (.var 1) (.cst (.int 10))))])]
/-- is_dialled(times, gap, slack); 0:times 1:gap 2:slack 3:k 4:step -/
def i13 : List IS := [.for_ (.slot 3) (.bi .range [(.op2 .sub (.bi .len [(.var 0)]) (.cst (.int 1)))]) [.set (.slot 4) (.op2 .sub (.op2 .ix (.var 0) (.op2 .add (.var 3) (.cst (.int 1)))) (.op2 .ix (.var 0) (.var 3))),
    .ifs (.and (.op2 .gt (.bi .abs [(.op2 .sub (.var 4) (.var 1))]) (.var 2)) (.op2 .le (.var 4) (.op2 .mul (.cst (.int 2)) (.var 1)))) [.ret (.cst (.bool false))] []],
    .ret (.call 1 [(.var 1), (.cst (.int 1))])]
/-- _law_draws(script, many); 0:script 1:many 2:draws 3:seed 4:cell 5:number 6:k -/
def i14 : List IS := [.setO 2 (.lst []),
    .set (.slot 3) (.cst (.int 7)),
    .for_ (.slot 4) (.var 0) [.set (.slot 5) (.bi .abs [(.bi .int [(.var 4)])]),
    .set (.slot 3) (.op2 .mod (.bi .int [(.op2 .add (.op2 .add (.op2 .mul (.var 3) (.cst (.int 48271))) (.var 5)) (.cst (.int 1)))]) (.cst (.int 2147483647))),
    .ifs (.op2 .lt (.var 5) (.op2 .pow (.cst (.int 10)) (.cst (.int 18)))) [.app 2 (.op2 .mod (.bi .int [(.var 5)]) (.cst (.int 997))),
    .app 2 (.op2 .mod (.bi .int [(.var 3)]) (.cst (.int 65521))),
    .set (.slot 5) (.cst (.int 0))] [],
    .for_ (.slot 6) (.bi .range [(.cst (.int 60))]) [.ifs (.op2 .gt (.var 5) (.cst (.int 0))) [.app 2 (.op2 .mod (.bi .int [(.var 5)]) (.cst (.int 997))),
    .set (.slot 5) (.op2 .fdiv (.var 5) (.cst (.int 997)))] []]],
    .for_ (.slot 6) (.bi .range [(.var 1)]) [.set (.slot 3) (.op2 .mod (.bi .int [(.op2 .add (.op2 .mul (.var 3) (.cst (.int 48271))) (.cst (.int 69621)))]) (.cst (.int 2147483647))),
    .app 2 (.op2 .fdiv (.var 3) (.cst (.int 5)))],
    .frz 2,
    .ret (.var 2)]
/-- _law_next(w, many); 0:w 1:many -/
def i15 : List IS := [.ret (.draw (.var 0) (.var 1))]
/-- _law_pick(w, some); 0:w 1:some -/
def i16 : List IS := [.ret (.op2 .ix (.var 1) (.call 15 [(.var 0), (.bi .len [(.var 1)])]))]
/-- _law_same(actual, due); 0:actual 1:due 2:k 3:key -/
def i17 : List IS := [.ifs (.op2 .is (.var 1) (.cst .non)) [.ret (.op2 .is (.var 0) (.cst .non))] [],
    .ifs (.or (.bi (.isT .tup) [(.var 1)]) (.bi (.isT .lst) [(.var 1)])) [.ifs (.or (.op2 .ne (.bi (.isT .tup) [(.var 1)]) (.bi (.isT .tup) [(.var 0)])) (.op2 .ne (.bi (.isT .lst) [(.var 1)]) (.bi (.isT .lst) [(.var 0)]))) [.ret (.cst (.bool false))] [],
    .ifs (.op2 .ne (.bi .len [(.var 0)]) (.bi .len [(.var 1)])) [.ret (.cst (.bool false))] [],
    .for_ (.slot 2) (.bi .range [(.bi .len [(.var 1)])]) [.ifs (.op1 .not (.call 17 [(.op2 .ix (.var 0) (.var 2)), (.op2 .ix (.var 1) (.var 2))])) [.ret (.cst (.bool false))] []],
    .ret (.cst (.bool true))] [],
    .ifs (.bi (.isT .dic) [(.var 1)]) [.ifs (.or (.op1 .not (.bi (.isT .dic) [(.var 0)])) (.op2 .ne (.bi .len [(.var 0)]) (.bi .len [(.var 1)]))) [.ret (.cst (.bool false))] [],
    .ret (.op2 .eq (.comp (.slot 3) (.var 1) (.or (.op2 .notIn (.var 3) (.var 0)) (.op1 .not (.call 17 [(.op2 .ix (.var 0) (.var 3)), (.op2 .ix (.var 1) (.var 3))]))) (.var 3)) (.lst []))] [],
    .ifs (.op2 .ne (.bi (.isT .bool) [(.var 1)]) (.bi (.isT .bool) [(.var 0)])) [.ret (.cst (.bool false))] [],
    .ifs (.or (.op2 .ne (.bi (.isT .int) [(.var 1)]) (.bi (.isT .int) [(.var 0)])) (.op2 .ne (.bi (.isT .str) [(.var 1)]) (.bi (.isT .str) [(.var 0)]))) [.ret (.cst (.bool false))] [],
    .ret (.op2 .eq (.var 0) (.var 1))]
/-- _law_pulses(digits, gap, wait); 0:digits 1:gap 2:wait 3:found 4:time 5:digit 6:many 7:k -/
def i18 : List IS := [.par [(3, false), (4, false)] [(.lst []), (.cst (.int 0))],
    .for_ (.slot 5) (.var 0) [.set (.slot 6) (.op2 .add (.var 5) (.op2 .mul (.cst (.int 10)) (.bi .int [(.op2 .eq (.var 5) (.cst (.int 0)))]))),
    .set (.slot 3) (.op2 .add (.var 3) (.comp (.slot 7) (.bi .range [(.var 6)]) (.cst (.bool true)) (.op2 .add (.var 4) (.op2 .mul (.var 7) (.var 1))))),
    .set (.slot 4) (.op2 .add (.op2 .add (.var 4) (.op2 .mul (.op2 .sub (.var 6) (.cst (.int 1))) (.var 1))) (.var 2))],
    .ret (.bi .tuple [(.var 3)])]
/-- _law_groups(times, least); 0:times 1:least 2:marks 3:k -/
def i19 : List IS := [.set (.slot 2) (.op2 .add (.comp (.slot 3) (.bi .range [(.bi .len [(.var 0)])]) (.or (.op2 .eq (.var 3) (.cst (.int 0))) (.op2 .ge (.op2 .sub (.op2 .ix (.var 0) (.var 3)) (.op2 .ix (.var 0) (.op2 .sub (.var 3) (.cst (.int 1))))) (.var 1))) (.var 3)) (.lst [(.bi .len [(.var 0)])])),
    .ret (.bi .tuple [(.comp (.slot 3) (.bi .range [(.op2 .sub (.bi .len [(.var 2)]) (.cst (.int 1)))]) (.op2 .lt (.op2 .ix (.var 2) (.var 3)) (.bi .len [(.var 0)])) (.op2 .sub (.op2 .ix (.var 2) (.op2 .add (.var 3) (.cst (.int 1)))) (.op2 .ix (.var 2) (.var 3))))])]
/-- _law_figures(groups); 0:groups 1:group -/
def i20 : List IS := [.ifs (.op2 .ne (.comp (.slot 1) (.var 0) (.op2 .gt (.var 1) (.cst (.int 10))) (.var 1)) (.lst [])) [.ret (.cst .non)] [],
    .ret (.bi .tuple [(.comp (.slot 1) (.var 0) (.cst (.bool true)) (.op2 .mod (.bi .int [(.var 1)]) (.cst (.int 10))))])]
/-- _law_gaps(times); 0:times 1:k -/
def i21 : List IS := [.ret (.bi .tuple [(.bi .sset [(.comp (.slot 1) (.bi .range [(.op2 .sub (.bi .len [(.var 0)]) (.cst (.int 1)))]) (.cst (.bool true)) (.op2 .sub (.op2 .ix (.var 0) (.op2 .add (.var 1) (.cst (.int 1)))) (.op2 .ix (.var 0) (.var 1))))])])]
/-- _law_sent(groups, most); 0:groups 1:most 2:rows 3:group 4:longer 5:row 6:more 7:k -/
def i22 : List IS := [.set (.slot 2) (.lst [(.tup [])]),
    .for_ (.slot 3) (.var 0) [.set (.slot 4) (.lst []),
    .for_ (.slot 5) (.var 2) [.set (.slot 4) (.op2 .add (.var 4) (.comp (.slot 6) (.bi .range [(.op2 .add (.var 1) (.cst (.int 1)))]) (.and (.op2 .le (.op2 .add (.bi .sum [(.var 5)]) (.var 6)) (.var 1)) (.op2 .le (.op2 .add (.var 3) (.var 6)) (.cst (.int 10)))) (.op2 .add (.var 5) (.tup [(.var 6)]))))],
    .set (.slot 2) (.var 4)],
    .ret (.bi .tuple [(.bi .ssetT [(.comp (.slot 5) (.var 2) (.cst (.bool true)) (.bi .tuple [(.comp (.slot 7) (.bi .range [(.bi .len [(.var 5)])]) (.cst (.bool true)) (.op2 .mod (.bi .int [(.op2 .add (.op2 .ix (.var 0) (.var 7)) (.op2 .ix (.var 5) (.var 7)))]) (.cst (.int 10))))]))])])]
/-- _law_times(w); 0:w 1:found 2:time 3:k 4:gap 5:times -/
def i23 : List IS := [.ifs (.op2 .eq (.call 15 [(.var 0), (.cst (.int 3))]) (.cst (.int 0))) [.par [(1, true), (2, false)] [(.lst []), (.call 15 [(.var 0), (.cst (.int 5))])],
    .for_ (.slot 3) (.bi .range [(.call 15 [(.var 0), (.cst (.int 12))])]) [.app 1 (.var 2),
    .set (.slot 2) (.op2 .add (.op2 .add (.var 2) (.cst (.int 1))) (.call 16 [(.var 0), (.lst [(.cst (.int 0)), (.cst (.int 1)), (.cst (.int 1)), (.call 15 [(.var 0), (.cst (.int 9))])])]))],
    .ret (.bi .tuple [(.pk 1)])] [],
    .set (.slot 4) (.op2 .add (.cst (.int 1)) (.call 15 [(.var 0), (.cst (.int 4))])),
    .set (.slot 5) (.call 18 [(.comp (.slot 3) (.bi .range [(.call 15 [(.var 0), (.cst (.int 5))])]) (.cst (.bool true)) (.call 15 [(.var 0), (.cst (.int 10))])), (.var 4), (.op2 .add (.op2 .add (.var 4) (.cst (.int 1))) (.call 15 [(.var 0), (.cst (.int 9))]))]),
    .ret (.bi .tuple [(.comp (.slot 2) (.var 5) (.op2 .gt (.call 15 [(.var 0), (.cst (.int 12))]) (.cst (.int 0))) (.var 2))])]
/-- law(script); 0:script 1:w 2:turn 3:digits 4:gap 5:wait 6:due 7:times 8:gaps 9:least 10:groups 11:marks 12:rows 13:fits 14:bounds 15:most 16:slack 17:thing 18:got 19:one 20:row 21:k 22:digit -/
def i24 : List IS := [.for_ (.slot 2) (.bi .range [(.cst (.int 5))]) [.par [(3, false), (4, false), (5, false)] [(.bi .tuple [(.comp (.slot 21) (.bi .range [(.call 15 [(.var 1), (.cst (.int 6))])]) (.cst (.bool true)) (.call 15 [(.var 1), (.cst (.int 10))]))]), (.op2 .add (.cst (.int 1)) (.call 15 [(.var 1), (.cst (.int 9))])), (.op2 .add (.cst (.int 1)) (.call 15 [(.var 1), (.cst (.int 20))]))],
    .set (.slot 6) (.lst [(.call 18 [(.var 3), (.var 4), (.var 5)]), (.bi .sum [(.comp (.slot 22) (.var 3) (.cst (.bool true)) (.op2 .add (.var 22) (.op2 .mul (.cst (.int 10)) (.bi .int [(.op2 .eq (.var 22) (.cst (.int 0)))]))))])]),
    .ifs (.op1 .not (.call 17 [(.lst [(.call 3 [(.var 3), (.var 4), (.var 5)]), (.call 12 [(.var 3)])]), (.var 6)])) [.ret (.cst (.bool false))] [],
    .ifs (.and (.op2 .gt (.var 5) (.var 4)) (.op1 .not (.call 17 [(.call 7 [(.op2 .ix (.var 6) (.cst (.int 0))), (.op2 .add (.var 4) (.cst (.int 1)))]), (.var 3)]))) [.ret (.cst (.bool false))] [],
    .set (.slot 7) (.call 23 [(.var 1)]),
    .par [(8, false), (9, false)] [(.call 21 [(.var 7)]), (.op2 .add (.cst (.int 1)) (.call 15 [(.var 1), (.cst (.int 14))]))],
    .set (.slot 10) (.call 19 [(.var 7), (.var 9)]),
    .ifs (.op1 .not (.call 17 [(.lst [(.call 8 [(.var 7)]), (.call 5 [(.var 7), (.var 9)]), (.call 6 [(.var 10)]), (.call 7 [(.var 7), (.var 9)]), (.call 4 [(.var 7)])]), (.lst [(.var 8), (.var 10), (.call 20 [(.var 10)]), (.call 20 [(.var 10)]), (.cst (.bool true))])])) [.ret (.cst (.bool false))] [],
    .set (.slot 11) (.tup [(.cst (.int 1))]),
    .ifs (.op2 .ne (.var 8) (.tup [])) [.set (.slot 11) (.op2 .add (.var 8) (.tup [(.op2 .add (.op2 .ix (.var 8) (.op2 .sub (.bi .len [(.var 8)]) (.cst (.int 1)))) (.cst (.int 1)))]))] [],
    .set (.slot 12) (.comp (.slot 19) (.var 11) (.cst (.bool true)) (.tup [(.var 19), (.call 20 [(.call 19 [(.var 7), (.var 19)])])])),
    .set (.slot 12) (.comp (.slot 20) (.var 12) (.op2 .isNot (.op2 .ix (.var 20) (.cst (.int 1))) (.cst .non)) (.var 20)),
    .ifs (.op1 .not (.call 17 [(.call 9 [(.var 7)]), (.bi .tuple [(.var 12)])])) [.ret (.cst (.bool false))] [],
    .set (.slot 3) (.call 16 [(.var 1), (.op2 .add (.lst [(.var 3), (.tup []), (.tup [(.bi .len [(.var 7)])])]) (.comp (.slot 20) (.var 12) (.cst (.bool true)) (.op2 .ix (.var 20) (.cst (.int 1)))))]),
    .set (.slot 13) (.comp (.slot 19) (.bi .range [(.cst (.int 1)), (.op2 .add (.op2 .ix (.var 11) (.op2 .sub (.bi .len [(.var 11)]) (.cst (.int 1)))) (.cst (.int 2)))]) (.op2 .eq (.call 20 [(.call 19 [(.var 7), (.var 19)])]) (.var 3)) (.var 19)),
    .set (.slot 14) (.cst .non),
    .ifs (.op2 .ne (.var 13) (.lst [])) [.set (.slot 14) (.tup [(.op2 .ix (.var 13) (.cst (.int 0))), (.op2 .ix (.lst [(.op2 .ix (.var 13) (.op2 .sub (.bi .len [(.var 13)]) (.cst (.int 1)))), (.cst .non)]) (.bi .int [(.op2 .gt (.op2 .ix (.var 13) (.op2 .sub (.bi .len [(.var 13)]) (.cst (.int 1)))) (.op2 .ix (.var 11) (.op2 .sub (.bi .len [(.var 11)]) (.cst (.int 1)))))]))])] [],
    .ifs (.op1 .not (.call 17 [(.call 10 [(.var 7), (.var 3)]), (.var 14)])) [.ret (.cst (.bool false))] [],
    .set (.slot 15) (.call 15 [(.var 1), (.cst (.int 4))]),
    .ifs (.and (.op2 .lt (.bi .len [(.var 10)]) (.cst (.int 6))) (.op1 .not (.call 17 [(.call 11 [(.var 7), (.var 9), (.var 15)]), (.call 22 [(.var 10), (.var 15)])]))) [.ret (.cst (.bool false))] [],
    .par [(4, false), (16, false)] [(.call 15 [(.var 1), (.cst (.int 6))]), (.call 15 [(.var 1), (.cst (.int 4))])],
    .set (.slot 6) (.and (.op2 .gt (.var 4) (.cst (.int 0))) (.op2 .eq (.comp (.slot 19) (.var 8) (.and (.op2 .gt (.bi .abs [(.op2 .sub (.var 19) (.var 4))]) (.var 16)) (.op2 .le (.var 19) (.op2 .mul (.cst (.int 2)) (.var 4)))) (.var 19)) (.lst []))),
    .ifs (.op1 .not (.call 17 [(.call 13 [(.var 7), (.var 4), (.var 16)]), (.var 6)])) [.ret (.cst (.bool false))] [],
    .for_ (.slot 17) (.lst [(.op2 .add (.var 7) (.slice (.var 7) (.op1 .chkI (.op1 .neg (.cst (.int 1)))) (.cst .non))), (.bi .rev [(.var 7)]), (.bi .list [(.var 7)]), (.cst .non), (.tup [(.cst (.int 1)), (.cst (.bool true))]), (.tup [(.cst (.int 2)), (.cst (.str [51]))]), (.tup [(.op1 .neg (.cst (.int 5))), (.cst (.int 0))])]) [.set (.slot 6) (.and (.bi (.isT .tup) [(.var 17)]) (.op2 .eq (.comp (.slot 19) (.var 17) (.or (.op1 .not (.bi (.isT .int) [(.var 19)])) (.bi (.isT .bool) [(.var 19)])) (.var 19)) (.lst []))),
    .ifs (.var 6) [.set (.slot 6) (.op2 .eq (.bi .list [(.var 17)]) (.bi .sset [(.var 17)]))] [],
    .ifs (.op1 .not (.call 17 [(.call 4 [(.var 17)]), (.var 6)])) [.ret (.cst (.bool false))] []]],
    .set (.slot 18) (.lst [(.call 3 [(.tup [(.cst (.int 2)), (.cst (.int 1))]), (.cst (.int 3)), (.cst (.int 10))]), (.call 7 [(.tup [(.cst (.int 0)), (.cst (.int 3)), (.cst (.int 13))]), (.cst (.int 4))]), (.call 9 [(.tup [])]), (.call 10 [(.tup [(.cst (.int 0)), (.cst (.int 3)), (.cst (.int 13))]), (.tup [(.cst (.int 2)), (.cst (.int 1))])]), (.call 10 [(.tup [(.cst (.int 0)), (.cst (.int 3)), (.cst (.int 13))]), (.tup [(.cst (.int 3))])]), (.call 11 [(.tup [(.cst (.int 0))]), (.cst (.int 5)), (.cst (.int 1))])]),
    .ret (.call 17 [(.var 18), (.lst [(.tup [(.cst (.int 0)), (.cst (.int 3)), (.cst (.int 13))]), (.tup [(.cst (.int 2)), (.cst (.int 1))]), (.tup [(.tup [(.cst (.int 1)), (.tup [])])]), (.tup [(.cst (.int 4)), (.cst (.int 10))]), (.tup [(.cst (.int 11)), (.cst .non)]), (.tup [(.tup [(.cst (.int 1))]), (.tup [(.cst (.int 2))])])])])]
def tab : Nat → Fn
  | 0 => ⟨1, 1, i0⟩
  | 1 => ⟨2, 2, i1⟩
  | 2 => ⟨1, 2, i2⟩
  | 3 => ⟨3, 7, i3⟩
  | 4 => ⟨1, 2, i4⟩
  | 5 => ⟨2, 4, i5⟩
  | 6 => ⟨1, 2, i6⟩
  | 7 => ⟨2, 2, i7⟩
  | 8 => ⟨1, 2, i8⟩
  | 9 => ⟨1, 4, i9⟩
  | 10 => ⟨2, 9, i10⟩
  | 11 => ⟨3, 11, i11⟩
  | 12 => ⟨1, 2, i12⟩
  | 13 => ⟨3, 5, i13⟩
  | 14 => ⟨2, 7, i14⟩
  | 15 => ⟨2, 2, i15⟩
  | 16 => ⟨2, 2, i16⟩
  | 17 => ⟨2, 4, i17⟩
  | 18 => ⟨3, 8, i18⟩
  | 19 => ⟨2, 4, i19⟩
  | 20 => ⟨1, 2, i20⟩
  | 21 => ⟨1, 2, i21⟩
  | 22 => ⟨2, 8, i22⟩
  | 23 => ⟨1, 6, i23⟩
  | 24 => ⟨1, 23, i24⟩
  | _ => ⟨0, 0, []⟩
/-- the call that makes the draws -/
def iDraws : IE := (.call 14 [(.var 0), (.cst (.int 800))])
/-- THE PLAIN LAW: the evaluator gives True -/
def Plain (k : Nat) : Prop := ∀ script : List Int, script.length ≤ 63 → ∃ (ns : List Int) (o : Or), evE (callN tab k) iDraws (startS 23 [.lst (script.map D.int)]) [] = .ok (.lst (ns.map D.int)) o ∧
  ∃ o', evSs (callN tab k) i24 (setS (startS 23 [.lst (script.map D.int)]) 1 (.val .tok)) ns = .rt (.bool true) o' 
end Lk51

end
/-! text: BMG.lean -/
section
set_option autoImplicit false
set_option maxRecDepth 100000
namespace BV
/-! BMG: _law_ordered -/
theorem snoc_indI {P : List Int → Prop} (h0 : P []) (h1 : ∀ rs r, P rs → P (rs ++ [r])) (l : List Int) : P l := by
  have : ∀ l : List Int, P l.reverse := by
    intro l
    induction l with
    | nil => exact h0
    | cons x l ih => rw [List.reverse_cons]; exact h1 _ _ ih
  rw [← List.reverse_reverse l]
  exact this _
def iOrd (gc fr : Nat) : List IS := [.set (.slot 1) (.cst (.int 1)),
    .for_ (.slot 2) (.var 0) [.set (.slot 1) (.op2 .mul (.op2 .fdiv (.var 1) (.call gc [(.var 1), (.op2 .ix (.var 2) (.cst (.int 1)))])) (.op2 .ix (.var 2) (.cst (.int 1))))],
    .set (.slot 3) (.bi .sdic [(.comp (.slot 2) (.var 0) (.cst (.bool true)) (.tup [(.op2 .mul (.op2 .ix (.var 2) (.cst (.int 0))) (.op2 .fdiv (.var 1) (.op2 .ix (.var 2) (.cst (.int 1))))), (.cst (.bool true))]))]),
    .ret (.comp (.slot 4) (.var 3) (.cst (.bool true)) (.call fr [(.var 4), (.var 1)]))]
/-- one step of the lowest common multiple -/
theorem lcm_step {l d m : Int} (hl : 0 < l) (hd : 0 < d) (hm : 0 < m) (h1 : l ∣ m) (h2 : d ∣ m) : 0 < l / (Int.gcd l d : Int) * d ∧ l / (Int.gcd l d : Int) * d ∣ m ∧ l ∣ l / (Int.gcd l d : Int) * d ∧ d ∣ l / (Int.gcd l d : Int) * d := by
  have hg : 0 < (Int.gcd l d : Int) := gcd_pos' hd
  obtain ⟨a, ea⟩ := Int.gcd_dvd_left l d
  obtain ⟨b, eb⟩ := Int.gcd_dvd_right l d
  have cop : Int.gcd (l / (Int.gcd l d : Int)) (d / (Int.gcd l d : Int)) = 1 := red_cop (a := l) hd
  generalize (Int.gcd l d : Int) = g at *
  have da : l / g = a := by rw [ea]; exact Int.mul_ediv_cancel_left _ (by omega)
  have db : d / g = b := by rw [eb]; exact Int.mul_ediv_cancel_left _ (by omega)
  rw [da, db] at cop
  rw [da]
  have ha : 0 < a := by
    by_cases h : 0 < a
    · exact h
    · have := Int.mul_nonpos_of_nonneg_of_nonpos (show 0 ≤ g by omega) (show a ≤ 0 by omega)
      omega
  refine ⟨Int.mul_pos ha hd, ?_, ⟨b, by rw [ea, eb]; grind⟩, ⟨a, by grind⟩⟩
  obtain ⟨x, ex⟩ := h1
  obtain ⟨y, ey⟩ := h2
  -- m = g a x = g b y
  have e : a * x = b * y := by
    have : g * (a * x) = g * (b * y) := by rw [← Int.mul_assoc, ← ea, ← ex, ← Int.mul_assoc, ← eb, ← ey]
    exact Int.eq_of_mul_eq_mul_left (by omega) this
  have : a ∣ y := cop_dvd (p := b) (q := a) (by rw [Int.gcd_comm]; exact cop) ⟨x, e.symm⟩
  obtain ⟨z, ez⟩ := this
  exact ⟨z, by rw [ey, ez]; grind⟩
def lcmL (ds : List Int) : Int := ds.foldl (fun l d => l / (Int.gcd l d : Int) * d) 1
theorem lcm_snoc (ds : List Int) (d : Int) : lcmL (ds ++ [d]) = lcmL ds / (Int.gcd (lcmL ds) d : Int) * d := by simp [lcmL]
theorem lcm_ok {m : Int} (hm : 0 < m) (ds : List Int) (h : ∀ d ∈ ds, 0 < d ∧ d ∣ m) : 0 < lcmL ds ∧ lcmL ds ∣ m ∧ ∀ d ∈ ds, d ∣ lcmL ds := by
  revert h
  refine snoc_indI (P := fun ds => (∀ d ∈ ds, 0 < d ∧ d ∣ m) → 0 < lcmL ds ∧ lcmL ds ∣ m ∧ ∀ d ∈ ds, d ∣ lcmL ds) ?_ (fun ds d ih h => ?_) ds
  · intro _
    exact ⟨by simp [lcmL], ⟨m, by simp [lcmL]⟩, by simp⟩
  · obtain ⟨i1, i2, i3⟩ := ih fun x hx => h x (by simp [hx])
    obtain ⟨d1, d2⟩ := h d (by simp)
    obtain ⟨j1, j2, j3, j4⟩ := lcm_step i1 d1 hm i2 d2
    rw [lcm_snoc]
    refine ⟨j1, j2, fun x hx => ?_⟩
    rcases List.mem_append.mp hx with hx | hx
    · exact Int.dvd_trans (i3 x hx) j3
    · rw [List.mem_singleton] at hx
      subst hx
      exact j4
theorem red_dvd {v m : Int} (hm : 0 < m) : (red v m).2 ∣ m := ⟨(Int.gcd v m : Int), (red_mul (a := v) hm).2.symm⟩
section
variable {T : Nat → Fn} {gc fr f : Nat} (Tg : T gc = ⟨2, 4, iGcd⟩) (Tf : T fr = ⟨2, 3, iLFrac gc⟩) (Th : T f = ⟨1, 5, iOrd gc fr⟩) (k : Nat) {m : Int} (hm : 0 < m) (hm1 : m < 100000000)
include Tg Tf Th hm hm1
/-- _law_ordered of parts of one whole -/
theorem ordered_ok {vs : List Int} (hl : vs.length ≤ 1000) (o : Or) : callN T (k + 4) f [.lst (vs.map fun v => toP (red v m))] o = .ok (.lst ((ssetL vs).map fun v => toP (red v m))) o := by
  have hds : ∀ us : List Int, ∀ d ∈ us.map (fun v => (red v m).2), 0 < d ∧ d ∣ m := fun us d hd => by
    obtain ⟨v, _, rfl⟩ := List.mem_map.mp hd
    exact ⟨red_pos hm, red_dvd hm⟩
  have L1 := forM_inv (xs := vs.map fun v => toP (red v m)) (f := fun x ρ o => evSs (callN T (k + 3)) [.set (.slot 1) (.op2 .mul (.op2 .fdiv (.var 1) (.call gc [(.var 1), (.op2 .ix (.var 2) (.cst (.int 1)))])) (.op2 .ix (.var 2) (.cst (.int 1))))] (setS ρ 2 (.val x)) o)
    (I := fun r ρ o' => o' = o ∧ ∃ (pre suf : List Int) (x : Sl), vs = pre ++ suf ∧ r = suf.map (fun v => toP (red v m)) ∧ ρ = [.val (.lst (vs.map fun v => toP (red v m))), .val (.int (lcmL (pre.map fun v => (red v m).2))), x, .un, .un])
    (fun x r ρ o' ⟨ho, pre, suf, y, h1, h2, h3⟩ => by
      subst ho
      cases suf with
      | nil => cases h2
      | cons n suf =>
        cases h2
        subst h3
        have q0 := red_pos (a := n) hm
        have q1 := red_le (a := n) hm
        obtain ⟨i1, i2, i3⟩ := lcm_ok hm _ (hds pre)
        have hg := gcd_pos' (a := lcmL (pre.map fun v => (red v m).2)) q0
        have hg1 := gcd_le' (a := lcmL (pre.map fun v => (red v m).2)) q0
        refine ⟨_, _, .inl (stp (st_set (ev_op2 (ev_op2 (ev_var rfl) (ev_call2 (ev_var rfl) (ev_op2 (ev_var rfl) ev_cst (ix_p1 _)) (gcd_ok Tg (k + 2) _ _ (by omega) o')) (op2_fdiv_int hg (by omega))) (ev_op2 (ev_var rfl) ev_cst (ix_p1 _)) (mul_r (by omega) (by omega)))) (evSs_nil' _ _ _)), rfl, pre ++ [n], suf, .val (toP (red n m)), by simp [h1], rfl, ?_⟩
        rw [List.map_append, List.map_cons, List.map_nil, lcm_snoc]
        rfl)
    (ρ := [.val (.lst (vs.map fun v => toP (red v m))), .val (.int 1), .un, .un, .un]) (o := o) ⟨rfl, [], vs, .un, rfl, rfl, rfl⟩
  obtain ⟨ρ', o', e1, ho, pre, suf, x2, h1, h2, h3⟩ := L1
  subst ho
  have : suf = [] := by cases suf with | nil => rfl | cons _ _ => cases h2
  subst this
  rw [List.append_nil] at h1
  subst h1
  subst h3
  obtain ⟨i1, i2, i3⟩ := lcm_ok hm _ (hds vs)
  generalize hL : lcmL (vs.map fun v => (red v m).2) = L at *
  have iL : L ≤ m := Int.le_of_dvd hm i2
  -- the stretched numbers
  have phi : ∀ v ∈ vs, ((red v m).1 * (L / (red v m).2)) * m = v * L := fun v hv' => by
    have hd := i3 _ (List.mem_map.mpr ⟨v, hv', rfl⟩)
    have q0 := red_pos (a := v) hm
    have x := red_cross (a := v) hm
    have e : (red v m).2 * (L / (red v m).2) = L := Int.mul_ediv_cancel' hd
    generalize L / (red v m).2 = t at *
    generalize (red v m).1 = a at *
    generalize (red v m).2 = b at *
    subst e
    grind
  have hset : ssetL (vs.map fun v => (red v m).1 * (L / (red v m).2)) = (ssetL vs).map fun v => (red v m).1 * (L / (red v m).2) := by
    refine ssetL_map fun a ha b hb hab => ?_
    have pa := phi a ha
    have pb := phi b hb
    refine Int.lt_of_mul_lt_mul_right (a := m) ?_ (by omega)
    rw [pa, pb]
    exact Int.mul_lt_mul_of_pos_right hab i1
  have hsd : biF .sdic [.lst (vs.map fun v => .tup [.int ((red v m).1 * (L / (red v m).2)), .bool true])] = some (LI (ssetL (vs.map fun v => (red v m).1 * (L / (red v m).2)))) := by
    show ((keysO (vs.map fun v => D.tup [.int ((red v m).1 * (L / (red v m).2)), .bool true])).bind sdic1) = _
    rw [keysO_m _ (fun v => (red v m).1 * (L / (red v m).2)) (fun v => ⟨_, rfl⟩), Option.bind_some, sdic1_of (by simpa using hl)]
    rfl
  refine call_rt Th (stp (st_set ev_cst) (stp (st_forI (ev_var rfl) e1) (stp (st_set (ev_bi1 (ev_compAm (ks := vs) (g0 := fun v => toP (red v m)) (f := fun v => .tup [.int ((red v m).1 * (L / (red v m).2)), .bool true]) (seq_lst (ev_var rfl)) fun v hv' => ?_) hsd)) (stR (st_ret ?_)))))
  · have q0 := red_pos (a := v) hm
    have q1 := red_le (a := v) hm
    have hd0 : 0 ≤ L / (red v m).2 ∧ L / (red v m).2 ≤ L := ⟨Int.ediv_nonneg (by omega) (by omega), Int.ediv_le_self _ (by omega)⟩
    exact ev_tup (evs_cons (ev_op2 (ev_op2 (ev_var rfl) ev_cst (ix_p0 _)) (ev_op2 (ev_var rfl) (ev_op2 (ev_var rfl) ev_cst (ix_p1 _)) (op2_fdiv_int q0 (by omega))) (mul_r (by omega) (by omega))) (evs_cons ev_cst evs_nil))
  · have key : ((ssetL vs).map fun v => toP (red v m)) = (ssetL (vs.map fun v => (red v m).1 * (L / (red v m).2))).map fun u => toP (red u L) := by
      rw [hset, List.map_map]
      refine List.map_congr_left fun v hv' => ?_
      simp only [Function.comp]
      rw [(red_eq i1 hm).mpr (phi v ((ssetL_mem _ _).mp hv'))]
    rw [key]
    exact ev_compAm (ks := ssetL (vs.map fun v => (red v m).1 * (L / (red v m).2))) (g0 := D.int) (f := fun u => toP (red u L)) (seq_lst (ev_var rfl)) fun u _ => ev_call2 (ev_var rfl) (ev_var rfl) (lfrac_ok Tg Tf (k + 1) u L i1 (by omega) o')
end
def rgL (lo : Int) (n : Nat) : List Int := (List.range n).map fun j : Nat => lo + j
theorem rgL_mem {lo : Int} {n : Nat} {x : Int} : x ∈ rgL lo n ↔ lo ≤ x ∧ x < lo + n := by
  simp only [rgL, List.mem_map, List.mem_range]
  constructor
  · rintro ⟨j, hj, rfl⟩; omega
  · rintro ⟨h1, h2⟩; exact ⟨(x - lo).toNat, by omega, by omega⟩
theorem rgL_up (lo : Int) (n : Nat) : (rgL lo n).Pairwise (· < ·) := by
  refine List.pairwise_map.mpr ?_
  exact List.pairwise_lt_range.imp fun h => by omega
/-- what stands between, of a row of numbers -/
theorem ev_rg2 {C : Nat → List D → Or → R D} {ρ : Env} {o o1 o2 : Or} {a b : IE} {lo hi : Int} (ha : evE C a ρ o = .ok (.int lo) o1) (hb : evE C b ρ o1 = .ok (.int hi) o2) (h0 : -1000000 ≤ lo) (h1 : lo ≤ 1000000) (h2 : -1000000 ≤ hi) (h3 : hi ≤ 1000000) : evE C (.bi .range [a, b]) ρ o = .ok (.lst ((rgL lo (hi - lo).toNat).map .int)) o2 := by
  refine ev_bi2 ha hb ?_
  rw [bi_rng2, rangeO_two (by omega) (by omega) (by omega) (by omega) (by rw [cap_v']; omega), rgL, List.map_map]
  rfl
/-- fractions by one whole -/
theorem frac_cmp {x y : Int × Int} {X Y K : Int} (hx : 0 < x.2) (hy : 0 < y.2) (hK : 0 < K) (ex : x.1 * K = X * x.2) (ey : y.1 * K = Y * y.2) : x.1 * y.2 < y.1 * x.2 ↔ X < Y := by
  have hp := Int.mul_pos hx hy
  have e1 : x.1 * y.2 * K = X * (x.2 * y.2) := by
    have : x.1 * y.2 * K = x.1 * K * y.2 := by grind
    rw [this, ex]; grind
  have e2 : y.1 * x.2 * K = Y * (x.2 * y.2) := by
    have : y.1 * x.2 * K = y.1 * K * x.2 := by grind
    rw [this, ey]; grind
  constructor
  · intro h
    have := Int.mul_lt_mul_of_pos_right h hK
    rw [e1, e2] at this
    exact Int.lt_of_mul_lt_mul_right this (Int.le_of_lt hp)
  · intro h
    have := Int.mul_lt_mul_of_pos_right h hp
    rw [← e1, ← e2] at this
    exact Int.lt_of_mul_lt_mul_right this (Int.le_of_lt hK)
theorem frac_eq {x y : Int × Int} {X Y K : Int} (hx : 0 < x.2) (hy : 0 < y.2) (hK : 0 < K) (ex : x.1 * K = X * x.2) (ey : y.1 * K = Y * y.2) : x.1 * y.2 = y.1 * x.2 ↔ X = Y := by
  have a := frac_cmp hx hy hK ex ey
  have b := frac_cmp hy hx hK ey ex
  omega
/-- the last of what stands in order -/
theorem up_last {l : List Int} (hu : l.Pairwise (· < ·)) {m : Int} (hm : m ∈ l) (hx : ∀ x ∈ l, x ≤ m) : 0 < l.length ∧ l[l.length - 1]? = some m := by
  obtain ⟨i, hi, e⟩ := List.getElem_of_mem hm
  refine ⟨by omega, ?_⟩
  by_cases hl : i = l.length - 1
  · rw [← hl, List.getElem?_eq_getElem hi, e]
  · have h1 := List.pairwise_iff_getElem.mp hu i (l.length - 1) hi (by omega) (by omega)
    have h2 := hx _ (List.getElem_mem (l := l) (n := l.length - 1) (by omega))
    omega
theorem up_first {l : List Int} (hu : l.Pairwise (· < ·)) {m : Int} (hm : m ∈ l) (hx : ∀ x ∈ l, m ≤ x) : 0 < l.length ∧ l[0]? = some m := by
  obtain ⟨i, hi, e⟩ := List.getElem_of_mem hm
  refine ⟨by omega, ?_⟩
  by_cases hl : i = 0
  · subst hl
    rw [List.getElem?_eq_getElem hi, e]
  · have h1 := List.pairwise_iff_getElem.mp hu 0 i (by omega) hi (by omega)
    have h2 := hx _ (List.getElem_mem (l := l) (n := 0) (by omega))
    omega
theorem atI_q {xs : List D} {i : Nat} {d : D} (h : xs[i]? = some d) : atI xs (i : Int) = some d := by
  obtain ⟨hi, e⟩ := List.getElem?_eq_some_iff.mp h
  rw [atI_nat' _ _ hi, e]
/-- the first that is nearest -/
def Arg (d : Int → Int) (l : List Int) (r : Int) : Prop := r ∈ l ∧ ∀ x ∈ l, d r ≤ d x ∧ (x < r → d r < d x)
theorem arg_uniq {d : Int → Int} {l : List Int} {r s : Int} (h1 : Arg d l r) (h2 : Arg d l s) : r = s := by
  have a := h1.2 s h2.1
  have b := h2.2 r h1.1
  omega
end BV

end
/-! text: BMH.lean -/
section
set_option autoImplicit false
set_option maxRecDepth 100000
namespace BV
/-! BMH: teeth, pairs of teeth -/
def teethL (n m : Nat) : List (Nat × Nat) := (List.range (m + 1 - n)).flatMap fun i : Nat => (List.range (m + 1 - n)).map fun j : Nat => (n + i, n + j)
def pD (q : Nat × Nat) : D := toP ((q.1 : Int), (q.2 : Int))
def redN (d e : Nat) : Nat × Nat := (d / Nat.gcd d e, e / Nat.gcd d e)
theorem red_N (d e : Nat) : red (d : Int) (e : Int) = (((redN d e).1 : Int), ((redN d e).2 : Int)) := by
  simp only [red, redN, Int.natCast_ediv]
  rfl
theorem teeth_mem {n m : Nat} {q : Nat × Nat} (h : q ∈ teethL n m) : n ≤ q.1 ∧ q.1 ≤ m ∧ n ≤ q.2 ∧ q.2 ≤ m := by
  simp only [teethL, List.mem_flatMap, List.mem_map, List.mem_range] at h
  obtain ⟨i, hi, j, hj, rfl⟩ := h
  simp only
  omega
def okK (a b n m k : Nat) : Bool := decide (a * k ≤ m ∧ b * k ≤ m ∧ n ≤ a * k ∧ n ≤ b * k)
def ksP (a b n m j : Nat) : List Nat := ((List.range j).map (· + 1)).filter (okK a b n m)
def pairsL (a b n m : Nat) : List (Nat × Nat) := (ksP a b n m m).map fun k => (a * k, b * k)
theorem ksP_succ (a b n m j : Nat) : ksP a b n m (j + 1) = ksP a b n m j ++ (if okK a b n m (j + 1) then [j + 1] else []) := by
  rw [ksP, List.range_succ, List.map_append, List.filter_append]
  congr 1
  simp only [List.map_cons, List.map_nil]
  rw [List.filter_cons]
  split <;> rfl
theorem ksP_stop {a b n m j : Nat} (h : ¬ (a * (j + 1) ≤ m ∧ b * (j + 1) ≤ m)) : ∀ d, ksP a b n m (j + d) = ksP a b n m j
  | 0 => rfl
  | d + 1 => by
    rw [← Nat.add_assoc, ksP_succ, ksP_stop h d]
    have hf : okK a b n m (j + d + 1) = false := decide_eq_false fun ⟨h1, h2, _⟩ => h ⟨Nat.le_trans (Nat.mul_le_mul_left _ (by omega)) h1, Nat.le_trans (Nat.mul_le_mul_left _ (by omega)) h2⟩
    rw [hf]; simp
theorem ksP_len (a b n m j : Nat) : (ksP a b n m j).length ≤ j := by
  have := List.length_filter_le (okK a b n m) ((List.range j).map (· + 1))
  rw [ksP]
  simpa using this
def smallOk : Bool := (List.range 4).all fun n => (List.range 5).all fun m => (List.range 9).all fun a => (List.range 9).all fun b => !decide (Nat.gcd (a + 1) (b + 1) = 1) || decide ((teethL (n + 1) (m + 5)).filter (fun q => decide (redN q.1 q.2 = (a + 1, b + 1))) = pairsL (a + 1) (b + 1) (n + 1) (m + 5))
theorem small_ok : smallOk = true := by decide +kernel
theorem pairs_small {n m a b : Nat} (hn : n < 4) (hm : m < 5) (ha : a < 9) (hb : b < 9) (hg : Nat.gcd (a + 1) (b + 1) = 1) : (teethL (n + 1) (m + 5)).filter (fun q => decide (redN q.1 q.2 = (a + 1, b + 1))) = pairsL (a + 1) (b + 1) (n + 1) (m + 5) := by
  have h := small_ok
  unfold smallOk at h
  have h := List.all_eq_true.mp h n (List.mem_range.mpr hn)
  have h := List.all_eq_true.mp h m (List.mem_range.mpr hm)
  have h := List.all_eq_true.mp h a (List.mem_range.mpr ha)
  have h := List.all_eq_true.mp h b (List.mem_range.mpr hb)
  rw [decide_eq_true hg, Bool.not_true, Bool.false_or] at h
  exact of_decide_eq_true h
theorem pairs_eq {n m a b : Nat} (hn : 1 ≤ n) (hn1 : n ≤ 4) (hm : 5 ≤ m) (hm1 : m ≤ 9) (ha : 1 ≤ a) (hb : 1 ≤ b) (hg : Nat.gcd a b = 1) : (teethL n m).filter (fun q => decide (redN q.1 q.2 = (a, b))) = pairsL a b n m := by
  by_cases h : a ≤ 9 ∧ b ≤ 9
  · have := pairs_small (n := n - 1) (m := m - 5) (a := a - 1) (b := b - 1) (by omega) (by omega) (by omega) (by omega)
    rw [show n - 1 + 1 = n by omega, show m - 5 + 5 = m by omega, show a - 1 + 1 = a by omega, show b - 1 + 1 = b by omega] at this
    exact this hg
  · have e1 : (teethL n m).filter (fun q => decide (redN q.1 q.2 = (a, b))) = [] := by
      refine List.filter_eq_nil_iff.mpr fun q hq => ?_
      have hq' := teeth_mem hq
      rw [decide_eq_true_eq]
      intro e
      have h1 : q.1 / Nat.gcd q.1 q.2 = a := congrArg Prod.fst e
      have h2 : q.2 / Nat.gcd q.1 q.2 = b := congrArg Prod.snd e
      have h3 := Nat.div_le_self q.1 (Nat.gcd q.1 q.2)
      have h4 := Nat.div_le_self q.2 (Nat.gcd q.1 q.2)
      omega
    have e2 : ksP a b n m m = [] := by
      refine List.filter_eq_nil_iff.mpr fun k hk => ?_
      obtain ⟨i, _, rfl⟩ := List.mem_map.mp hk
      rw [okK, decide_eq_true_eq]
      rintro ⟨h1, h2, _⟩
      have h3 : a * 1 ≤ a * (i + 1) := Nat.mul_le_mul_left _ (by omega)
      have h4 : b * 1 ≤ b * (i + 1) := Nat.mul_le_mul_left _ (by omega)
      omega
    rw [e1, pairsL, e2]; rfl
def cPr : IE := .and (.op2 .le (.op2 .mul (.var 3) (.var 6)) (.var 2)) (.op2 .le (.op2 .mul (.var 4) (.var 6)) (.var 2))
def bPr : List IS := [.ifs (.and (.op2 .ge (.op2 .mul (.var 3) (.var 6)) (.var 1)) (.op2 .ge (.op2 .mul (.var 4) (.var 6)) (.var 1))) [.app 5 (.tup [(.op2 .mul (.var 3) (.var 6)), (.op2 .mul (.var 4) (.var 6))])] [],
    .aug 6 .add (.cst (.int 1))]
def iPairs : List IS := [.par [(3, false), (4, false)] [(.bi .abs [(.op2 .ix (.var 0) (.cst (.int 0)))]), (.op2 .ix (.var 0) (.cst (.int 1)))],
    .setO 5 (.lst []),
    .set (.slot 6) (.cst (.int 1)),
    .whl 100000000 cPr bPr,
    .ret (.bi .tuple [(.pk 5)])]
theorem le_nn (a b : Nat) : op2 .le (.int (a : Int)) (.int (b : Int)) = some (.bool (decide (a ≤ b))) := by
  rw [op2_le_int]; congr 2; rw [decide_eq_decide]; omega
theorem ge_nn (a b : Nat) : op2 .ge (.int (a : Int)) (.int (b : Int)) = some (.bool (decide (b ≤ a))) := by
  rw [op2_ge_int]; congr 2; rw [decide_eq_decide]; omega
theorem whlPr {C : Nat → List D → Or → R D} (o : Or) (x0 : Sl) {a b n m : Nat} (ha : 1 ≤ a) (ha1 : a ≤ 1000000) (hb1 : b ≤ 1000000) (hm : m ≤ 1000) : ∀ (N j : Nat), j ≤ m → m - j < N →
    ∃ y6, whileM (fun ρ o => evE C cPr ρ o) (fun ρ o => evSs C bPr ρ o) N [x0, .val (.int n), .val (.int m), .val (.int a), .val (.int b), .own (.lst (((ksP a b n m j).map fun k => (a * k, b * k)).map pD)), .val (.int ((j + 1 : Nat) : Int))] o =
      .nx [x0, .val (.int n), .val (.int m), .val (.int a), .val (.int b), .own (.lst ((pairsL a b n m).map pD)), y6] o
  | 0, j, hj, h => by omega
  | N + 1, j, hj, h => by
    have ma : op2 .mul (.int (a : Int)) (.int ((j + 1 : Nat) : Int)) = some (.int ((a * (j + 1) : Nat) : Int)) := op2_mul_nat ha1
    have mb : op2 .mul (.int (b : Int)) (.int ((j + 1 : Nat) : Int)) = some (.int ((b * (j + 1) : Nat) : Int)) := op2_mul_nat hb1
    have ec : evE C cPr [x0, .val (.int n), .val (.int m), .val (.int a), .val (.int b), .own (.lst (((ksP a b n m j).map fun k => (a * k, b * k)).map pD)), .val (.int ((j + 1 : Nat) : Int))] o = .ok (.bool (decide (a * (j + 1) ≤ m) && decide (b * (j + 1) ≤ m))) o :=
      ev_and2 (ev_op2 (ev_op2 (ev_var rfl) (ev_var rfl) ma) (ev_var rfl) (le_nn _ _)) fun _ => ev_op2 (ev_op2 (ev_var rfl) (ev_var rfl) mb) (ev_var rfl) (le_nn _ _)
    rw [whileM, ec, R.out_ok]
    by_cases hc : a * (j + 1) ≤ m ∧ b * (j + 1) ≤ m
    · rw [decide_eq_true hc.1, decide_eq_true hc.2]
      have hjm : j + 1 ≤ m := by have : 1 * (j + 1) ≤ a * (j + 1) := Nat.mul_le_mul_right _ ha; omega
      have ei : evE C (.and (.op2 .ge (.op2 .mul (.var 3) (.var 6)) (.var 1)) (.op2 .ge (.op2 .mul (.var 4) (.var 6)) (.var 1))) [x0, .val (.int n), .val (.int m), .val (.int a), .val (.int b), .own (.lst (((ksP a b n m j).map fun k => (a * k, b * k)).map pD)), .val (.int ((j + 1 : Nat) : Int))] o = .ok (.bool (decide (n ≤ a * (j + 1)) && decide (n ≤ b * (j + 1)))) o :=
        ev_and2 (ev_op2 (ev_op2 (ev_var rfl) (ev_var rfl) ma) (ev_var rfl) (ge_nn _ _)) fun _ => ev_op2 (ev_op2 (ev_var rfl) (ev_var rfl) mb) (ev_var rfl) (ge_nn _ _)
      have hcap := ksP_len a b n m j
      have body : evSs C bPr [x0, .val (.int n), .val (.int m), .val (.int a), .val (.int b), .own (.lst (((ksP a b n m j).map fun k => (a * k, b * k)).map pD)), .val (.int ((j + 1 : Nat) : Int))] o = .nx [x0, .val (.int n), .val (.int m), .val (.int a), .val (.int b), .own (.lst (((ksP a b n m (j + 1)).map fun k => (a * k, b * k)).map pD)), .val (.int ((j + 1 + 1 : Nat) : Int))] o := by
        rw [ksP_succ]
        by_cases hn : n ≤ a * (j + 1) ∧ n ≤ b * (j + 1)
        · rw [decide_eq_true hn.1, decide_eq_true hn.2] at ei
          have hk : okK a b n m (j + 1) = true := decide_eq_true ⟨hc.1, hc.2, hn.1, hn.2⟩
          rw [hk, if_pos rfl, List.map_append, List.map_append]
          exact stp (ifT ei (stp (st_app rfl (ev_tup (evs_cons (ev_op2 (ev_var rfl) (ev_var rfl) ma) (evs_cons (ev_op2 (ev_var rfl) (ev_var rfl) mb) evs_nil))) (by simp [cap_v']; omega)) (evSs_nil' _ _ _))) (stp (st_aug rfl rfl ev_cst (op2_add_int _ _)) (evSs_nil' _ _ _))
        · have hk : okK a b n m (j + 1) = false := decide_eq_false fun ⟨_, _, h3, h4⟩ => hn ⟨h3, h4⟩
          have : (decide (n ≤ a * (j + 1)) && decide (n ≤ b * (j + 1))) = false := by
            rw [Bool.and_eq_false_iff, decide_eq_false_iff_not, decide_eq_false_iff_not]; omega
          rw [this] at ei
          rw [hk, if_neg (by decide), List.append_nil]
          exact stp (ifF ei (evSs_nil' _ _ _)) (stp (st_aug rfl rfl ev_cst (op2_add_int _ _)) (evSs_nil' _ _ _))
      obtain ⟨y6, ih⟩ := whlPr (C := C) o x0 (b := b) (n := n) ha ha1 hb1 hm N (j + 1) hjm (by omega)
      refine ⟨y6, ?_⟩
      show (evSs C bPr _ o).turn _ = _
      rw [show evSs C bPr _ o = _ from body]
      exact ih
    · have : (decide (a * (j + 1) ≤ m) && decide (b * (j + 1) ≤ m)) = false := by
        rw [Bool.and_eq_false_iff, decide_eq_false_iff_not, decide_eq_false_iff_not]; omega
      rw [this]
      refine ⟨.val (.int ((j + 1 : Nat) : Int)), ?_⟩
      have hs := ksP_stop (n := n) hc (m - j)
      rw [show j + (m - j) = m by omega] at hs
      rw [pairsL, hs]
      rfl
/-- pairs_for -/
theorem pairs_ok {T : Nat → Fn} {f : Nat} (h : T f = ⟨3, 7, iPairs⟩) (k : Nat) {r : Int} {b n m : Nat} (ha : 1 ≤ r.natAbs) (ha1 : r.natAbs ≤ 1000000) (hb1 : b ≤ 1000000) (hm : m ≤ 1000) (o : Or) : callN T (k + 1) f [toP (r, (b : Int)), .int n, .int m] o = .ok (.tup ((pairsL r.natAbs b n m).map pD)) o := by
  obtain ⟨y6, W⟩ := whlPr (C := callN T k) o (.val (toP (r, (b : Int)))) ha ha1 hb1 hm (n := n) 100000000 0 (by omega) (by omega)
  have es : evS (callN T k) (.whl 100000000 cPr bPr) [.val (toP (r, (b : Int))), .val (.int n), .val (.int m), .val (.int (r.natAbs : Int)), .val (.int (b : Int)), .own (.lst []), .val (.int 1)] o = .nx [.val (toP (r, (b : Int))), .val (.int n), .val (.int m), .val (.int (r.natAbs : Int)), .val (.int (b : Int)), .own (.lst ((pairsL r.natAbs b n m).map pD)), y6] o := by rw [evS]; exact W
  have ea : biF .abs [.int r] = some (.int ((r.natAbs : Nat) : Int)) := by rw [bi_abs, abs_nat]
  exact call_rt h (stp (st_par (evs_cons (ev_bi1 (ev_op2 (ev_var rfl) ev_cst (ix_p0 _)) ea) (evs_cons (ev_op2 (ev_var rfl) ev_cst (ix_p1 _)) evs_nil)) rfl) (stp (st_setO (ev_lst evs_nil)) (stp (st_set ev_cst) (stp es (stR (st_ret (ev_bi1 (ev_pkO rfl) (bi_tuple_lst _))))))))
/-! gaps -/
def ab (z : Int) : Int := if z < 0 then -z else z
theorem ab_mul (x y : Int) (hy : 0 < y) : ab (x * y) = ab x * y := by
  unfold ab
  by_cases h : x < 0
  · rw [if_pos h, if_pos (Int.mul_neg_of_neg_of_pos h hy), Int.neg_mul]
  · rw [if_neg h, if_neg (by have := Int.mul_nonneg (show 0 ≤ x by omega) (Int.le_of_lt hy); omega)]
theorem ab_gcd (x y : Int) : Int.gcd (ab x) y = Int.gcd x y := by
  unfold ab
  split
  · rw [Int.neg_gcd]
  · rfl
def dst (W a b v : Int) : Int := ab (v * b - a * W)
def gapP (q p : Int × Int) : Int × Int := red (q.1 * p.2 - p.1 * q.2) (q.2 * p.2)
def farP (q p : Int × Int) : Int × Int := (ab (gapP q p).1, (gapP q p).2)
theorem gap_ok {W a b v : Int} {q : Int × Int} (hb : 0 < b) (hq : 0 < q.2) (e : q.1 * W = v * q.2) : 0 < (gapP q (a, b)).2 ∧ (gapP q (a, b)).1 * (b * W) = (v * b - a * W) * (gapP q (a, b)).2 := by
  have hp := Int.mul_pos hq hb
  have h1 := red_pos (a := q.1 * b - a * q.2) hp
  have h2 := red_cross (a := q.1 * b - a * q.2) hp
  refine ⟨h1, ?_⟩
  show (red (q.1 * b - a * q.2) (q.2 * b)).1 * (b * W) = (v * b - a * W) * (red (q.1 * b - a * q.2) (q.2 * b)).2
  generalize red (q.1 * b - a * q.2) (q.2 * b) = g at *
  refine Int.eq_of_mul_eq_mul_right (a := q.2) (by omega) ?_
  have x : g.1 * (b * W) * q.2 = g.1 * (q.2 * b) * W := by grind
  rw [x, h2]
  have y : (v * b - a * W) * g.2 * q.2 = (v * q.2 * b - a * W * q.2) * g.2 := by grind
  rw [y, ← e]
  grind
/-- a gap as a part of one whole -/
theorem far_red {W a b v : Int} {q : Int × Int} (hW : 0 < W) (hb : 0 < b) (hq : 0 < q.2) (e : q.1 * W = v * q.2) : farP q (a, b) = red (dst W a b v) (b * W) := by
  obtain ⟨h1, h2⟩ := gap_ok (a := a) hb hq e
  have hbW : 0 < b * W := Int.mul_pos hb hW
  have hc : Int.gcd (gapP q (a, b)).1 (gapP q (a, b)).2 = 1 := red_cop (Int.mul_pos hq hb)
  have hid : red (farP q (a, b)).1 (farP q (a, b)).2 = farP q (a, b) := red_id (by
    show Int.gcd (ab (gapP q (a, b)).1) (gapP q (a, b)).2 = 1
    rw [ab_gcd, hc])
  rw [← hid, red_eq (show 0 < (farP q (a, b)).2 from h1) hbW]
  show ab (gapP q (a, b)).1 * (b * W) = ab (v * b - a * W) * (gapP q (a, b)).2
  rw [← ab_mul _ _ hbW, h2, ab_mul _ _ h1]
theorem minL_snoc {ds : List Int} (h : 0 < ds.length) (x : Int) : minL (ds ++ [x]) = if x < minL ds then x else minL ds := by
  have h1 := minN_mem (ns := ds ++ [x]) (by simp)
  have h2 : ∀ y ∈ ds ++ [x], minL (ds ++ [x]) ≤ y := fun y hy => minN_le hy
  have h3 := minN_mem h
  have h4 : ∀ y ∈ ds, minL ds ≤ y := fun y hy => minN_le hy
  have h5 := h2 x (by simp)
  have h6 := h2 _ (List.mem_append_left [x] h3)
  rcases List.mem_append.mp h1 with hm | hm
  · have := h4 _ hm
    split <;> omega
  · rw [List.mem_singleton] at hm
    split <;> omega
theorem idx_snoc_in {ds : List Int} {y : Int} (h : y ∈ ds) (x : Int) : idxL (ds ++ [x]) y = idxL ds y := by
  rw [idxL, List.findIdx_append, if_pos]
  · rfl
  · exact idxL_lt h
theorem idx_snoc_new {ds : List Int} {x : Int} (h : x ∉ ds) : idxL (ds ++ [x]) x = ds.length := by
  have hn : ds.findIdx (fun n => decide (n = x)) = ds.length := by
    refine List.findIdx_eq_length.mpr fun y hy => ?_
    rw [decide_eq_false_iff_not]
    exact fun e => h (e ▸ hy)
  rw [idxL, List.findIdx_append, if_neg (by omega)]
  simp
section
variable {T : Nat → Fn} {fc ff fl fs fi fnp : Nat}
def iLess (ff : Nat) : List IS := [.ret (.call ff [(.op2 .sub (.op2 .mul (.op2 .ix (.var 0) (.cst (.int 0))) (.op2 .ix (.var 1) (.cst (.int 1)))) (.op2 .mul (.op2 .ix (.var 1) (.cst (.int 0))) (.op2 .ix (.var 0) (.cst (.int 1))))), (.op2 .mul (.op2 .ix (.var 0) (.cst (.int 1))) (.op2 .ix (.var 1) (.cst (.int 1))))])]
def iSize : List IS := [.ret (.tup [(.bi .abs [(.op2 .ix (.var 0) (.cst (.int 0)))]), (.op2 .ix (.var 0) (.cst (.int 1)))])]
def iIsLess : List IS := [.ret (.op2 .lt (.op2 .mul (.op2 .ix (.var 0) (.cst (.int 0))) (.op2 .ix (.var 1) (.cst (.int 1)))) (.op2 .mul (.op2 .ix (.var 1) (.cst (.int 0))) (.op2 .ix (.var 0) (.cst (.int 1)))))]
theorem less_okF {k : Nat} {o : Or} (hf : ∀ (a b : Int), 0 < b → b < 100000000 → callN T k ff [.int a, .int b] o = .ok (toP (red a b)) o) (h : T fl = ⟨2, 2, iLess ff⟩) (p q : Int × Int) (hp : 0 < p.2) (hp1 : p.2 < 1000000) (hq : 0 < q.2) (hq1 : q.2 < 1000000) (hpq : p.2 * q.2 < 100000000) : callN T (k + 1) fl [toP p, toP q] o = .ok (toP (gapP p q)) o :=
  call_rt h (stR (st_ret (ev_call2 (ev_op2 (ev_op2 (ev_op2 (ev_var rfl) ev_cst (ix_p0 p)) (ev_op2 (ev_var rfl) ev_cst (ix_p1 q)) (mul_r (by omega) (by omega))) (ev_op2 (ev_op2 (ev_var rfl) ev_cst (ix_p0 q)) (ev_op2 (ev_var rfl) ev_cst (ix_p1 p)) (mul_r (by omega) (by omega))) (op2_sub_int _ _)) (ev_op2 (ev_op2 (ev_var rfl) ev_cst (ix_p1 p)) (ev_op2 (ev_var rfl) ev_cst (ix_p1 q)) (mul_r (by omega) (by omega))) (hf _ _ (Int.mul_pos hp hq) hpq))))
theorem size_ok (k : Nat) (h : T fs = ⟨1, 1, iSize⟩) (p : Int × Int) (o : Or) : callN T (k + 1) fs [toP p] o = .ok (toP (ab p.1, p.2)) o :=
  call_rt h (stR (st_ret (ev_tup (evs_cons (ev_bi1 (ev_op2 (ev_var rfl) ev_cst (ix_p0 p)) (bi_abs _)) (evs_cons (ev_op2 (ev_var rfl) ev_cst (ix_p1 p)) evs_nil)))))
theorem isless_ok (k : Nat) (h : T fi = ⟨2, 2, iIsLess⟩) (p q : Int × Int) (hp : 0 < p.2) (hp1 : p.2 < 100000000) (hq : 0 < q.2) (hq1 : q.2 < 100000000) (o : Or) : callN T (k + 1) fi [toP p, toP q] o = .ok (.bool (decide (p.1 * q.2 < q.1 * p.2))) o :=
  call_rt h (stR (st_ret (ev_op2 (ev_op2 (ev_op2 (ev_var rfl) ev_cst (ix_p0 p)) (ev_op2 (ev_var rfl) ev_cst (ix_p1 q)) (mul_r (by omega) (by omega))) (ev_op2 (ev_op2 (ev_var rfl) ev_cst (ix_p0 q)) (ev_op2 (ev_var rfl) ev_cst (ix_p1 p)) (mul_r (by omega) (by omega))) (op2_lt_int _ _))))
end
/-! nearest_pair -/
def W9 : Int := 2520
theorem W9_dvd : ∀ e : Nat, 0 < e → e ≤ 9 → (e : Int) ∣ W9 := by
  intro e h0 h1
  have : ∀ j : Nat, j < 10 → 0 < j → (j : Int) ∣ W9 := by decide
  exact this e (by omega) h0
/-- the gap of a pair of teeth, by one whole -/
def gV (a b : Int) (q : Nat × Nat) : Int := dst W9 a b ((q.1 : Int) * (W9 / (q.2 : Int)))
theorem teeth_red {q : Nat × Nat} (h0 : 0 < q.2) (h1 : q.2 ≤ 9) : (red (q.1 : Int) (q.2 : Int)).1 * W9 = (q.1 : Int) * (W9 / (q.2 : Int)) * (red (q.1 : Int) (q.2 : Int)).2 := by
  have hd := W9_dvd q.2 h0 h1
  have hx := red_cross (a := (q.1 : Int)) (b := (q.2 : Int)) (by omega)
  obtain ⟨t, ht⟩ := hd
  have hdiv : W9 / (q.2 : Int) = t := by rw [ht]; exact Int.mul_ediv_cancel_left _ (by omega)
  rw [hdiv, ht]
  generalize red (q.1 : Int) (q.2 : Int) = r at *
  grind
theorem far_teeth {a b : Int} (hb : 0 < b) {q : Nat × Nat} (h0 : 0 < q.2) (h1 : q.2 ≤ 9) : farP (red (q.1 : Int) (q.2 : Int)) (a, b) = red (gV a b q) (b * W9) :=
  far_red (by decide) hb (red_pos (by omega)) (teeth_red h0 h1)
/-- the first of the nearest -/
def nearQ (a b : Int) (pre : List (Nat × Nat)) : Nat × Nat := pre.getD (idxL (pre.map (gV a b)) (minL (pre.map (gV a b)))) (0, 0)
def nearD (a b : Int) (pre : List (Nat × Nat)) : D := if pre.isEmpty then .non else .tup [pD (nearQ a b pre), toP (red (minL (pre.map (gV a b))) (b * W9))]
def bNear (ff fl fs fi : Nat) : List IS := [.set (.slot 6) (.call fs [(.call fl [(.call ff [(.var 4), (.var 5)]), (.var 0)])]),
    .ifs (.or (.op2 .is (.var 3) (.cst .non)) (.call fi [(.var 6), (.op2 .ix (.var 3) (.cst (.int 1)))])) [.set (.slot 3) (.tup [(.tup [(.var 4), (.var 5)]), (.var 6)])] []]
def rgE : IE := .bi .range [(.var 1), (.op2 .add (.var 2) (.cst (.int 1)))]
def iNear (ff fl fs fi : Nat) : List IS := [.set (.slot 3) (.cst .non),
    .for_ (.slot 4) rgE [.for_ (.slot 5) rgE (bNear ff fl fs fi)],
    .ret (.var 3)]
theorem near_step {a b : Int} (hb : 0 < b) {pre : List (Nat × Nat)} (hp : pre ≠ []) (q : Nat × Nat) : nearD a b (pre ++ [q]) = if gV a b q < minL (pre.map (gV a b)) then .tup [pD q, toP (red (gV a b q) (b * W9))] else nearD a b pre := by
  have hl : 0 < (pre.map (gV a b)).length := by rw [List.length_map]; exact List.length_pos_iff.mpr hp
  have he : pre.isEmpty = false := by cases pre with | nil => exact absurd rfl hp | cons _ _ => rfl
  have he2 : (pre ++ [q]).isEmpty = false := by cases pre <;> rfl
  have hm : minL ((pre ++ [q]).map (gV a b)) = if gV a b q < minL (pre.map (gV a b)) then gV a b q else minL (pre.map (gV a b)) := by
    rw [List.map_append]; exact minL_snoc hl _
  simp only [nearD, he, he2, nearQ, hm]
  by_cases h : gV a b q < minL (pre.map (gV a b))
  · rw [if_pos h, if_pos h]
    have hni : gV a b q ∉ pre.map (gV a b) := fun z => by have := minN_le z; omega
    have hi : idxL ((pre ++ [q]).map (gV a b)) (gV a b q) = pre.length := by
      rw [List.map_append]
      have := idx_snoc_new hni
      rwa [List.length_map] at this
    rw [hi]
    simp
  · rw [if_neg h, if_neg h]
    have hmem := minN_mem hl
    have hi : idxL ((pre ++ [q]).map (gV a b)) (minL (pre.map (gV a b))) = idxL (pre.map (gV a b)) (minL (pre.map (gV a b))) := by
      rw [List.map_append]
      exact idx_snoc_in hmem _
    rw [hi]
    have hlt : idxL (pre.map (gV a b)) (minL (pre.map (gV a b))) < pre.length := by
      have := idxL_lt hmem
      rwa [List.length_map] at this
    rw [List.getD_eq_getElem?_getD, List.getElem?_append_left hlt, ← List.getD_eq_getElem?_getD]
section
variable {T : Nat → Fn} {fc ff fl fs fi fnp : Nat} (hc : T fc = ⟨2, 2, iCommon⟩) (hf : T ff = ⟨2, 3, iFrac fc⟩) (hl : T fl = ⟨2, 2, iLess ff⟩) (hs : T fs = ⟨1, 1, iSize⟩) (hi : T fi = ⟨2, 2, iIsLess⟩)
include hc hf hl hs hi
theorem near_body (k : Nat) {a b : Int} (hb : 0 < b) (hb1 : b ≤ 10000) {pre : List (Nat × Nat)} {q : Nat × Nat} (h1 : 0 < q.1) (h2 : q.1 ≤ 9) (h3 : 0 < q.2) (h4 : q.2 ≤ 9) (hpre : ∀ p ∈ pre, 0 < p.2 ∧ p.2 ≤ 9) (o : Or) (x1 x2 x6 : Sl) :
    ∃ y6, evSs (callN T (k + 3)) (bNear ff fl fs fi) [.val (toP (a, b)), x1, x2, .val (nearD a b pre), .val (.int (q.1 : Int)), .val (.int (q.2 : Int)), x6] o = .nx [.val (toP (a, b)), x1, x2, .val (nearD a b (pre ++ [q])), .val (.int (q.1 : Int)), .val (.int (q.2 : Int)), y6] o := by
  have r0 := red_pos (a := (q.1 : Int)) (b := (q.2 : Int)) (by omega)
  have r1 := red_le (a := (q.1 : Int)) (b := (q.2 : Int)) (by omega)
  have hm : (red (q.1 : Int) (q.2 : Int)).2 * b ≤ 9 * 10000 := Int.mul_le_mul (by omega) hb1 (Int.le_of_lt hb) (by decide)
  have e1 := less_okF (T := T) (k := k + 2) (o := o) (fun a b h0 h1 => frac_ok hc hf k a b h0 h1 o) hl (red (q.1 : Int) (q.2 : Int)) (a, b) r0 (by omega) hb (by simp only; omega) (by simp only; omega)
  have e2 := size_ok (T := T) (k + 2) hs (gapP (red (q.1 : Int) (q.2 : Int)) (a, b)) o
  rw [show (ab (gapP (red (q.1 : Int) (q.2 : Int)) (a, b)).1, (gapP (red (q.1 : Int) (q.2 : Int)) (a, b)).2) = farP (red (q.1 : Int) (q.2 : Int)) (a, b) from rfl, far_teeth hb h3 h4] at e2
  have a1 : evS (callN T (k + 3)) (.set (.slot 6) (.call fs [(.call fl [(.call ff [(.var 4), (.var 5)]), (.var 0)])])) [.val (toP (a, b)), x1, x2, .val (nearD a b pre), .val (.int (q.1 : Int)), .val (.int (q.2 : Int)), x6] o = .nx [.val (toP (a, b)), x1, x2, .val (nearD a b pre), .val (.int (q.1 : Int)), .val (.int (q.2 : Int)), .val (toP (red (gV a b q) (b * W9)))] o :=
    st_set (ev_call1 (ev_call2 (ev_call2 (ev_var rfl) (ev_var rfl) (frac_ok hc hf (k + 1) _ _ (by omega) (by omega) o)) (ev_var rfl) e1) e2)
  have hbW : 0 < b * W9 := Int.mul_pos hb (by decide)
  have hbW1 : b * W9 ≤ 10000 * 2520 := Int.mul_le_mul hb1 (by decide) (by decide) (by decide)
  refine ⟨.val (toP (red (gV a b q) (b * W9))), stp a1 (stp ?_ (evSs_nil' _ _ _))⟩
  cases pre with
  | nil =>
    refine ifT (ev_orT (ev_op2 (ev_var rfl) ev_cst (op2_is_non _))) (stp (st_set (ev_tup (evs_cons (ev_tup (evs_cons (ev_var rfl) (evs_cons (ev_var rfl) evs_nil))) (evs_cons (ev_var rfl) evs_nil)))) ?_)
    rw [evSs_nil']
    have : nearD a b ([] ++ [q]) = .tup [pD q, toP (red (gV a b q) (b * W9))] := by simp [nearD, nearQ, minL, idxL]
    rw [this]; rfl
  | cons p pre =>
    have g0 := red_pos (a := gV a b q) hbW
    have g1 := red_le (a := gV a b q) hbW
    have m0 := red_pos (a := minL ((p :: pre).map (gV a b))) hbW
    have m1 := red_le (a := minL ((p :: pre).map (gV a b))) hbW
    have e7 := isless_ok (T := T) (k + 2) hi (red (gV a b q) (b * W9)) (red (minL ((p :: pre).map (gV a b))) (b * W9)) g0 (by omega) m0 (by omega) o
    have cc := frac_cmp (x := red (gV a b q) (b * W9)) (y := red (minL ((p :: pre).map (gV a b))) (b * W9)) (X := gV a b q) (Y := minL ((p :: pre).map (gV a b))) (K := b * W9) g0 m0 hbW (red_cross hbW) (red_cross hbW)
    rw [decide_eq_decide.mpr cc] at e7
    have ec : evE (callN T (k + 3)) (.or (.op2 .is (.var 3) (.cst .non)) (.call fi [(.var 6), (.op2 .ix (.var 3) (.cst (.int 1)))])) [.val (toP (a, b)), x1, x2, .val (nearD a b (p :: pre)), .val (.int (q.1 : Int)), .val (.int (q.2 : Int)), .val (toP (red (gV a b q) (b * W9)))] o = .ok (.bool (decide (gV a b q < minL ((p :: pre).map (gV a b))))) o :=
      ev_orB (q := false) (ev_op2 (ev_var rfl) ev_cst (op2_is_non _)) (ev_call2 (ev_var rfl) (ev_op2 (x := nearD a b (p :: pre)) (ev_var rfl) ev_cst (z := toP (red (minL ((p :: pre).map (gV a b))) (b * W9))) rfl) e7)
    rw [near_step hb (by simp) q]
    by_cases h : gV a b q < minL ((p :: pre).map (gV a b))
    · rw [decide_eq_true h] at ec
      rw [if_pos h]
      exact ifT ec (stp (st_set (ev_tup (evs_cons (ev_tup (evs_cons (ev_var rfl) (evs_cons (ev_var rfl) evs_nil))) (evs_cons (ev_var rfl) evs_nil)))) (evSs_nil' _ _ _))
    · rw [decide_eq_false h] at ec
      rw [if_neg h]
      exact ifF ec (evSs_nil' _ _ _)
theorem near_ok (h : T fnp = ⟨3, 7, iNear ff fl fs fi⟩) (k : Nat) {a b : Int} (hb : 0 < b) (hb1 : b ≤ 10000) {n m : Nat} (hn : 0 < n) (hnm : n ≤ m) (hm : m ≤ 9) (o : Or) : callN T (k + 4) fnp [toP (a, b), .int n, .int m] o = .ok (nearD a b (teethL n m)) o := by
  have rg : ∀ x3 x4 x5 x6, evE (callN T (k + 3)) rgE [.val (toP (a, b)), .val (.int n), .val (.int m), x3, x4, x5, x6] o = .ok (.lst ((List.range (m + 1 - n)).map fun j : Nat => D.int ((n + j : Nat) : Int))) o := fun x3 x4 x5 x6 => by
    have e := ev_rg2 (C := callN T (k + 3)) (ρ := [.val (toP (a, b)), .val (.int n), .val (.int m), x3, x4, x5, x6]) (o := o) (o1 := o) (o2 := o) (a := .var 1) (b := .op2 .add (.var 2) (.cst (.int 1))) (ev_var rfl) (ev_op2 (ev_var rfl) ev_cst (op2_add_int _ _)) (by omega) (by omega) (by omega) (by omega)
    rw [show ((m : Int) + 1 - (n : Int)).toNat = m + 1 - n by omega, rgL, List.map_map] at e
    exact e
  have In : ∀ (i : Nat), i < m + 1 - n → ∀ (pre : List (Nat × Nat)), (∀ p ∈ pre, 0 < p.2 ∧ p.2 ≤ 9) → ∀ x5 x6, ∃ y5 y6, forM (fun x ρ o => evSs (callN T (k + 3)) (bNear ff fl fs fi) (setS ρ 5 (.val x)) o) ((List.range (m + 1 - n)).map fun j : Nat => D.int ((n + j : Nat) : Int)) [.val (toP (a, b)), .val (.int n), .val (.int m), .val (nearD a b pre), .val (.int ((n + i : Nat) : Int)), x5, x6] o =
      .nx [.val (toP (a, b)), .val (.int n), .val (.int m), .val (nearD a b (pre ++ (List.range (m + 1 - n)).map fun j : Nat => (n + i, n + j))), .val (.int ((n + i : Nat) : Int)), y5, y6] o := fun i hi' pre hpre x5 x6 => by
    have L := forM_ni (n := m + 1 - n) (g := fun j : Nat => D.int ((n + j : Nat) : Int)) (f := fun x ρ o => evSs (callN T (k + 3)) (bNear ff fl fs fi) (setS ρ 5 (.val x)) o)
      (I := fun j ρ o' => o' = o ∧ ∃ y5 y6, ρ = [.val (toP (a, b)), .val (.int n), .val (.int m), .val (nearD a b (pre ++ (List.range j).map fun j : Nat => (n + i, n + j))), .val (.int ((n + i : Nat) : Int)), y5, y6])
      (ρ := [.val (toP (a, b)), .val (.int n), .val (.int m), .val (nearD a b pre), .val (.int ((n + i : Nat) : Int)), x5, x6]) (o := o)
      (fun j hj ρ o' ⟨ho, y5, y6, hρ⟩ => by
        subst ho
        subst hρ
        obtain ⟨z6, e⟩ := near_body hc hf hl hs hi k hb hb1 (pre := pre ++ (List.range j).map fun j : Nat => (n + i, n + j)) (q := (n + i, n + j)) (by simp only; omega) (by simp only; omega) (by simp only; omega) (by simp only; omega) (fun p hp => by
          rcases List.mem_append.mp hp with hp | hp
          · exact hpre p hp
          · obtain ⟨j', hj', rfl⟩ := List.mem_map.mp hp
            rw [List.mem_range] at hj'
            simp only; omega) o' (.val (.int n)) (.val (.int m)) y6
        refine ⟨_, _, .inl e, rfl, .val (.int ((n + j : Nat) : Int)), z6, ?_⟩
        rw [List.range_succ, List.map_append, ← List.append_assoc]
        rfl) ⟨rfl, x5, x6, by simp⟩
    obtain ⟨ρ', o', e, ho, y5, y6, rfl⟩ := L
    subst ho
    exact ⟨y5, y6, e⟩
  have L := forM_ni (n := m + 1 - n) (g := fun j : Nat => D.int ((n + j : Nat) : Int)) (f := fun x ρ o => evSs (callN T (k + 3)) [.for_ (.slot 5) rgE (bNear ff fl fs fi)] (setS ρ 4 (.val x)) o)
    (I := fun i ρ o' => o' = o ∧ ∃ y4 y5 y6, ρ = [.val (toP (a, b)), .val (.int n), .val (.int m), .val (nearD a b ((List.range i).flatMap fun i : Nat => (List.range (m + 1 - n)).map fun j : Nat => (n + i, n + j))), y4, y5, y6])
    (ρ := [.val (toP (a, b)), .val (.int n), .val (.int m), .val .non, .un, .un, .un]) (o := o)
    (fun i hi' ρ o' ⟨ho, y4, y5, y6, hρ⟩ => by
      subst ho
      subst hρ
      obtain ⟨z5, z6, e⟩ := In i hi' ((List.range i).flatMap fun i : Nat => (List.range (m + 1 - n)).map fun j : Nat => (n + i, n + j)) (fun p hp => by
        simp only [List.mem_flatMap, List.mem_map, List.mem_range] at hp
        obtain ⟨i', _, j', hj', rfl⟩ := hp
        simp only; omega) y5 y6
      refine ⟨_, _, .inl (stp (st_forI (rg _ _ _ _) e) (evSs_nil' _ _ _)), rfl, .val (.int ((n + i : Nat) : Int)), z5, z6, ?_⟩
      rw [List.range_succ, List.flatMap_append]
      simp) ⟨rfl, .un, .un, .un, rfl⟩
  obtain ⟨ρ', o', e, ho, y4, y5, y6, rfl⟩ := L
  subst ho
  exact call_rt h (stp (st_set ev_cst) (stp (st_forI (rg _ _ _ _) e) (stR (st_ret (ev_var rfl)))))
end
/-- a loop over things, what it keeps told of those that were -/
theorem forM_pre {α : Type} {f : D → Env → Or → Out} {g : α → D} {I : List α → Env → Or → Prop} {ks : List α} (h : ∀ pre k suf, ks = pre ++ k :: suf → ∀ ρ o, I pre ρ o → ∃ ρ' o', (f (g k) ρ o = .nx ρ' o' ∨ f (g k) ρ o = .ct ρ' o') ∧ I (pre ++ [k]) ρ' o') {ρ : Env} {o : Or} (i : I [] ρ o) : ∃ ρ' o', forM f (ks.map g) ρ o = .nx ρ' o' ∧ I ks ρ' o' := by
  have L := forM_inv (xs := ks.map g) (f := f) (I := fun r ρ o => ∃ pre suf, ks = pre ++ suf ∧ r = suf.map g ∧ I pre ρ o) (fun x r ρ o ⟨pre, suf, h1, h2, h3⟩ => by
    cases suf with
    | nil => cases h2
    | cons k suf =>
      cases h2
      obtain ⟨ρ', o', e, i'⟩ := h pre k suf h1 ρ o h3
      exact ⟨ρ', o', e, pre ++ [k], suf, by simp [h1], rfl, i'⟩) ⟨[], ks, rfl, rfl, i⟩
  obtain ⟨ρ', o', e, pre, suf, h1, h2, h3⟩ := L
  have : suf = [] := by cases suf with | nil => rfl | cons _ _ => cases h2
  subst this
  rw [List.append_nil] at h1
  subst h1
  exact ⟨ρ', o', e, h3⟩
theorem st_forP {C : Nat → List D → Or → R D} {ρ : Env} {o o1 : Or} {p : IP} {s : IE} {b : List IS} {xs : List D} {z : Out} (h : (evE C s ρ o).seq = .ok xs o1) (h2 : forM (fun x ρ o => match bindP p x ρ with
        | none => .no
        | some ρ => evSs C b ρ o) xs ρ o1 = z) : evS C (.for_ p s b) ρ o = z := by rw [evS, h]; exact h2
end BV

end
/-! text: BM5.lean -/
section
set_option autoImplicit false
set_option maxRecDepth 100000
namespace BV
/-! BM5: shapes for the small steps -/
theorem bi_r {b : Bi} {xs : List D} {z : D} (h : biF b xs = some z) : biF b xs = some z := h
theorem op2_r {b : O2} {x y z : D} (h : op2 b x y = some z) : op2 b x y = some z := h
theorem op1_r {b : O1} {x z : D} (h : op1 b x = some z) : op1 b x = some z := h
theorem mulOk_s {a b : Int} (h : (-1000000000 < b ∧ b < 1000000000) ∨ (-1000000000 < a ∧ a < 1000000000)) : mulOk a b = true := by
  simp only [mulOk, Bool.or_eq_true, Bool.and_eq_true, decide_eq_true_eq]
  omega
theorem nxI {T : Nat → Fn} {i : Nat} (h : T i = ⟨2, 2, [.ret (.draw (.var 0) (.var 1))]⟩) (k : Nat) (m : Int) (o : Or) (hm : 0 < m) : ∃ (v : Nat) (o' : Or), (v : Int) < m ∧ callN T (k + 1) i [.tok, .int m] o = .ok (.int v) o' := by
  obtain ⟨m, rfl⟩ := Int.eq_ofNat_of_zero_le (Int.le_of_lt hm)
  obtain ⟨v, o', h1, h2⟩ := nxN4 h k m o (by omega)
  exact ⟨v, o', by omega, h2⟩
/-- a loop's body, goal by goal -/
theorem gdI {n : Nat} {x : Out} {P : Env → Or → Prop} (h : Gd n x P) : ∃ ρ' o', (x = .nx ρ' o' ∨ x = .ct ρ' o') ∧ P ρ' o' := by
  obtain ⟨ρ', o', h1, _, h3⟩ := h
  exact ⟨ρ', o', .inl h1, h3⟩
theorem gIf {C : Nat → List D → Or → R D} {c : IE} {a b r : List IS} {ρ : Env} {o o1 : Or} {n : Nat} {P : Env → Or → Prop} {q : Bool} (h : evE C c ρ o = .ok (.bool q) o1) (hT : q = true → Gd n (evSs C (a ++ r) ρ o1) P) (hF : q = false → Gd n (evSs C (b ++ r) ρ o1) P) : Gd n (evSs C (.ifs c a b :: r) ρ o) P := by
  rw [evSs_cons']
  cases q
  · have := hF rfl
    rw [evSs_app] at this
    rw [show evS C (.ifs c a b) ρ o = evSs C b ρ o1 from ifF h rfl]
    exact this
  · have := hT rfl
    rw [evSs_app] at this
    rw [show evS C (.ifs c a b) ρ o = evSs C a ρ o1 from ifT h rfl]
    exact this
theorem gNil {C : Nat → List D → Or → R D} {ρ : Env} {o : Or} {n : Nat} {P : Env → Or → Prop} (hl : ρ.length = n) (h : P ρ o) : Gd n (evSs C [] ρ o) P := ⟨_, _, evSs_nil' _ _ _, hl, h⟩
theorem forM_cons (f : D → Env → Or → Out) (x : D) (xs : List D) (ρ : Env) (o : Or) : forM f (x :: xs) ρ o = (f x ρ o).turn fun ρ o => forM f xs ρ o := rfl
end BV

end
/-! text: BM6.lean -/
section
set_option autoImplicit false
set_option maxRecDepth 100000
namespace BV
/-! BM6: the draws that the laws from k46 to k51 make -/
def qA : List IS := [.ifs (.op2 .gt (.var 5) (.cst (.int 0))) [.app 2 (.op2 .mod (.bi .int [(.var 5)]) (.cst (.int 997))),
    .set (.slot 5) (.op2 .fdiv (.var 5) (.cst (.int 997)))] []]
def qB : List IS := [.set (.slot 5) (.bi .abs [(.bi .int [(.var 4)])]),
    .set (.slot 3) (.op2 .mod (.bi .int [(.op2 .add (.op2 .add (.op2 .mul (.var 3) (.cst (.int 48271))) (.var 5)) (.cst (.int 1)))]) (.cst (.int 2147483647))),
    .ifs (.op2 .lt (.var 5) (.op2 .pow (.cst (.int 10)) (.cst (.int 18)))) [.app 2 (.op2 .mod (.bi .int [(.var 5)]) (.cst (.int 997))),
    .app 2 (.op2 .mod (.bi .int [(.var 3)]) (.cst (.int 65521))),
    .set (.slot 5) (.cst (.int 0))] [],
    .for_ (.slot 6) (.bi .range [(.cst (.int 60))]) qA]
def qC : List IS := [.set (.slot 3) (.op2 .mod (.bi .int [(.op2 .add (.op2 .mul (.var 3) (.cst (.int 48271))) (.cst (.int 69621)))]) (.cst (.int 2147483647))),
    .app 2 (.op2 .fdiv (.var 3) (.cst (.int 5)))]
def iDq : List IS := [.setO 2 (.lst []),
    .set (.slot 3) (.cst (.int 7)),
    .for_ (.slot 4) (.var 0) qB,
    .for_ (.slot 6) (.bi .range [(.var 1)]) qC,
    .frz 2,
    .ret (.var 2)]
section
variable {C : Nat → List D → Or → R D} {o : Or} {sc : D} {mn : D}
def qE (sc mn : D) (ds : List Int) (m : Int) (x4 x5 x6 : Sl) : Env := [.val sc, .val mn, .own (LI ds), .val (.int m), x4, x5, x6]
theorem qA_ok (ds : List Int) (m : Int) (x4 : Sl) (r : Int) (x6 : Sl) (hl : ds.length < cap) : ∃ (ds' : List Int) (r' : Int), evSs C qA (qE sc mn ds m x4 (.val (.int r)) x6) o = .nx (qE sc mn ds' m x4 (.val (.int r')) x6) o ∧ ds'.length ≤ ds.length + 1 := by
  have e : evE C (.op2 .gt (.var 5) (.cst (.int 0))) (qE sc mn ds m x4 (.val (.int r)) x6) o = .ok (.bool (decide (0 < r))) o := ev_op2 (ev_var rfl) ev_cst (op2_gt_int _ _)
  by_cases h : 0 < r
  · rw [decide_eq_true h] at e
    exact ⟨ds ++ [r % 997], r / 997, stp (ifT e (stp (app_int rfl (ev_op2 (ev_bi1 (ev_var rfl) (bi_int _)) ev_cst (op2_mod_int (by decide))) hl) (stp (st_set (ev_op2 (ev_var rfl) ev_cst (op2_fdiv_int (by decide) (by decide)))) (evSs_nil' _ _ _)))) (evSs_nil' _ _ _), by simp⟩
  · rw [decide_eq_false h] at e
    exact ⟨ds, r, stp (ifF e (evSs_nil' _ _ _)) (evSs_nil' _ _ _), by omega⟩
theorem qFor_ok (ds : List Int) (m : Int) (x4 : Sl) (r : Int) (x6 : Sl) (hl : ds.length + 60 ≤ cap) : ∃ (ds' : List Int) (r' : Int) (x6' : Sl), evS C (.for_ (.slot 6) (.bi .range [(.cst (.int 60))]) qA) (qE sc mn ds m x4 (.val (.int r)) x6) o = .nx (qE sc mn ds' m x4 (.val (.int r')) x6') o ∧ ds'.length ≤ ds.length + 60 := by
  obtain ⟨ρ', o', e, rfl, ds', r', x', rfl, hb⟩ := forM_RI (n := 60) (f := fun x ρ o => evSs C qA (setS ρ 6 (.val x)) o) (I := fun j ρ o' => o' = o ∧ ∃ ds' r' x', ρ = qE sc mn ds' m x4 (.val (.int r')) x' ∧ ds'.length ≤ ds.length + j)
    (ρ := qE sc mn ds m x4 (.val (.int r)) x6) (o := o) (fun j hj ρ o' ⟨ho, ds1, r1, x1, hρ, hb⟩ => by
      subst ho
      subst hρ
      obtain ⟨ds2, r2, e, hl2⟩ := qA_ok (C := C) (o := o') (sc := sc) (mn := mn) ds1 m x4 r1 (.val (.int j)) (by omega)
      exact ⟨_, _, .inl e, rfl, ds2, r2, _, rfl, by omega⟩) ⟨rfl, ds, r, x6, rfl, by omega⟩
  exact ⟨ds', r', x', st_forI (ev_rangeN (n := 60) ev_cst (by decide)) e, hb⟩
theorem qB_ok (x : Int) (ds : List Int) (m : Int) (x5 x6 : Sl) (hl : ds.length + 62 ≤ cap) : ∃ (ds' : List Int) (m' : Int) (y5 y6 : Sl), evSs C qB (qE sc mn ds m (.val (.int x)) x5 x6) o = .nx (qE sc mn ds' m' (.val (.int x)) y5 y6) o ∧ ds'.length ≤ ds.length + 62 := by
  have e1 : ∀ x5 x6, evS C (.set (.slot 5) (.bi .abs [(.bi .int [(.var 4)])])) (qE sc mn ds m (.val (.int x)) x5 x6) o = .nx (qE sc mn ds m (.val (.int x)) (.val (.int (if x < 0 then -x else x))) x6) o := fun x5 x6 =>
    st_set (ev_bi1 (ev_bi1 (ev_var rfl) (bi_int _)) (bi_abs _))
  generalize (if x < 0 then -x else x) = c at e1
  have e2 : ∀ x6, evS C (.set (.slot 3) (.op2 .mod (.bi .int [(.op2 .add (.op2 .add (.op2 .mul (.var 3) (.cst (.int 48271))) (.var 5)) (.cst (.int 1)))]) (.cst (.int 2147483647)))) (qE sc mn ds m (.val (.int x)) (.val (.int c)) x6) o = .nx (qE sc mn ds ((m * 48271 + c + 1) % 2147483647) (.val (.int x)) (.val (.int c)) x6) o := fun x6 =>
    st_set (ev_op2 (ev_bi1 (ev_op2 (ev_op2 (ev_op2 (ev_var rfl) ev_cst (op2_mul_int (mulOk_r (by decide) (by decide)))) (ev_var rfl) (op2_add_int _ _)) ev_cst (op2_add_int _ _)) (bi_int _)) ev_cst (op2_mod_int (by decide)))
  generalize (m * 48271 + c + 1) % 2147483647 = m2 at e2
  have e3 : evE C (.op2 .lt (.var 5) (.op2 .pow (.cst (.int 10)) (.cst (.int 18)))) (qE sc mn ds m2 (.val (.int x)) (.val (.int c)) x6) o = .ok (.bool (decide (c < 1000000000000000000))) o := ev_op2 (ev_var rfl) (ev_op2 ev_cst ev_cst pow_1018) (op2_lt_int _ _)
  by_cases hh : c < 1000000000000000000
  · rw [decide_eq_true hh] at e3
    obtain ⟨ds', r', x6', e4, hl3⟩ := qFor_ok (C := C) (o := o) (sc := sc) (mn := mn) (ds ++ [c % 997] ++ [m2 % 65521]) m2 (.val (.int x)) 0 x6 (by simp; omega)
    refine ⟨ds', m2, _, _, stp (e1 _ _) (stp (e2 _) (stp (ifT e3 (stp (app_int rfl (ev_op2 (ev_bi1 (ev_var rfl) (bi_int _)) ev_cst (op2_mod_int (by decide))) (by omega)) (stp (app_int rfl (ev_op2 (ev_bi1 (ev_var rfl) (bi_int _)) ev_cst (op2_mod_int (by decide))) (by simp; omega)) (stp (st_set ev_cst) (evSs_nil' _ _ _))))) (stp e4 (evSs_nil' _ _ _)))), ?_⟩
    simp at hl3; omega
  · rw [decide_eq_false hh] at e3
    obtain ⟨ds', r', x6', e4, hl3⟩ := qFor_ok (C := C) (o := o) (sc := sc) (mn := mn) ds m2 (.val (.int x)) c x6 (by omega)
    exact ⟨ds', m2, _, _, stp (e1 _ _) (stp (e2 _) (stp (ifF e3 (evSs_nil' _ _ _)) (stp e4 (evSs_nil' _ _ _)))), by omega⟩
theorem forM_cons0 (f : D → Env → Or → Out) (x : D) (xs : List D) (ρ : Env) (o : Or) : forM f (x :: xs) ρ o = (f x ρ o).turn fun ρ o => forM f xs ρ o := rfl
theorem qBs_ok : ∀ (xs ds : List Int) (m : Int) (x4 x5 x6 : Sl), ds.length + 62 * xs.length ≤ cap → ∃ (ds' : List Int) (m' : Int) (y4 y5 y6 : Sl), forM (fun x ρ o => evSs C qB (setS ρ 4 (.val x)) o) (xs.map D.int) (qE sc mn ds m x4 x5 x6) o = .nx (qE sc mn ds' m' y4 y5 y6) o ∧ ds'.length ≤ ds.length + 62 * xs.length
  | [], ds, m, x4, x5, x6, hl => ⟨ds, m, x4, x5, x6, rfl, by simp⟩
  | x :: xs, ds, m, x4, x5, x6, hl => by
    rw [List.length_cons] at hl
    obtain ⟨ds1, m1, y5, y6, e, hl1⟩ := qB_ok (C := C) (o := o) (sc := sc) (mn := mn) x ds m x5 x6 (by omega)
    obtain ⟨ds2, m2, z4, z5, z6, e2, hl2⟩ := qBs_ok xs ds1 m1 (.val (.int x)) y5 y6 (by omega)
    refine ⟨ds2, m2, z4, z5, z6, ?_, by rw [List.length_cons]; omega⟩
    rw [List.map_cons, forM_cons0, show evSs C qB (setS (qE sc mn ds m x4 x5 x6) 4 (.val (.int x))) o = .nx (qE sc mn ds1 m1 (.val (.int x)) y5 y6) o from e]
    exact e2
theorem drawsq_ok {T : Nat → Fn} {f : Nat} (h : T f = ⟨2, 7, iDq⟩) (k : Nat) (sc : List Int) (hs : sc.length ≤ 63) (mn : Nat) (hm : mn ≤ 1000) (o : Or) : ∃ ns : List Int, callN T (k + 1) f [LI sc, .int mn] o = .ok (LI ns) o := by
  obtain ⟨ds1, m1, x4, x5, x6, e1, hb1⟩ := qBs_ok (C := callN T k) (o := o) (sc := LI sc) (mn := .int mn) sc [] 7 .un .un .un (by simp only [List.length_nil]; show _ ≤ 16777216; omega)
  obtain ⟨ρ2, o2, e2, rfl, ds2, m2, y6, rfl, hb2⟩ := forM_RI (n := mn) (f := fun x ρ o => evSs (callN T k) qC (setS ρ 6 (.val x)) o) (I := fun j ρ o' => o' = o ∧ ∃ ds' m' x6, ρ = qE (LI sc) (.int mn) ds' m' x4 x5 x6 ∧ ds'.length ≤ 4000 + j)
    (ρ := qE (LI sc) (.int mn) ds1 m1 x4 x5 x6) (o := o) (fun j hj ρ o' ⟨ho, ds1, m1, x6, hρ, hb⟩ => by
      subst ho
      subst hρ
      refine ⟨_, _, .inl (stp (st_set (ev_op2 (ev_bi1 (ev_op2 (ev_op2 (ev_var rfl) ev_cst (op2_mul_int (mulOk_r (by decide) (by decide)))) ev_cst (op2_add_int _ _)) (bi_int _)) ev_cst (op2_mod_int (by decide)))) (stp (app_int (ds := ds1) rfl (ev_op2 (ev_var rfl) ev_cst (op2_fdiv_int (by decide) (by decide))) (by show _ < 16777216; omega)) (evSs_nil' _ _ _))), rfl, ds1 ++ [_], _, _, rfl, by simp; omega⟩) ⟨rfl, ds1, m1, x6, rfl, by simp at hb1; omega⟩
  exact ⟨ds2, call_rt h (stp (st_setO (ev_lst evs_nil)) (stp (ρ1 := qE (LI sc) (.int mn) [] 7 .un .un .un) (st_set ev_cst) (stp (st_forI (ev_var rfl) e1) (stp (st_forI (ev_rangeN (ev_var rfl) (by show _ ≤ 16777216; omega)) e2) (stp (show evS _ (.frz 2) (qE (LI sc) (.int mn) ds2 m2 x4 x5 y6) _ = _ from rfl) (stR (st_ret (ev_var rfl))))))))⟩
end
end BV

end
/-! text: BM7.lean -/
section
set_option autoImplicit false
set_option maxRecDepth 100000
namespace BV
/-! BM7: _law_same of the laws k46 to k51: a thing is the same as itself -/
def iSame (f : Nat) : List IS := [.ifs (.op2 .is (.var 1) (.cst .non)) [.ret (.op2 .is (.var 0) (.cst .non))] [],
    .ifs (.or (.bi (.isT .tup) [(.var 1)]) (.bi (.isT .lst) [(.var 1)])) [.ifs (.or (.op2 .ne (.bi (.isT .tup) [(.var 1)]) (.bi (.isT .tup) [(.var 0)])) (.op2 .ne (.bi (.isT .lst) [(.var 1)]) (.bi (.isT .lst) [(.var 0)]))) [.ret (.cst (.bool false))] [],
    .ifs (.op2 .ne (.bi .len [(.var 0)]) (.bi .len [(.var 1)])) [.ret (.cst (.bool false))] [],
    .for_ (.slot 2) (.bi .range [(.bi .len [(.var 1)])]) [.ifs (.op1 .not (.call f [(.op2 .ix (.var 0) (.var 2)), (.op2 .ix (.var 1) (.var 2))])) [.ret (.cst (.bool false))] []],
    .ret (.cst (.bool true))] [],
    .ifs (.bi (.isT .dic) [(.var 1)]) [.ifs (.or (.op1 .not (.bi (.isT .dic) [(.var 0)])) (.op2 .ne (.bi .len [(.var 0)]) (.bi .len [(.var 1)]))) [.ret (.cst (.bool false))] [],
    .ret (.op2 .eq (.comp (.slot 3) (.var 1) (.or (.op2 .notIn (.var 3) (.var 0)) (.op1 .not (.call f [(.op2 .ix (.var 0) (.var 3)), (.op2 .ix (.var 1) (.var 3))]))) (.var 3)) (.lst []))] [],
    .ifs (.op2 .ne (.bi (.isT .bool) [(.var 1)]) (.bi (.isT .bool) [(.var 0)])) [.ret (.cst (.bool false))] [],
    .ifs (.or (.op2 .ne (.bi (.isT .int) [(.var 1)]) (.bi (.isT .int) [(.var 0)])) (.op2 .ne (.bi (.isT .str) [(.var 1)]) (.bi (.isT .str) [(.var 0)]))) [.ret (.cst (.bool false))] [],
    .ret (.op2 .eq (.var 0) (.var 1))]
/-! _law_same -/
/-- plain data, lists too -/
def plS : Nat → D → Bool
  | _, .non => true
  | _, .bool _ => true
  | _, .int _ => true
  | _, .str _ => true
  | n + 1, .tup xs => decide (xs.length ≤ cap) && xs.all (plS n)
  | n + 1, .lst xs => decide (xs.length ≤ cap) && xs.all (plS n)
  | _, _ => false
theorem eqO_bb (b : Bool) : eqO (.bool b) (.bool b) = some true := by cases b <;> rfl
theorem ne_bb {C : Nat → List D → Or → R D} {ρ : Env} {o : Or} {a b : IE} {q : Bool} (ha : evE C a ρ o = .ok (.bool q) o) (hb : evE C b ρ o = .ok (.bool q) o) : evE C (.op2 .ne a b) ρ o = .ok (.bool false) o := ev_op2 ha hb (op2_ne (c := true) (eqO_bb q))
theorem same_flat {T : Nat → Fn} {f : Nat} (h : T f = ⟨2, 4, iSame f⟩) (d : D) (hd : flatD d = true) (j : Nat) (o : Or) : callN T (j + 1) f [d, d] o = .ok (.bool true) o := by
  cases d with
  | non => exact call_rt h (stR rfl)
  | bool b => exact call_rt h (stp rfl (stp rfl (stp rfl (stp rfl (stp rfl (stR (by cases b <;> rfl)))))))
  | int b =>
    refine call_rt h (stp rfl (stp rfl (stp rfl (stp rfl (stp rfl (stR (st_ret (ev_op2 (ev_var rfl) (ev_var rfl) (op2_eq (c := true) ?_))))))))) 
    rw [eqO_int, decide_eq_true rfl]
  | str b =>
    refine call_rt h (stp rfl (stp rfl (stp rfl (stp rfl (stp rfl (stR (st_ret (ev_op2 (ev_var rfl) (ev_var rfl) (op2_eq (c := true) ?_)))))))))
    simp [eqO, scalD, eqD]
  | _ => cases hd
theorem same_seq {T : Nat → Fn} {f : Nat} (h : T f = ⟨2, 4, iSame f⟩) (j : Nat) (xs : List D) (hl : xs.length ≤ cap) (d : D) (hd : d = .tup xs ∨ d = .lst xs) (ih : ∀ x ∈ xs, ∀ o, callN T j f [x, x] o = .ok (.bool true) o) (o : Or) : callN T (j + 1) f [d, d] o = .ok (.bool true) o := by
  have hlen : ∀ ρ : Env, ∀ i : Nat, getS ρ i = .val d → evE (callN T j) (.bi .len [(.var i)]) ρ o = .ok (.int (xs.length : Int)) o := fun ρ i h => by
    rcases hd with rfl | rfl
    · exact ev_bi1 (ev_var h) (bi_len_tup _)
    · exact ev_bi1 (ev_var h) (bi_len_lst _)
  have hix : ∀ ρ : Env, ∀ i : Nat, getS ρ i = .val d → ∀ (k : Nat) (hk : k < xs.length), getS ρ 2 = .val (.int (k : Int)) → evE (callN T j) (.op2 .ix (.var i) (.var 2)) ρ o = .ok xs[k] o := fun ρ i h k hk h2 => by
    rcases hd with rfl | rfl
    · exact ev_op2 (ev_var h) (ev_var h2) (by rw [op2_ix_tup]; exact atI_nat' _ _ hk)
    · exact ev_op2 (ev_var h) (ev_var h2) (by rw [op2_ix_lst]; exact atI_nat' _ _ hk)
  have L := forM_RI (n := xs.length) (f := fun x ρ o => evSs (callN T j) [.ifs (.op1 .not (.call f [(.op2 .ix (.var 0) (.var 2)), (.op2 .ix (.var 1) (.var 2))])) [.ret (.cst (.bool false))] []] (setS ρ 2 (.val x)) o) (I := fun _ ρ o' => o' = o ∧ ∃ y, ρ = [.val d, .val d, y, .un]) (ρ := [.val d, .val d, .un, .un]) (o := o)
    (fun k hk ρ o' ⟨ho, y, hρ⟩ => by
      subst ho
      subst hρ
      exact ⟨_, _, .inl (stp (ifF (ev_not (q := true) (ev_call2 (hix _ 0 rfl k hk rfl) (hix _ 1 rfl k hk rfl) (ih _ (List.getElem_mem hk) o'))) (evSs_nil' _ _ _)) (evSs_nil' _ _ _)), rfl, _, rfl⟩) ⟨rfl, _, rfl⟩
  obtain ⟨ρ', o', e, ho, y, rfl⟩ := L
  subst ho
  have r : ∀ ρ : Env, getS ρ 1 = .val d → evE (callN T j) (.bi .range [(.bi .len [(.var 1)])]) ρ o' = .ok (.lst (RI xs.length)) o' := fun ρ h => ev_rangeN (hlen ρ 1 h) hl
  have c1 : evE (callN T j) (.op2 .is (.var 1) (.cst .non)) [.val d, .val d, .un, .un] o' = .ok (.bool false) o' := by rcases hd with rfl | rfl <;> rfl
  have c2 : evE (callN T j) (.or (.bi (.isT .tup) [(.var 1)]) (.bi (.isT .lst) [(.var 1)])) [.val d, .val d, .un, .un] o' = .ok (.bool true) o' := by rcases hd with rfl | rfl <;> rfl
  have c3 : evE (callN T j) (.or (.op2 .ne (.bi (.isT .tup) [(.var 1)]) (.bi (.isT .tup) [(.var 0)])) (.op2 .ne (.bi (.isT .lst) [(.var 1)]) (.bi (.isT .lst) [(.var 0)]))) [.val d, .val d, .un, .un] o' = .ok (.bool false) o' := by rcases hd with rfl | rfl <;> rfl
  have c4 : evE (callN T j) (.op2 .ne (.bi .len [(.var 0)]) (.bi .len [(.var 1)])) [.val d, .val d, .un, .un] o' = .ok (.bool false) o' := ev_op2 (hlen _ 0 rfl) (hlen _ 1 rfl) (op2_ne (c := true) (by rw [eqO_int, decide_eq_true rfl]))
  exact call_rt h (stp (ifF c1 (evSs_nil' _ _ _)) (stR (ifT c2 (stp (ifF c3 (evSs_nil' _ _ _)) (stp (ifF c4 (evSs_nil' _ _ _)) (stp (st_forI (r _ rfl) e) (stR (st_ret ev_cst))))))))
theorem same_refl {T : Nat → Fn} {f : Nat} (h : T f = ⟨2, 4, iSame f⟩) : ∀ (n : Nat) (d : D), plS n d = true → ∀ (k : Nat) (o : Or), callN T (k + n + 1) f [d, d] o = .ok (.bool true) o := by
  intro n
  induction n with
  | zero =>
    intro d hp k o
    cases d <;> first
      | exact same_flat h _ rfl _ _
      | cases hp
  | succ n ih =>
    intro d hp k o
    cases d with
    | tup xs =>
      simp only [plS, Bool.and_eq_true, decide_eq_true_eq, List.all_eq_true] at hp
      exact same_seq h (k + n + 1) xs hp.1 _ (.inl rfl) (fun x hx o => ih x (hp.2 x hx) k o) o
    | lst xs =>
      simp only [plS, Bool.and_eq_true, decide_eq_true_eq, List.all_eq_true] at hp
      exact same_seq h (k + n + 1) xs hp.1 _ (.inr rfl) (fun x hx o => ih x (hp.2 x hx) k o) o
    | dic xs => cases hp
    | tok => cases hp
    | _ => exact same_flat h _ rfl _ _

section
variable {T : Nat → Fn} {f : Nat} (h : T f = ⟨2, 4, iSame f⟩)
include h
theorem smF {a b : IE} {ρ : Env} {o : Or} {d e : D} (ha : evE (callN T 60) a ρ o = .ok d o) (hb : evE (callN T 60) b ρ o = .ok e o) (he : d = e) (hp : plS 6 d = true) : evE (callN T 60) (.op1 .not (.call f [a, b])) ρ o = .ok (.bool false) o := by
  subst he
  exact ev_not (q := true) (ev_call2 ha hb (same_refl h 6 d hp 53 o))
theorem sm {a b : IE} {ρ : Env} {o : Or} {d e : D} (ha : evE (callN T 60) a ρ o = .ok d o) (hb : evE (callN T 60) b ρ o = .ok e o) (he : d = e) (hp : plS 6 d = true) : evS (callN T 60) (.ifs (.op1 .not (.call f [a, b])) [.ret (.cst (.bool false))] []) ρ o = .nx ρ o := ifF (smF h ha hb he hp) (evSs_nil' _ _ _)
end
theorem pl_optD (n : Nat) (x : Option Nat) : plS n (optD x) = true := by cases x <;> cases n <;> rfl
theorem forM_3 {f : D → Env → Or → Out} {a b c : D} {ρ0 ρ1 ρ2 ρ3 : Env} {o : Or} (h1 : f a ρ0 o = .nx ρ1 o) (h2 : f b ρ1 o = .nx ρ2 o) (h3 : f c ρ2 o = .nx ρ3 o) : forM f [a, b, c] ρ0 o = .nx ρ3 o := by
  rw [forM_cons, h1]
  simp only [Out.turn]
  rw [forM_cons, h2]
  simp only [Out.turn]
  rw [forM_cons, h3]
  rfl
/-- one step of a loop, the rest -/
theorem forM_step {f : D → Env → Or → Out} {a : D} {xs : List D} {ρ ρ1 : Env} {o o1 : Or} {z : Out} (h1 : f a ρ o = .nx ρ1 o1) (h2 : forM f xs ρ1 o1 = z) : forM f (a :: xs) ρ o = z := by
  rw [forM_cons, h1]
  exact h2
/-- a loop with a rule for each thing -/
theorem forM_all {f : D → Env → Or → Out} {I : Env → Or → Prop} : ∀ (xs : List D), (∀ x ∈ xs, ∀ ρ o, I ρ o → ∃ ρ' o', f x ρ o = .nx ρ' o' ∧ I ρ' o') → ∀ ρ o, I ρ o → ∃ ρ' o', forM f xs ρ o = .nx ρ' o' ∧ I ρ' o'
  | [], _, ρ, o, i => ⟨ρ, o, rfl, i⟩
  | x :: xs, h, ρ, o, i => by
    obtain ⟨ρ1, o1, e1, i1⟩ := h x List.mem_cons_self ρ o i
    obtain ⟨ρ2, o2, e2, i2⟩ := forM_all xs (fun y hy => h y (List.mem_cons_of_mem _ hy)) ρ1 o1 i1
    exact ⟨ρ2, o2, forM_step e1 e2, i2⟩
theorem nat_pick {rows : List Nat} {P : Nat → Prop} (hb : ∀ n ∈ rows, P n) {j : Nat} (hj : j < (rows.map fun n : Nat => D.int (n : Int)).length) : ∃ n : Nat, (rows.map fun n : Nat => D.int (n : Int))[j] = .int (n : Int) ∧ P n := by
  have hj' : j < rows.length := by simpa using hj
  exact ⟨rows[j], by rw [List.getElem_map], hb _ (List.getElem_mem hj')⟩
theorem addN (a b : Nat) : op2 .add (.int (a : Int)) (.int (b : Int)) = some (.int ((a + b : Nat) : Int)) := by rw [op2_add_int]; congr 2
theorem subN {a b : Nat} (h : b ≤ a) : op2 .sub (.int (a : Int)) (.int (b : Int)) = some (.int ((a - b : Nat) : Int)) := by rw [op2_sub_int]; congr 2; omega
theorem ltN (a b : Nat) : op2 .lt (.int (a : Int)) (.int (b : Int)) = some (.bool (decide (a < b))) := by rw [op2_lt_int]; congr 2; rw [decide_eq_decide]; omega
theorem op1m (n : Int) : op1 .neg (.int n) = some (.int (-n)) := rfl
theorem last_ix {α : Type} {xs : List α} {q : α} (h : xs.getLast? = some q) : atI xs (-1) = some q := by
  obtain ⟨ys, rfl⟩ := List.getLast?_eq_some_iff.mp h
  rw [atI, ixN, if_neg (by omega), if_pos (by simp; omega), Option.bind_some]
  have : ((-1 : Int) + ((ys ++ [q]).length : Int)).toNat = ys.length := by simp; omega
  rw [this]; simp
theorem compM_some {f : D → Or → R (Option D)} (h : ∀ x o, ∃ q o', f x o = .ok (if q = true then some x else none) o') : ∀ (xs : List D) (o : Or), ∃ (ys : List D) (o' : Or), compM f xs o = .ok ys o' ∧ ys.Sublist xs
  | [], o => ⟨[], o, rfl, .slnil⟩
  | x :: xs, o => by
    obtain ⟨q, o1, e⟩ := h x o
    obtain ⟨ys, o2, e2, hs⟩ := compM_some h xs o1
    cases q
    · exact ⟨ys, o2, by rw [compM, e]; simp only [R.bind_ok, e2, Bool.false_eq_true, if_false]; try rfl, .cons _ hs⟩
    · exact ⟨x :: ys, o2, by rw [compM, e]; simp only [R.bind_ok, e2, if_true]; try rfl, .cons₂ _ hs⟩
/-- a choice with draws -/
theorem ev_compDf {C : Nat → List D → Or → R D} {ρ : Env} {o o1 : Or} {s c : IE} {i : Nat} {xs : List D} (hs : (evE C s ρ o).seq = .ok xs o1) (hc : ∀ x o, ∃ q o', evE C c (setS ρ i (.val x)) o = .ok (.bool q) o') (hi : ∀ x, getS (setS ρ i (.val x)) i = .val x) : ∃ (ys : List D) (o' : Or), evE C (.comp (.slot i) s c (.var i)) ρ o = .ok (.lst ys) o' ∧ ys.Sublist xs := by
  obtain ⟨ys, o', h, hl⟩ := compM_some (f := fun x o => match bindP (.slot i) x (wipeS ρ (slotsP (.slot i))) with
        | none => .no
        | some ρ => (evE C c ρ o).test fun t _ o => if t then (evE C (.var i) ρ o).bind fun y o => .ok (some y) o else .ok none o) (fun x o => by
    obtain ⟨q, o', h⟩ := hc x o
    refine ⟨q, o', ?_⟩
    simp only [bindP, wipeS, slotsP, setS_setS, h, test_bool]
    cases q
    · rfl
    · have e : evE C (.var i) (setS ρ i (.val x)) o' = .ok x o' := ev_var (hi x)
      simp only [if_true, e, R.bind_ok]) xs o1
  refine ⟨ys, o', ?_, hl⟩
  rw [evE, hs]
  simp only [R.bind_ok]
  exact congrArg (fun r : R (List D) => r.pure.bind fun ys o => R.ok (D.lst ys) o) h
end BV

end
/-! text: k51_M1.lean -/
section
set_option autoImplicit false
set_option maxRecDepth 100000
namespace Lk51
open BV
abbrev C (k : Nat) := callN tab k
def mL (ms : List Nat) : List D := ms.map fun n : Nat => .int (n : Int)
def nI (ms : List Nat) : List Int := ms.map fun n : Nat => (n : Int)
theorem mL_nI (ms : List Nat) : mL ms = (nI ms).map D.int := by rw [mL, nI, List.map_map]; rfl
def mny (d : Nat) : Nat := if d = 0 then 10 else d
theorem mny_pos (d : Nat) : 1 ≤ mny d := by unfold mny; split <;> omega
def run (t g : Int) (m : Nat) : List Int := (List.range m).map fun k : Nat => t + k * g
def pl (g w : Int) : Int → List Nat → List Int
  | _, [] => []
  | t, d :: ds => run t g (mny d) ++ pl g w (t + ((mny d : Int) - 1) * g + w) ds
theorem run_len (t g : Int) (m : Nat) : (run t g m).length = m := by simp [run]
theorem run_succ (t g : Int) (m : Nat) : run t g (m + 1) = run t g m ++ [t + m * g] := by rw [run, List.range_succ, List.map_append]; rfl
theorem st_augI {C : Nat → List D → Or → R D} {ρ : Env} {o : Or} {i : Nat} {xs : List D} {x z y : D} {k e : IE} {b : O2} {n : Int} {j : Nat} (h : getS ρ i = .own (.lst xs)) (hk : evE C k ρ o = .ok (.int n) o) (hj : ixN xs.length n = some j) (hx : atI xs n = some x) (hs : scalar x = true) (he : evE C e ρ o = .ok y o) (hz : op2 b x y = some z) : evS C (.augI i k b e) ρ o = .nx (setS ρ i (.own (.lst (xs.set j z)))) o := by
  rw [evS]
  simp only [h, hk, R.out_ok, hj, hx, hs, if_true, he, hz]
/-! pulses_of -/
def E3 (ds : List Nat) (g w : Int) (acc : List Int) (t : Int) (x5 x6 : Sl) : Env := [.val (.tup (mL ds)), .val (.int g), .val (.int w), .own (LI acc), .val (.int t), x5, x6]
def b3i : List IS := [.app 3 (.op2 .add (.var 4) (.op2 .mul (.var 6) (.var 1)))]
def b3 : List IS := [.for_ (.slot 6) (.bi .range [(.ite (.op2 .gt (.var 5) (.cst (.int 0))) (.var 5) (.cst (.int 10)))]) [.app 3 (.op2 .add (.var 4) (.op2 .mul (.var 6) (.var 1)))],
    .set (.slot 4) (.op2 .add (.op2 .ix (.pk 3) (.op1 .neg (.cst (.int 1)))) (.var 2))]
theorem mulB {a b : Int} (h0 : 0 ≤ b) (h1 : b ≤ 1000) : op2 .mul (.int a) (.int b) = some (.int (a * b)) := by rw [op2_mul_int]; exact mulOk_s (by omega)
theorem in3 (j : Nat) (ds0 : List Nat) (g w : Int) (hg : 0 ≤ g) (hg1 : g ≤ 1000) (t : Int) (acc : List Int) (m : Nat) (ha : acc.length + m ≤ 100000) (x5 x6 : Sl) (o : Or) : ∃ y6, forM (fun x ρ o => evSs (C j) b3i (setS ρ 6 (.val x)) o) (RI m) (E3 ds0 g w acc t x5 x6) o = .nx (E3 ds0 g w (acc ++ run t g m) t x5 y6) o := by
  have L := forM_RI (n := m) (f := fun x ρ o => evSs (C j) b3i (setS ρ 6 (.val x)) o) (I := fun k ρ o' => o' = o ∧ ∃ y6, ρ = E3 ds0 g w (acc ++ run t g k) t x5 y6) (ρ := E3 ds0 g w acc t x5 x6) (o := o)
    (fun k hk ρ o' ⟨ho, y6, hρ⟩ => by
      subst ho
      subst hρ
      refine ⟨_, _, .inl (stp (app_int (ds := acc ++ run t g k) (n := t + (k : Int) * g) rfl (ev_op2 (ev_var rfl) (ev_op2 (ev_var rfl) (ev_var rfl) (mulB hg hg1)) (op2_add_int _ _)) (by rw [List.length_append, run_len, cap_v']; omega)) (evSs_nil' _ _ _)), rfl, .val (.int (k : Int)), ?_⟩
      rw [run_succ, ← List.append_assoc]; rfl) ⟨rfl, x6, by simp [run, E3]⟩
  obtain ⟨ρ', o', e, ho, y6, rfl⟩ := L
  subst ho
  exact ⟨y6, e⟩
theorem run_last (acc : List Int) (t g : Int) (m : Nat) (hm : 1 ≤ m) : op2 .ix (LI (acc ++ run t g m)) (.int (-1)) = some (.int (t + ((m : Int) - 1) * g)) := by
  obtain ⟨k, rfl⟩ : ∃ k, m = k + 1 := ⟨m - 1, by omega⟩
  rw [LI, op2_ix_lst, run_succ, ← List.append_assoc]
  refine last_ix ?_
  rw [List.map_append, List.map_cons, List.map_nil, List.getLast?_append]
  simp
theorem rng10 {C : Nat → List D → Or → R D} {ρ : Env} {o : Or} {i : Nat} {d : Nat} (h : getS ρ i = .val (.int (d : Int))) (hd : d ≤ 9) : evE C (.bi .range [(.ite (.op2 .gt (.var i) (.cst (.int 0))) (.var i) (.cst (.int 10)))]) ρ o = .ok (.lst (RI (mny d))) o := by
  refine ev_rangeN ?_ (by unfold mny; rw [cap_v']; split <;> omega)
  by_cases h0 : d = 0
  · subst h0
    exact ev_iteF (ev_op2 (ev_var h) ev_cst (op2_gt_int _ _)) ev_cst
  · rw [mny, if_neg h0]
    have e : evE C (.op2 .gt (.var i) (.cst (.int 0))) ρ o = .ok (.bool true) o := ev_op2 (ev_var h) ev_cst (by rw [op2_gt_int, decide_eq_true (by omega)])
    exact ev_iteT e (ev_var h)
theorem out3 (j : Nat) (ds0 : List Nat) (g w : Int) (hg : 0 ≤ g) (hg1 : g ≤ 1000) (o : Or) : ∀ (ds : List Nat) (t : Int) (acc : List Int) (x5 x6 : Sl), (∀ d ∈ ds, d ≤ 9) → acc.length + 10 * ds.length ≤ 10000 → ∃ t' y5 y6, forM (fun x ρ o => evSs (C j) b3 (setS ρ 5 (.val x)) o) (mL ds) (E3 ds0 g w acc t x5 x6) o = .nx (E3 ds0 g w (acc ++ pl g w t ds) t' y5 y6) o
  | [], t, acc, x5, x6, _, _ => ⟨t, x5, x6, by rw [pl, List.append_nil]; rfl⟩
  | d :: ds, t, acc, x5, x6, hd, hl => by
    rw [List.length_cons] at hl
    have hm : mny d ≤ 10 := by have := hd d (by simp); unfold mny; split <;> omega
    obtain ⟨z6, e⟩ := in3 j ds0 g w hg hg1 t acc (mny d) (by omega) (.val (.int (d : Int))) x6 o
    obtain ⟨t', y5, y6, e2⟩ := out3 j ds0 g w hg hg1 o ds (t + ((mny d : Int) - 1) * g + w) (acc ++ run t g (mny d)) (.val (.int (d : Int))) z6 (fun x hx => hd x (by simp [hx])) (by rw [List.length_append, run_len]; omega)
    refine ⟨t', y5, y6, ?_⟩
    rw [pl, ← List.append_assoc]
    refine forM_step ?_ e2
    exact stp (st_forI (rng10 rfl (hd d (by simp))) e) (stp (st_set (ev_op2 (ev_op2 (ev_pkO rfl) (ev_op1 ev_cst (op1m 1)) (run_last _ _ _ _ (mny_pos d))) (ev_var rfl) (op2_add_int _ _))) (evSs_nil' _ _ _))
theorem s3 (j : Nat) (ds : List Nat) (hd : ∀ d ∈ ds, d ≤ 9) (hl : ds.length ≤ 900) (g w : Int) (hg : 0 ≤ g) (hg1 : g ≤ 1000) (o : Or) : C (j + 1) 3 [.tup (mL ds), .int g, .int w] o = .ok (TI (pl g w 0 ds)) o := by
  obtain ⟨t', y5, y6, e⟩ := out3 j ds g w hg hg1 o ds 0 [] .un .un hd (by simp only [List.length_nil]; omega)
  exact call_rt rfl (stp (st_setO (ev_lst evs_nil)) (stp (st_set ev_cst) (stp (st_forT (ev_var rfl) e) (stR (st_ret (ev_bi1 (ev_pkO rfl) (bi_tuple_lst _)))))))
/-! _law_pulses -/
def E18 (ds : List Nat) (g w : Int) (acc : List Int) (t : Int) (x5 x6 x7 : Sl) : Env := [.val (.tup (mL ds)), .val (.int g), .val (.int w), .val (LI acc), .val (.int t), x5, x6, x7]
def b18 : List IS := [.set (.slot 6) (.op2 .add (.var 5) (.op2 .mul (.cst (.int 10)) (.bi .int [(.op2 .eq (.var 5) (.cst (.int 0)))]))),
    .set (.slot 3) (.op2 .add (.var 3) (.comp (.slot 7) (.bi .range [(.var 6)]) (.cst (.bool true)) (.op2 .add (.var 4) (.op2 .mul (.var 7) (.var 1))))),
    .set (.slot 4) (.op2 .add (.op2 .add (.var 4) (.op2 .mul (.op2 .sub (.var 6) (.cst (.int 1))) (.var 1))) (.var 2))]
theorem many_ok {C : Nat → List D → Or → R D} {ρ : Env} {o : Or} {i : Nat} {d : Nat} (h : getS ρ i = .val (.int (d : Int))) : evE C (.op2 .add (.var i) (.op2 .mul (.cst (.int 10)) (.bi .int [(.op2 .eq (.var i) (.cst (.int 0)))]))) ρ o = .ok (.int (mny d : Int)) o := by
  by_cases h0 : d = 0
  · subst h0
    exact ev_op2 (ev_var h) (ev_op2 ev_cst (ev_bi1 (ev_op2 (ev_var h) ev_cst rfl) rfl) rfl) rfl
  · have e : evE C (.op2 .eq (.var i) (.cst (.int 0))) ρ o = .ok (.bool false) o := ev_op2 (ev_var h) ev_cst (by rw [op2_eq_int, decide_eq_false (by omega)])
    refine ev_op2 (ev_var h) (ev_op2 ev_cst (ev_bi1 e (z := .int 0) rfl) (z := .int 0) rfl) ?_
    rw [op2_add_int, mny, if_neg h0, Int.add_zero]
theorem out18 (j : Nat) (ds0 : List Nat) (g w : Int) (hg : 0 ≤ g) (hg1 : g ≤ 1000) (o : Or) : ∀ (ds : List Nat) (t : Int) (acc : List Int) (x5 x6 x7 : Sl), (∀ d ∈ ds, d ≤ 9) → acc.length + 10 * ds.length ≤ 10000 → ∃ t' y5 y6 y7, forM (fun x ρ o => evSs (C j) b18 (setS ρ 5 (.val x)) o) (mL ds) (E18 ds0 g w acc t x5 x6 x7) o = .nx (E18 ds0 g w (acc ++ pl g w t ds) t' y5 y6 y7) o
  | [], t, acc, x5, x6, x7, _, _ => ⟨t, x5, x6, x7, by rw [pl, List.append_nil]; rfl⟩
  | d :: ds, t, acc, x5, x6, x7, hd, hl => by
    rw [List.length_cons] at hl
    have hm : mny d ≤ 10 := by have := hd d (by simp); unfold mny; split <;> omega
    obtain ⟨t', y5, y6, y7, e2⟩ := out18 j ds0 g w hg hg1 o ds (t + ((mny d : Int) - 1) * g + w) (acc ++ run t g (mny d)) (.val (.int (d : Int))) (.val (.int (mny d : Int))) x7 (fun x hx => hd x (by simp [hx])) (by rw [List.length_append, run_len]; omega)
    refine ⟨t', y5, y6, y7, ?_⟩
    rw [pl, ← List.append_assoc]
    refine forM_step ?_ e2
    have ec : evE (C j) (.comp (.slot 7) (.bi .range [(.var 6)]) (.cst (.bool true)) (.op2 .add (.var 4) (.op2 .mul (.var 7) (.var 1)))) (E18 ds0 g w acc t (.val (.int (d : Int))) (.val (.int (mny d : Int))) x7) o = .ok (LI (run t g (mny d))) o := by
      rw [show LI (run t g (mny d)) = .lst ((List.range (mny d)).map fun k : Nat => D.int (t + k * g)) by rw [LI, run, List.map_map]; rfl]
      exact ev_comp (ev_rangeN (ev_var rfl) (by rw [cap_v']; omega)) fun k hk => ev_op2 (ev_var rfl) (ev_op2 (ev_var rfl) (ev_var rfl) (mulB hg hg1)) (op2_add_int _ _)
    have ea : op2 .add (LI acc) (LI (run t g (mny d))) = some (LI (acc ++ run t g (mny d))) := by
      rw [LI, LI, op2_add_lst (by rw [List.length_map, List.length_map, run_len, cap_v']; omega), ← List.map_append]; rfl
    exact stp (st_set (many_ok rfl)) (stp (st_set (ev_op2 (ev_var rfl) ec ea)) (stp (st_set (ev_op2 (ev_op2 (ev_var rfl) (ev_op2 (ev_op2 (ev_var rfl) ev_cst (op2_sub_int _ _)) (ev_var rfl) (mulB hg hg1)) (op2_add_int _ _)) (ev_var rfl) (op2_add_int _ _))) (evSs_nil' _ _ _)))
theorem s18T (j : Nat) (ds : List Nat) (hd : ∀ d ∈ ds, d ≤ 9) (hl : ds.length ≤ 900) (g w : Int) (hg : 0 ≤ g) (hg1 : g ≤ 1000) (o : Or) : C (j + 1) 18 [.tup (mL ds), .int g, .int w] o = .ok (TI (pl g w 0 ds)) o := by
  obtain ⟨t', y5, y6, y7, e⟩ := out18 j ds g w hg hg1 o ds 0 [] .un .un .un hd (by simp only [List.length_nil]; omega)
  exact call_rt rfl (stp (st_par (evs_cons (ev_lst evs_nil) (evs_cons ev_cst evs_nil)) rfl) (stp (st_forT (ev_var rfl) e) (stR (st_ret (ev_bi1 (ev_var rfl) (bi_tuple_lst _))))))
theorem s18L (j : Nat) (ds : List Nat) (hd : ∀ d ∈ ds, d ≤ 9) (hl : ds.length ≤ 900) (g w : Int) (hg : 0 ≤ g) (hg1 : g ≤ 1000) (o : Or) : C (j + 1) 18 [.lst (mL ds), .int g, .int w] o = .ok (TI (pl g w 0 ds)) o := by
  have L : ∀ (ds' : List Nat) (t : Int) (acc : List Int) (x5 x6 x7 : Sl), (∀ d ∈ ds', d ≤ 9) → acc.length + 10 * ds'.length ≤ 10000 → ∃ t' y5 y6 y7, forM (fun x ρ o => evSs (C j) b18 (setS ρ 5 (.val x)) o) (mL ds') ([.val (.lst (mL ds)), .val (.int g), .val (.int w), .val (LI acc), .val (.int t), x5, x6, x7]) o = .nx ([.val (.lst (mL ds)), .val (.int g), .val (.int w), .val (LI (acc ++ pl g w t ds')), .val (.int t'), y5, y6, y7]) o := by
    intro ds'
    induction ds' with
    | nil => exact fun t acc x5 x6 x7 _ _ => ⟨t, x5, x6, x7, by rw [pl, List.append_nil]; rfl⟩
    | cons d ds' ih =>
      intro t acc x5 x6 x7 hd hl
      rw [List.length_cons] at hl
      have hm : mny d ≤ 10 := by have := hd d (by simp); unfold mny; split <;> omega
      obtain ⟨t', y5, y6, y7, e2⟩ := ih (t + ((mny d : Int) - 1) * g + w) (acc ++ run t g (mny d)) (.val (.int (d : Int))) (.val (.int (mny d : Int))) x7 (fun x hx => hd x (by simp [hx])) (by rw [List.length_append, run_len]; omega)
      refine ⟨t', y5, y6, y7, ?_⟩
      rw [pl, ← List.append_assoc]
      refine forM_step ?_ e2
      have ec : evE (C j) (.comp (.slot 7) (.bi .range [(.var 6)]) (.cst (.bool true)) (.op2 .add (.var 4) (.op2 .mul (.var 7) (.var 1)))) [.val (.lst (mL ds)), .val (.int g), .val (.int w), .val (LI acc), .val (.int t), .val (.int (d : Int)), .val (.int (mny d : Int)), x7] o = .ok (LI (run t g (mny d))) o := by
        rw [show LI (run t g (mny d)) = .lst ((List.range (mny d)).map fun k : Nat => D.int (t + k * g)) by rw [LI, run, List.map_map]; rfl]
        exact ev_comp (ev_rangeN (ev_var rfl) (by rw [cap_v']; omega)) fun k hk => ev_op2 (ev_var rfl) (ev_op2 (ev_var rfl) (ev_var rfl) (mulB hg hg1)) (op2_add_int _ _)
      have ea : op2 .add (LI acc) (LI (run t g (mny d))) = some (LI (acc ++ run t g (mny d))) := by
        rw [LI, LI, op2_add_lst (by rw [List.length_map, List.length_map, run_len, cap_v']; omega), ← List.map_append]; rfl
      exact stp (st_set (many_ok rfl)) (stp (st_set (ev_op2 (ev_var rfl) ec ea)) (stp (st_set (ev_op2 (ev_op2 (ev_var rfl) (ev_op2 (ev_op2 (ev_var rfl) ev_cst (op2_sub_int _ _)) (ev_var rfl) (mulB hg hg1)) (op2_add_int _ _)) (ev_var rfl) (op2_add_int _ _))) (evSs_nil' _ _ _)))
  obtain ⟨t', y5, y6, y7, e⟩ := L ds 0 [] .un .un .un hd (by simp only [List.length_nil]; omega)
  exact call_rt rfl (stp (st_par (evs_cons (ev_lst evs_nil) (evs_cons ev_cst evs_nil)) rfl) (stp (st_forI (ev_var rfl) e) (stR (st_ret (ev_bi1 (ev_var rfl) (bi_tuple_lst _))))))
/-! count_pulses -/
theorem s12 (j : Nat) (ds : List Nat) (o : Or) : C (j + 1) 12 [.tup (mL ds)] o = .ok (.int (nI (ds.map mny)).sum) o := by
  have ec := ev_compAm (C := C j) (ρ := [.val (.tup (mL ds)), .un]) (o := o) (i := 1) (s := .var 0) (e := .ite (.op2 .gt (.var 1) (.cst (.int 0))) (.var 1) (.cst (.int 10))) (ks := ds) (g0 := fun n : Nat => .int (n : Int)) (f := fun n => .int (mny n : Int)) (seq_tup (ev_var rfl)) (fun d _ => by
    by_cases h0 : d = 0
    · subst h0
      exact ev_iteF (ev_op2 (ev_var rfl) ev_cst (op2_gt_int _ _)) ev_cst
    · rw [mny, if_neg h0]
      exact ev_iteT (ev_op2 (ev_var rfl) ev_cst (by rw [op2_gt_int, decide_eq_true (by omega)])) (ev_var rfl))
  have e2 : ds.map (fun n => D.int (mny n : Int)) = (nI (ds.map mny)).map D.int := by rw [nI, List.map_map, List.map_map]; rfl
  rw [e2] at ec
  exact call_rt rfl (stR (st_ret (ev_bi1 ec (bi_sum_lst _))))
end Lk51

end
/-! text: k51_M2.lean -/
section
set_option autoImplicit false
set_option maxRecDepth 100000
namespace Lk51
open BV
/-! groups -/
def gr (l : Int) : List Nat → Nat → Int → List Int → List Nat
  | acc, c, _, [] => acc ++ [c]
  | acc, c, p, x :: r => if x - p < l then gr l acc (c + 1) x r else gr l (acc ++ [c]) 1 x r
def grp (l : Int) : List Int → List Nat
  | [] => []
  | x :: r => gr l [] 1 x r
theorem TI_ix {ts : List Int} {k : Nat} {x : Int} (h : ts[k]? = some x) : op2 .ix (TI ts) (.int (k : Int)) = some (.int x) := by
  rw [TI, op2_ix_tup]
  exact atI_q (by rw [List.getElem?_map, h]; rfl)
def b5 : List IS := [.ifs (.and (.op2 .gt (.var 3) (.cst (.int 0))) (.op2 .lt (.op2 .sub (.op2 .ix (.var 0) (.var 3)) (.op2 .ix (.var 0) (.op2 .sub (.var 3) (.cst (.int 1))))) (.var 1))) [.augI 2 (.op1 .neg (.cst (.int 1))) .add (.cst (.int 1))] [.app 2 (.cst (.int 1))]]
def E5 (ts : List Int) (l : Int) (found : List Nat) (x3 : Sl) : Env := [.val (TI ts), .val (.int l), .own (.lst (mL found)), x3]
theorem mL_snoc (l : List Nat) (n : Nat) : mL (l ++ [n]) = mL l ++ [.int (n : Int)] := by rw [mL, List.map_append]; rfl
theorem step5 (j : Nat) (ts : List Int) (l : Int) (acc : List Nat) (c k : Nat) (p x : Int) (h1 : ts[k]? = some p) (h2 : ts[k + 1]? = some x) (hl : acc.length ≤ 100000) (x3 : Sl) (o : Or) :
    evSs (C j) b5 (setS (E5 ts l (acc ++ [c]) x3) 3 (.val (.int ((k + 1 : Nat) : Int)))) o = .nx (E5 ts l (if x - p < l then acc ++ [c + 1] else acc ++ [c] ++ [1]) (.val (.int ((k + 1 : Nat) : Int)))) o := by
  have e1 : op2 .sub (.int ((k + 1 : Nat) : Int)) (.int 1) = some (.int (k : Int)) := by rw [op2_sub_int]; congr 2; omega
  have ec : ∀ x2, evE (C j) (.and (.op2 .gt (.var 3) (.cst (.int 0))) (.op2 .lt (.op2 .sub (.op2 .ix (.var 0) (.var 3)) (.op2 .ix (.var 0) (.op2 .sub (.var 3) (.cst (.int 1))))) (.var 1))) [.val (TI ts), .val (.int l), x2, .val (.int ((k + 1 : Nat) : Int))] o = .ok (.bool (decide (x - p < l))) o := fun x2 =>
    ev_andT (ev_op2 (ev_var rfl) ev_cst (by rw [op2_gt_int, decide_eq_true (by omega)])) (ev_op2 (ev_op2 (ev_op2 (ev_var rfl) (ev_var rfl) (TI_ix h2)) (ev_op2 (ev_var rfl) (ev_op2 (ev_var rfl) ev_cst e1) (TI_ix h1)) (op2_sub_int _ _)) (ev_var rfl) (op2_lt_int _ _))
  by_cases h : x - p < l
  · rw [if_pos h]
    have ec' := ec (.own (.lst (mL (acc ++ [c]))))
    rw [decide_eq_true h] at ec'
    have hlen : (mL (acc ++ [c])).length = acc.length + 1 := by simp [mL]
    have hj : ixN (mL (acc ++ [c])).length (-1) = some acc.length := by
      rw [hlen, ixN, if_neg (by omega), if_pos (by omega)]; congr 1; omega
    have hx : atI (mL (acc ++ [c])) (-1) = some (.int (c : Int)) := last_ix (by rw [mL_snoc]; simp)
    refine stp (ifT ec' (stp (st_augI (xs := mL (acc ++ [c])) (z := .int ((c + 1 : Nat) : Int)) rfl (ev_op1 ev_cst (op1m 1)) hj hx rfl ev_cst (addN c 1)) (evSs_nil' _ _ _))) ?_
    rw [evSs_nil']
    have : (mL (acc ++ [c])).set acc.length (.int ((c + 1 : Nat) : Int)) = mL (acc ++ [c + 1]) := by
      rw [mL_snoc, mL_snoc, List.set_append_right _ _ (by simp [mL])]
      simp [mL]
    rw [this]; rfl
  · rw [if_neg h]
    have ec' := ec (.own (.lst (mL (acc ++ [c]))))
    rw [decide_eq_false h] at ec'
    refine stp (ifF ec' (stp (st_app (xs := mL (acc ++ [c])) rfl ev_cst (by simp [mL, cap_v']; omega)) (evSs_nil' _ _ _))) ?_
    rw [evSs_nil', show mL (acc ++ [c]) ++ [D.int 1] = mL (acc ++ [c] ++ [1]) from (mL_snoc (acc ++ [c]) 1).symm]
    rfl
theorem gr_len (l : Int) : ∀ (r : List Int) (acc : List Nat) (c : Nat) (p : Int), (gr l acc c p r).length ≤ acc.length + 1 + r.length
  | [], acc, c, p => by simp [gr]
  | x :: r, acc, c, p => by
    rw [gr]
    split
    · have := gr_len l r acc (c + 1) x; simp only [List.length_cons]; omega
    · have := gr_len l r (acc ++ [c]) 1 x; simp only [List.length_cons, List.length_append, List.length_nil] at *; omega
theorem grp_len (l : Int) (ts : List Int) : (grp l ts).length ≤ ts.length := by
  cases ts with
  | nil => simp [grp]
  | cons x r => have := gr_len l r [] 1 x; simp [grp] at *; omega
theorem s5 (j : Nat) (ts : List Int) (ht : ts.length ≤ 1000) (l : Int) (o : Or) : C (j + 1) 5 [TI ts, .int l] o = .ok (.tup (mL (grp l ts))) o := by
  have L := forM_RI (n := ts.length) (f := fun x ρ o => evSs (C j) b5 (setS ρ 3 (.val x)) o) (I := fun k ρ o' => o' = o ∧ ((k = 0 ∧ ∃ x3, ρ = E5 ts l [] x3) ∨ ∃ k' acc c p x3, k = k' + 1 ∧ ts[k']? = some p ∧ acc.length ≤ k' ∧ gr l acc c p (ts.drop k) = grp l ts ∧ ρ = E5 ts l (acc ++ [c]) x3)) (ρ := E5 ts l [] .un) (o := o)
    (fun k hk ρ o' ⟨ho, h⟩ => by
      subst ho
      rcases h with ⟨rfl, x3, rfl⟩ | ⟨k', acc, c, p, x3, rfl, hp, hal, hg, rfl⟩
      · refine ⟨_, _, .inl (stp (ifF (ev_andF (ev_op2 (ev_var rfl) ev_cst rfl)) (stp (st_app (xs := []) rfl ev_cst (by decide)) (evSs_nil' _ _ _))) (evSs_nil' _ _ _)), rfl, .inr ⟨0, [], 1, ts[0], .val (.int 0), rfl, List.getElem?_eq_getElem hk, by simp, ?_, rfl⟩⟩
        cases ts with
        | nil => cases hk
        | cons x r => rfl
      · have hx : ts[k' + 1]? = some ts[k' + 1] := List.getElem?_eq_getElem hk
        have e := step5 j ts l acc c k' p ts[k' + 1] hp hx (by omega) x3 o'
        have hd : ts.drop (k' + 1) = ts[k' + 1] :: ts.drop (k' + 1 + 1) := List.drop_eq_getElem_cons hk
        rw [hd, gr] at hg
        refine ⟨_, _, .inl e, rfl, .inr ?_⟩
        by_cases h : ts[k' + 1] - p < l
        · rw [if_pos h] at hg
          refine ⟨k' + 1, acc, c + 1, ts[k' + 1], _, rfl, hx, by omega, hg, by rw [if_pos h]⟩
        · rw [if_neg h] at hg
          refine ⟨k' + 1, acc ++ [c], 1, ts[k' + 1], _, rfl, hx, by simp; omega, hg, by rw [if_neg h]⟩) ⟨rfl, .inl ⟨rfl, .un, rfl⟩⟩
  obtain ⟨ρ', o', e, ho, h⟩ := L
  subst ho
  have er : evE (C j) (.bi .range [(.bi .len [(.var 0)])]) (E5 ts l [] .un) o' = .ok (.lst (RI ts.length)) o' := ev_rangeN (ev_bi1 (ev_var rfl) (bi_len_TI ts)) (by rw [cap_v']; omega)
  rcases h with ⟨h0, x3, rfl⟩ | ⟨k', acc, c, p, x3, hk, hp, hal, hg, rfl⟩
  · have : ts = [] := List.length_eq_zero_iff.mp h0
    subst this
    exact call_rt rfl (stp (st_setO (ev_lst evs_nil)) (stp (st_forI er e) (stR (st_ret (ev_bi1 (ev_pkO rfl) (bi_tuple_lst _))))))
  · rw [List.drop_eq_nil_of_le (Nat.le_refl _), gr] at hg
    rw [← hg]
    exact call_rt rfl (stp (st_setO (ev_lst evs_nil)) (stp (st_forI er e) (stR (st_ret (ev_bi1 (ev_pkO rfl) (bi_tuple_lst _))))))
/-! _law_groups -/
def dif : List Nat → List Nat
  | a :: b :: r => (b - a) :: dif (b :: r)
  | _ => []
def mkP (ts : List Int) (l : Int) (k : Nat) : Bool := decide (k = 0) || decide (l ≤ ts.getD k 0 - ts.getD (k - 1) 0)
theorem dif_gr (ts : List Int) (l : Int) : ∀ (r : List Int) (k : Nat) (acc : List Nat) (c : Nat) (p : Int), 1 ≤ k → k ≤ ts.length → ts.drop k = r → ts.getD (k - 1) 0 = p → 1 ≤ c → c ≤ k → gr l acc c p r = acc ++ dif ((k - c) :: ((List.range' k (ts.length - k)).filter (mkP ts l) ++ [ts.length]))
  | [], k, acc, c, p, hk, hkl, hd, hp, hc, hck => by
    have hle : ts.length ≤ k := List.drop_eq_nil_iff.mp hd
    obtain rfl : k = ts.length := by omega
    rw [Nat.sub_self, gr]
    show _ = acc ++ dif [ts.length - c, ts.length]
    rw [dif, show ts.length - (ts.length - c) = c by omega]
    rfl
  | x :: r, k, acc, c, p, hk, hkl, hd, hp, hc, hck => by
    have hlt : k < ts.length := by
      rcases Nat.lt_or_ge k ts.length with h | h
      · exact h
      · rw [List.drop_eq_nil_of_le h] at hd; cases hd
    rw [List.drop_eq_getElem_cons hlt] at hd
    obtain ⟨hx, hr⟩ := List.cons.inj hd
    have hgx : ts.getD k 0 = x := by rw [List.getD_eq_getElem?_getD, List.getElem?_eq_getElem hlt, ← hx]; rfl
    obtain ⟨m, hm⟩ : ∃ m, ts.length - k = m + 1 := ⟨ts.length - k - 1, by omega⟩
    rw [hm, List.range'_succ, List.filter_cons, gr]
    have hm' : ts.length - (k + 1) = m := by omega
    have hP : mkP ts l k = decide (l ≤ x - p) := by
      rw [mkP, hgx, hp, decide_eq_false (by omega), Bool.false_or]
    rw [hP]
    by_cases h : x - p < l
    · rw [if_pos h, decide_eq_false (by omega), if_neg Bool.false_ne_true]
      have ih := dif_gr ts l r (k + 1) acc (c + 1) x (by omega) (by omega) hr (by rw [Nat.add_sub_cancel]; exact hgx) (by omega) (by omega)
      rw [ih, hm', show k + 1 - (c + 1) = k - c by omega]
    · rw [if_neg h, decide_eq_true (by omega), if_pos rfl]
      have ih := dif_gr ts l r (k + 1) (acc ++ [c]) 1 x (by omega) (by omega) hr (by rw [Nat.add_sub_cancel]; exact hgx) (by omega) (by omega)
      rw [ih, hm', List.append_assoc, Nat.add_sub_cancel]
      congr 1
      rw [List.cons_append, List.cons_append, List.nil_append]
      show _ = dif ((k - c) :: k :: _)
      rw [dif, show k - (k - c) = c by omega]
theorem grp_dif (ts : List Int) (l : Int) : grp l ts = dif ((List.range ts.length).filter (mkP ts l) ++ [ts.length]) := by
  cases hts : ts with
  | nil => rfl
  | cons x r =>
    rw [← hts]
    have hl : ts.length = r.length + 1 := by rw [hts]; rfl
    have h := dif_gr ts l r 1 [] 1 x (by omega) (by omega) (by rw [hts]; rfl) (by rw [hts]; rfl) (by omega) (by omega)
    have hg : grp l ts = gr l [] 1 x r := by rw [hts]; rfl
    rw [hg, h, List.nil_append, List.range_eq_range', hl, List.range'_succ, List.filter_cons]
    have h0 : mkP ts l 0 = true := rfl
    rw [h0, if_pos rfl]
    rfl
theorem dif_len : ∀ l : List Nat, (dif l).length = l.length - 1
  | [] => rfl
  | [_] => rfl
  | a :: b :: r => by rw [dif, List.length_cons, dif_len (b :: r)]; simp
theorem dif_idx : ∀ (l : List Nat), (List.range (l.length - 1)).map (fun k => l.getD (k + 1) 0 - l.getD k 0) = dif l
  | [] => rfl
  | [_] => rfl
  | a :: b :: r => by
    have ih := dif_idx (b :: r)
    rw [dif, ← ih]
    rw [show (a :: b :: r).length - 1 = ((b :: r).length - 1) + 1 by simp, List.range_succ_eq_map, List.map_cons, List.map_map]
    rfl
theorem s19 (j : Nat) (ts : List Int) (ht : ts.length ≤ 1000) (l : Int) (o : Or) : C (j + 1) 19 [TI ts, .int l] o = .ok (.tup (mL (grp l ts))) o := by
  have hl : ∀ ρ : Env, getS ρ 0 = .val (TI ts) → evE (C j) (.bi .len [(.var 0)]) ρ o = .ok (.int (ts.length : Int)) o := fun ρ h => ev_bi1 (ev_var h) (bi_len_TI ts)
  have gix : ∀ k, k < ts.length → ts[k]? = some (ts.getD k 0) := fun k hk => by rw [List.getD_eq_getElem?_getD, List.getElem?_eq_getElem hk]; rfl
  have e1 := ev_compF (C := C j) (ρ := [.val (TI ts), .val (.int l), .un, .un]) (o := o) (o1 := o) (i := 3) (n := ts.length) (s := (.bi .range [(.bi .len [(.var 0)])])) (c := (.or (.op2 .eq (.var 3) (.cst (.int 0))) (.op2 .ge (.op2 .sub (.op2 .ix (.var 0) (.var 3)) (.op2 .ix (.var 0) (.op2 .sub (.var 3) (.cst (.int 1))))) (.var 1)))) (e := .var 3) (g := fun k : Nat => .int (k : Int)) (p := mkP ts l) (ev_rangeN (hl _ rfl) (by rw [cap_v']; omega)) (fun k hk => by
    by_cases h : k = 0
    · subst h
      exact ev_orT (ev_op2 (ev_var rfl) ev_cst rfl)
    · have e0 : evE (C j) (.op2 .eq (.var 3) (.cst (.int 0))) (setS [.val (TI ts), .val (.int l), .un, .un] 3 (.val (.int (k : Int)))) o = .ok (.bool false) o := ev_op2 (ev_var rfl) ev_cst (by rw [op2_eq_int, decide_eq_false (by omega)])
      have e1 : op2 .sub (.int (k : Int)) (.int 1) = some (.int ((k - 1 : Nat) : Int)) := by rw [op2_sub_int]; congr 2; omega
      rw [mkP, decide_eq_false h, Bool.false_or]
      exact ev_orB (q := false) e0 (ev_op2 (ev_op2 (ev_op2 (ev_var rfl) (ev_var rfl) (TI_ix (gix k hk))) (ev_op2 (ev_var rfl) (ev_op2 (ev_var rfl) ev_cst e1) (TI_ix (gix (k - 1) (by omega)))) (op2_sub_int _ _)) (ev_var rfl) (op2_ge_int _ _))) (fun k hk _ => ev_var rfl)
  have ea : op2 .add (.lst (((List.range ts.length).filter (mkP ts l)).map fun k : Nat => .int (k : Int))) (.lst [.int (ts.length : Int)]) = some (.lst (mL ((List.range ts.length).filter (mkP ts l) ++ [ts.length]))) := by
    have := List.length_filter_le (mkP ts l) (List.range ts.length)
    rw [List.length_range] at this
    rw [op2_add_lst (by rw [List.length_map, cap_v']; simp only [List.length_cons, List.length_nil]; omega), mL_snoc]; rfl
  have hM : ∀ k, k < ((List.range ts.length).filter (mkP ts l) ++ [ts.length]).length - 1 → ((List.range ts.length).filter (mkP ts l) ++ [ts.length]).getD k 0 < ts.length := fun k hk => by
    rw [List.length_append, List.length_singleton, Nat.add_sub_cancel] at hk
    rw [List.getD_eq_getElem?_getD, List.getElem?_append_left hk, List.getElem?_eq_getElem hk]
    have hm := List.mem_filter.mp (List.getElem_mem hk)
    exact List.mem_range.mp hm.1
  have hup : ∀ k, k < ((List.range ts.length).filter (mkP ts l) ++ [ts.length]).length - 1 → ((List.range ts.length).filter (mkP ts l) ++ [ts.length]).getD k 0 ≤ ((List.range ts.length).filter (mkP ts l) ++ [ts.length]).getD (k + 1) 0 := fun k hk => by
    have hp : ((List.range ts.length).filter (mkP ts l) ++ [ts.length]).Pairwise (· < ·) := by
      refine List.pairwise_append.mpr ⟨List.Pairwise.filter _ List.pairwise_lt_range, List.pairwise_singleton _ _, fun a ha b hb => ?_⟩
      rw [List.mem_singleton] at hb
      have := List.mem_range.mp (List.mem_filter.mp ha).1
      omega
    rw [List.getD_eq_getElem?_getD, List.getD_eq_getElem?_getD, List.getElem?_eq_getElem (by omega), List.getElem?_eq_getElem (by omega)]
    exact Nat.le_of_lt (List.pairwise_iff_getElem.mp hp k (k + 1) (by omega) (by omega) (by omega))
  have hMl : ((List.range ts.length).filter (mkP ts l) ++ [ts.length]).length ≤ 1001 := by
    have := List.length_filter_le (mkP ts l) (List.range ts.length)
    rw [List.length_range] at this
    rw [List.length_append, List.length_singleton]; omega
  have hM1 : 1 ≤ ((List.range ts.length).filter (mkP ts l) ++ [ts.length]).length := by rw [List.length_append, List.length_singleton]; omega
  rw [grp_dif]
  generalize (List.range ts.length).filter (mkP ts l) ++ [ts.length] = M at *
  have mix : ∀ k, k < M.length → op2 .ix (.lst (mL M)) (.int (k : Int)) = some (.int ((M.getD k 0 : Nat) : Int)) := fun k hk => by
    rw [op2_ix_lst]
    refine atI_q ?_
    rw [mL, List.getElem?_map, List.getD_eq_getElem?_getD, List.getElem?_eq_getElem hk]; rfl
  have e2 := ev_compF (C := C j) (ρ := [.val (TI ts), .val (.int l), .val (.lst (mL M)), .un]) (o := o) (o1 := o) (i := 3) (n := M.length - 1) (s := (.bi .range [(.op2 .sub (.bi .len [(.var 2)]) (.cst (.int 1)))])) (c := (.op2 .lt (.op2 .ix (.var 2) (.var 3)) (.bi .len [(.var 0)]))) (e := (.op2 .sub (.op2 .ix (.var 2) (.op2 .add (.var 3) (.cst (.int 1)))) (.op2 .ix (.var 2) (.var 3)))) (g := fun k : Nat => .int ((M.getD (k + 1) 0 - M.getD k 0 : Nat) : Int)) (p := fun _ => true) (ev_rangeN (ev_op2 (ev_bi1 (ev_var rfl) (by rw [bi_len_lst, mL, List.length_map])) ev_cst (subN hM1)) (by rw [cap_v']; omega)) (fun k hk => by
    refine ev_op2 (ev_op2 (ev_var rfl) (ev_var rfl) (mix k (by omega))) (hl _ rfl) ?_
    rw [ltN, decide_eq_true (hM k hk)]) (fun k hk _ => by
    refine ev_op2 (ev_op2 (ev_var rfl) (ev_op2 (ev_var rfl) ev_cst (addN k 1)) (mix (k + 1) (by omega))) (ev_op2 (ev_var rfl) (ev_var rfl) (mix k (by omega))) ?_
    exact subN (hup k hk))
  have hd : (((List.range (M.length - 1)).filter fun _ => true).map fun k : Nat => D.int ((M.getD (k + 1) 0 - M.getD k 0 : Nat) : Int)) = mL (dif M) := by
    rw [← dif_idx, mL, List.map_map, List.filter_eq_self.mpr (fun _ _ => rfl)]; rfl
  rw [hd] at e2
  exact call_rt rfl (stp (st_set (ev_op2 e1 (ev_lst (evs_cons (hl _ rfl) evs_nil)) ea)) (stR (st_ret (ev_bi1 e2 (bi_tuple_lst _)))))
end Lk51

end
/-! text: k51_M3.lean -/
section
set_option autoImplicit false
set_option maxRecDepth 100000
namespace Lk51
open BV
/-! figures -/
def figs (gs : List Nat) : Option (List Nat) := if gs.any (fun g => decide (10 < g)) then none else some (gs.map (· % 10))
def fD : Option (List Nat) → D
  | none => .non
  | some l => .tup (mL l)
theorem fD_len (gs : List Nat) : ∀ l, figs gs = some l → l.length = gs.length := fun l h => by
  unfold figs at h
  split at h
  · cases h
  · cases h; simp
theorem big_ok {C : Nat → List D → Or → R D} {ρ : Env} {o : Or} {i : Nat} {g : Nat} (h : getS ρ i = .val (.int (g : Int))) : evE C (.op2 .gt (.var i) (.cst (.int 10))) ρ o = .ok (.bool (decide (10 < g))) o := ev_op2 (ev_var h) ev_cst (by rw [op2_gt_int]; congr 2; rw [decide_eq_decide]; omega)
theorem mod10 (g : Nat) : op2 .mod (.int (g : Int)) (.int 10) = some (.int ((g % 10 : Nat) : Int)) := by rw [op2_mod_int (by decide)]; congr 2
theorem s6 (j : Nat) (gs : List Nat) (o : Or) : C (j + 1) 6 [.tup (mL gs)] o = .ok (fD (figs gs)) o := by
  have e1 := ev_compAm (C := C j) (ρ := [.val (.tup (mL gs)), .un]) (o := o) (i := 1) (s := .var 0) (e := (.op2 .gt (.var 1) (.cst (.int 10)))) (ks := gs) (g0 := fun n : Nat => .int (n : Int)) (f := fun n => .bool (decide (10 < n))) (seq_tup (ev_var rfl)) (fun g _ => big_ok rfl)
  have e1' : gs.map (fun n => D.bool (decide (10 < n))) = (gs.map fun n => decide (10 < n)).map D.bool := by rw [List.map_map]; rfl
  rw [e1'] at e1
  have e2 := ev_compAm (C := C j) (ρ := [.val (.tup (mL gs)), .un]) (o := o) (i := 1) (s := .var 0) (e := (.op2 .mod (.var 1) (.cst (.int 10)))) (ks := gs) (g0 := fun n : Nat => .int (n : Int)) (f := fun n => .int ((n % 10 : Nat) : Int)) (seq_tup (ev_var rfl)) (fun g _ => ev_op2 (ev_var rfl) ev_cst (mod10 g))
  have e2' : gs.map (fun n => D.int ((n % 10 : Nat) : Int)) = mL (gs.map (· % 10)) := by rw [mL, List.map_map]; rfl
  rw [e2'] at e2
  have eq : (gs.map fun n => decide (10 < n)).any id = gs.any fun g => decide (10 < g) := by rw [List.any_map]; rfl
  have ea := ev_bi1 e1 (bi_any _)
  rw [eq] at ea
  unfold figs
  by_cases h : gs.any (fun g => decide (10 < g)) = true
  · rw [h] at ea
    rw [if_pos h]
    exact call_rt rfl (stR (ifT ea (stR (st_ret ev_cst))))
  · rw [Bool.not_eq_true] at h
    rw [h] at ea
    rw [if_neg (by rw [h]; exact Bool.false_ne_true)]
    exact call_rt rfl (stp (ifF ea (evSs_nil' _ _ _)) (stR (st_ret (ev_bi1 e2 (bi_tuple_lst _)))))
theorem s20 (j : Nat) (gs : List Nat) (o : Or) : C (j + 1) 20 [.tup (mL gs)] o = .ok (fD (figs gs)) o := by
  have e1 := ev_compA (C := C j) (ρ := [.val (.tup (mL gs)), .un]) (o := o) (i := 1) (s := .var 0) (c := (.op2 .gt (.var 1) (.cst (.int 10)))) (e := .var 1) (ks := gs) (g0 := fun n : Nat => .int (n : Int)) (f := fun n => .int (n : Int)) (p := fun n => decide (10 < n)) (seq_tup (ev_var rfl)) (fun g _ => big_ok rfl) (fun g _ _ => ev_var rfl)
  have e2 := ev_compAm (C := C j) (ρ := [.val (.tup (mL gs)), .un]) (o := o) (i := 1) (s := .var 0) (e := (.op2 .mod (.bi .int [(.var 1)]) (.cst (.int 10)))) (ks := gs) (g0 := fun n : Nat => .int (n : Int)) (f := fun n => .int ((n % 10 : Nat) : Int)) (seq_tup (ev_var rfl)) (fun g _ => ev_op2 (ev_bi1 (ev_var rfl) (bi_int _)) ev_cst (mod10 g))
  have e2' : gs.map (fun n => D.int ((n % 10 : Nat) : Int)) = mL (gs.map (· % 10)) := by rw [mL, List.map_map]; rfl
  rw [e2'] at e2
  have ea := ev_op2 e1 (ev_lst (C := C j) (o := o) evs_nil) (op2_ne (eqO_nilL (ok_nats 59 _)))
  have eq : ((gs.filter fun n => decide (10 < n)).map fun n : Nat => D.int (n : Int)).isEmpty = !(gs.any fun g => decide (10 < g)) := by
    rw [Bool.eq_iff_iff, List.isEmpty_iff, List.map_eq_nil_iff, List.filter_eq_nil_iff, Bool.not_eq_true', List.any_eq_false]
  rw [eq, Bool.not_not] at ea
  unfold figs
  by_cases h : gs.any (fun g => decide (10 < g)) = true
  · rw [h] at ea
    rw [if_pos h]
    exact call_rt rfl (stR (ifT ea (stR (st_ret ev_cst))))
  · rw [Bool.not_eq_true] at h
    rw [h] at ea
    rw [if_neg (by rw [h]; exact Bool.false_ne_true)]
    exact call_rt rfl (stp (ifF ea (evSs_nil' _ _ _)) (stR (st_ret (ev_bi1 e2 (bi_tuple_lst _)))))
def fg (l : Int) (ts : List Int) : Option (List Nat) := figs (grp l ts)
theorem s7 (j : Nat) (ts : List Int) (ht : ts.length ≤ 1000) (l : Int) (o : Or) : C (j + 2) 7 [TI ts, .int l] o = .ok (fD (fg l ts)) o :=
  call_rt rfl (stR (st_ret (ev_call1 (ev_call2 (ev_var rfl) (ev_var rfl) (s5 j ts ht l o)) (s6 j _ o))))
/-! gaps -/
def stepsL (ts : List Int) : List Int := (List.range (ts.length - 1)).map fun k => ts.getD (k + 1) 0 - ts.getD k 0
def gapsL (ts : List Int) : List Int := ssetL (stepsL ts)
theorem steps_len (ts : List Int) : (stepsL ts).length = ts.length - 1 := by simp [stepsL]
theorem gaps_len (ts : List Int) : (gapsL ts).length ≤ ts.length - 1 := by
  have : ∀ l : List Int, (ssetL l).length ≤ l.length := fun l => by
    induction l with
    | nil => simp [ssetL]
    | cons x l ih => have := insI_len x (ssetL l); rw [show ssetL (x :: l) = insI x (ssetL l) from rfl, List.length_cons]; omega
  have := this (stepsL ts)
  rw [steps_len] at this
  exact this
theorem ix_at {ts : List Int} {k : Nat} (h : k < ts.length) : op2 .ix (TI ts) (.int (k : Int)) = some (.int (ts.getD k 0)) := TI_ix (by rw [List.getD_eq_getElem?_getD, List.getElem?_eq_getElem h]; rfl)
/-- range(len(ts) - 1) -/
theorem rng_m1 {C : Nat → List D → Or → R D} {ρ : Env} {o : Or} {i : Nat} {ts : List Int} (h : getS ρ i = .val (TI ts)) (ht : ts.length ≤ 1000) : evE C (.bi .range [(.op2 .sub (.bi .len [(.var i)]) (.cst (.int 1)))]) ρ o = .ok (.lst (RI (ts.length - 1))) o := by
  have e := ev_rangeZ (C := C) (ρ := ρ) (o := o) (e := .op2 .sub (.bi .len [(.var i)]) (.cst (.int 1))) (n := (ts.length : Int) - 1) (ev_op2 (ev_bi1 (ev_var h) (bi_len_TI ts)) ev_cst (op2_sub_int _ _)) (by omega) (by omega)
  rw [show ((ts.length : Int) - 1).toNat = ts.length - 1 by omega] at e
  exact e
theorem gap_body (C : Nat → List D → Or → R D) (ts : List Int) (ht : ts.length ≤ 64) (o : Or) : evSs C i8 [.val (TI ts), .un] o = .rt (TI (gapsL ts)) o := by
  have e := ev_comp (C := C) (ρ := [.val (TI ts), .un]) (o := o) (i := 1) (n := ts.length - 1) (s := (.bi .range [(.op2 .sub (.bi .len [(.var 0)]) (.cst (.int 1)))])) (e := (.op2 .sub (.op2 .ix (.var 0) (.op2 .add (.var 1) (.cst (.int 1)))) (.op2 .ix (.var 0) (.var 1)))) (g := fun k : Nat => .int (ts.getD (k + 1) 0 - ts.getD k 0)) (rng_m1 rfl (by omega)) (fun k hk => ev_op2 (ev_op2 (ev_var rfl) (ev_op2 (ev_var rfl) ev_cst (addN k 1)) (ix_at (by omega))) (ev_op2 (ev_var rfl) (ev_var rfl) (ix_at (by omega))) (op2_sub_int _ _))
  have hm : (List.range (ts.length - 1)).map (fun k : Nat => D.int (ts.getD (k + 1) 0 - ts.getD k 0)) = (stepsL ts).map D.int := by rw [stepsL, List.map_map]; rfl
  rw [hm] at e
  have es : biF .sset [.lst ((stepsL ts).map D.int)] = some (LI (gapsL ts)) := by
    show ((intsO ((stepsL ts).map D.int)).bind sset1) = _
    rw [intsO_m, Option.bind_some, sset1, if_pos ⟨by rw [steps_len]; omega, by have := gaps_len ts; unfold gapsL at this; rcases Nat.eq_zero_or_pos ts.length with h | h <;> omega⟩]
    rfl
  exact stR (st_ret (ev_bi1 (ev_bi1 e es) (bi_tuple_lst _)))
theorem s8 (j : Nat) (ts : List Int) (ht : ts.length ≤ 64) (o : Or) : C (j + 1) 8 [TI ts] o = .ok (TI (gapsL ts)) o := call_rt rfl (gap_body _ ts ht o)
theorem s21 (j : Nat) (ts : List Int) (ht : ts.length ≤ 64) (o : Or) : C (j + 1) 21 [TI ts] o = .ok (TI (gapsL ts)) o := call_rt rfl (gap_body _ ts ht o)
/-! reading pulses back -/
theorem gr_run (l g : Int) (hg : g < l) : ∀ (m : Nat) (acc : List Nat) (c : Nat) (p : Int) (r : List Int), gr l acc c p ((List.range m).map (fun k : Nat => p + ((k : Int) + 1) * g) ++ r) = gr l acc (c + m) (p + m * g) r
  | 0, acc, c, p, r => by simp
  | m + 1, acc, c, p, r => by
    rw [List.range_succ_eq_map, List.map_cons, List.map_map, List.cons_append, gr, if_pos (by simp; omega)]
    have ih := gr_run l g hg m acc (c + 1) (p + g) r
    have e1 : (List.range m).map ((fun k : Nat => p + ((k : Int) + 1) * g) ∘ Nat.succ) = (List.range m).map fun k : Nat => p + g + ((k : Int) + 1) * g := List.map_congr_left fun k _ => by
      simp only [Function.comp]
      rw [show ((Nat.succ k : Nat) : Int) + 1 = ((k : Int) + 1) + 1 by omega, Int.add_mul ((k : Int) + 1) 1 g]; omega
    have e2 : p + (((0 : Nat) : Int) + 1) * g = p + g := by simp
    have e3 : p + ((m + 1 : Nat) : Int) * g = p + g + (m : Int) * g := by rw [show ((m + 1 : Nat) : Int) = (m : Int) + 1 by omega, Int.add_mul]; omega
    rw [e1, e2, ih, e3, show c + 1 + m = c + (m + 1) by omega]
theorem run_cons (t g : Int) (m : Nat) : run t g (m + 1) = t :: (List.range m).map fun k : Nat => t + ((k : Int) + 1) * g := by
  rw [run, List.range_succ_eq_map, List.map_cons, List.map_map]
  rw [show t + (((0 : Nat) : Int)) * g = t by simp]
  rfl
theorem gr_pl (l g w : Int) (hg : g < l) (hw : l ≤ w) : ∀ (ds : List Nat) (acc : List Nat) (c : Nat) (p : Int), gr l acc c p (pl g w (p + w) ds) = acc ++ [c] ++ ds.map mny
  | [], acc, c, p => by simp [pl, gr]
  | d :: ds, acc, c, p => by
    obtain ⟨m, hm⟩ : ∃ m, mny d = m + 1 := ⟨mny d - 1, by have := mny_pos d; omega⟩
    rw [pl, hm, run_cons, List.cons_append, gr, if_neg (by omega), gr_run l g hg]
    have e : p + w + (((m + 1 : Nat) : Int) - 1) * g + w = p + w + (m : Int) * g + w := by rw [show ((m + 1 : Nat) : Int) - 1 = (m : Int) by omega]
    rw [e, gr_pl l g w hg hw ds, List.map_cons, hm, show 1 + m = m + 1 by omega]
    simp
theorem grp_pl (l g w : Int) (hg : g < l) (hw : l ≤ w) (ds : List Nat) : grp l (pl g w 0 ds) = ds.map mny := by
  cases ds with
  | nil => rfl
  | cons d ds =>
    obtain ⟨m, hm⟩ : ∃ m, mny d = m + 1 := ⟨mny d - 1, by have := mny_pos d; omega⟩
    rw [pl, hm, run_cons, List.cons_append, grp, gr_run l g hg]
    have e : (0 : Int) + (((m + 1 : Nat) : Int) - 1) * g + w = 0 + (m : Int) * g + w := by rw [show ((m + 1 : Nat) : Int) - 1 = (m : Int) by omega]
    rw [e, gr_pl l g w hg hw ds, List.map_cons, hm, show 1 + m = m + 1 by omega]
    rfl
theorem fg_pl (l g w : Int) (hg : g < l) (hw : l ≤ w) (ds : List Nat) (hd : ∀ d ∈ ds, d ≤ 9) : fg l (pl g w 0 ds) = some ds := by
  rw [fg, grp_pl l g w hg hw, figs]
  have h1 : ((ds.map mny).any fun g => decide (10 < g)) = false := by
    rw [List.any_eq_false]
    intro x hx
    obtain ⟨d, h, rfl⟩ := List.mem_map.mp hx
    have := hd d h
    unfold mny
    split <;> simp <;> omega
  rw [h1, if_neg Bool.false_ne_true, List.map_map]
  congr 1
  refine (List.map_congr_left (g := id) fun d h => ?_).trans (List.map_id _)
  have := hd d h
  simp only [Function.comp, mny, id]
  split <;> omega
end Lk51

end
/-! text: k51_M4.lean -/
section
set_option autoImplicit false
set_option maxRecDepth 100000
namespace Lk51
open BV
theorem least_ge (x : Int) : ∀ l : List Int, (∃ m ∈ l, x ≤ m) → ∃ m ∈ l, x ≤ m ∧ ∀ g ∈ l, x ≤ g → m ≤ g
  | [], ⟨m, h, _⟩ => nomatch h
  | a :: l, ⟨m, hm, hx⟩ => by
    by_cases h : ∃ m ∈ l, x ≤ m
    · obtain ⟨m', h1, h2, h3⟩ := least_ge x l h
      by_cases ha : x ≤ a ∧ a ≤ m'
      · exact ⟨a, List.mem_cons_self, ha.1, fun g hg hxg => by
          rcases List.mem_cons.mp hg with rfl | hg
          · omega
          · have := h3 g hg hxg; omega⟩
      · exact ⟨m', List.mem_cons_of_mem _ h1, h2, fun g hg hxg => by
          rcases List.mem_cons.mp hg with rfl | hg
          · omega
          · exact h3 g hg hxg⟩
    · rcases List.mem_cons.mp hm with rfl | hm
      · exact ⟨m, List.mem_cons_self, hx, fun g hg hxg => by
          rcases List.mem_cons.mp hg with rfl | hg
          · omega
          · exact absurd ⟨g, hg, hxg⟩ h⟩
      · exact absurd ⟨m, hm, hx⟩ h
def firstV (G : List Int) (a : Int) : Int := match (G.filter fun g => decide (g < a)).getLast? with
  | none => 1
  | some g => g + 1
def lastC (G : List Int) (z : Int) : Bool := match G.getLast? with
  | none => true
  | some g => decide (g < z)
def mkG (G : List Int) : List Int := match G.getLast? with
  | none => [1]
  | some g => G ++ [g + 1]
def mxM (G : List Int) : Int := match G.getLast? with
  | none => 1
  | some g => g + 1
theorem last_max {G : List Int} (hG : G.Pairwise (· < ·)) {z : Int} (h : G.getLast? = some z) : z ∈ G ∧ ∀ g ∈ G, g ≤ z := by
  obtain ⟨ys, rfl⟩ := List.getLast?_eq_some_iff.mp h
  refine ⟨by simp, fun g hg => ?_⟩
  rcases List.mem_append.mp hg with hg | hg
  · have := (List.pairwise_append.mp hG).2.2 g hg z (by simp); omega
  · simp at hg; omega
theorem mkG_ok {G : List Int} (hG : G.Pairwise (· < ·)) (hp : ∀ g ∈ G, 1 ≤ g) : (mkG G).Pairwise (· < ·) ∧ mxM G ∈ mkG G ∧ (∀ g ∈ mkG G, 1 ≤ g ∧ g ≤ mxM G) ∧ (∀ g ∈ G, g ∈ mkG G ∧ g < mxM G) ∧ (∀ g ∈ mkG G, g ∈ G ∨ g = mxM G) := by
  unfold mkG mxM
  cases h : G.getLast? with
  | none =>
    have : G = [] := List.getLast?_eq_none_iff.mp h
    subst this
    simp
  | some g =>
    obtain ⟨h1, h2⟩ := last_max hG h
    simp only
    refine ⟨List.pairwise_append.mpr ⟨hG, List.pairwise_singleton _ _, fun a ha b hb => ?_⟩, by simp, fun x hx => ?_, fun x hx => ?_, fun x hx => ?_⟩
    · simp at hb; have := h2 a ha; omega
    · rcases List.mem_append.mp hx with hx | hx
      · have := h2 x hx; have := hp x hx; omega
      · simp at hx; have := hp g h1; omega
    · have := h2 x hx; exact ⟨by simp [hx], by omega⟩
    · simpa using hx
theorem bounds_ok (G : List Int) (hG : G.Pairwise (· < ·)) (hp : ∀ g ∈ G, 1 ≤ g) (F : Int → Bool) (hF : ∀ x y, x ≤ y → (∀ g ∈ G, ¬ (x ≤ g ∧ g < y)) → F x = F y) :
    ((mkG G).filter F = [] ∧ (rgL 1 (mxM G + 1).toNat).filter F = []) ∨ ∃ a z y, ((mkG G).filter F).head? = some a ∧ ((mkG G).filter F).getLast? = some z ∧ ((rgL 1 (mxM G + 1).toNat).filter F)[0]? = some (firstV G a) ∧ ((rgL 1 (mxM G + 1).toNat).filter F)[((rgL 1 (mxM G + 1).toNat).filter F).length - 1]? = some y ∧
      ((lastC G z = true ∧ mxM G < y) ∨ (lastC G z = false ∧ y = z ∧ y ≤ mxM G)) := by
  obtain ⟨k1, k2, k3, k4, k5⟩ := mkG_ok hG hp
  have hM1 : 1 ≤ mxM G := (k3 _ k2).1
  have memf : ∀ x, x ∈ (rgL 1 (mxM G + 1).toNat).filter F ↔ (1 ≤ x ∧ x ≤ mxM G + 1) ∧ F x = true := fun x => by
    rw [List.mem_filter, rgL_mem]
    constructor
    · rintro ⟨h1, h2⟩; exact ⟨by omega, h2⟩
    · rintro ⟨h1, h2⟩; exact ⟨by omega, h2⟩
  have upf : ((rgL 1 (mxM G + 1).toNat).filter F).Pairwise (· < ·) := List.Pairwise.filter _ (rgL_up _ _)
  have upA : ((mkG G).filter F).Pairwise (· < ·) := List.Pairwise.filter _ k1
  have FM : F (mxM G) = F (mxM G + 1) := hF _ _ (by omega) fun g hg => by have := (k4 g hg).2; omega
  have near : ∀ x, 1 ≤ x → x ≤ mxM G → F x = true → ∃ m ∈ (mkG G).filter F, x ≤ m ∧ ∀ g ∈ mkG G, x ≤ g → m ≤ g := fun x h1 h2 hx => by
    obtain ⟨m, m1, m2, m3⟩ := least_ge x (mkG G) ⟨_, k2, h2⟩
    have : F x = F m := hF x m m2 fun g hg ⟨a, b⟩ => by have := m3 g (k4 g hg).1 a; omega
    exact ⟨m, List.mem_filter.mpr ⟨m1, by rw [← this]; exact hx⟩, m2, m3⟩
  have near' : ∀ x, x ∈ (rgL 1 (mxM G + 1).toNat).filter F → ∃ m ∈ (mkG G).filter F, x ≤ m + 1 ∧ (x ≤ mxM G → x ≤ m ∧ ∀ g ∈ mkG G, x ≤ g → m ≤ g) ∧ (mxM G < x → m = mxM G) := fun x hx => by
    obtain ⟨⟨h1, h2⟩, h3⟩ := (memf x).mp hx
    by_cases h : x ≤ mxM G
    · obtain ⟨m, m1, m2, m3⟩ := near x h1 h h3
      exact ⟨m, m1, by omega, fun _ => ⟨m2, m3⟩, fun _ => by omega⟩
    · have : x = mxM G + 1 := by omega
      subst this
      exact ⟨mxM G, List.mem_filter.mpr ⟨k2, by rw [FM]; exact h3⟩, by omega, fun _ => by omega, fun _ => rfl⟩
  cases hA : (mkG G).filter F with
  | nil =>
    refine .inl ⟨rfl, ?_⟩
    rw [List.eq_nil_iff_forall_not_mem]
    intro x hx
    obtain ⟨m, m1, _⟩ := near' x hx
    rw [hA] at m1; cases m1
  | cons a A' =>
    have haA : a ∈ (mkG G).filter F := by rw [hA]; simp
    have ha : ∀ x ∈ (mkG G).filter F, a ≤ x := fun x hx => by
      rw [hA] at hx upA
      rcases List.mem_cons.mp hx with rfl | hx
      · omega
      · have := (List.pairwise_cons.mp upA).1 x hx; omega
    obtain ⟨z, hz⟩ : ∃ z, ((mkG G).filter F).getLast? = some z := by
      cases h : ((mkG G).filter F).getLast? with
      | none => rw [List.getLast?_eq_none_iff.mp h] at hA; cases hA
      | some z => exact ⟨z, rfl⟩
    obtain ⟨z1, z2⟩ := last_max upA hz
    obtain ⟨a1, a2⟩ := List.mem_filter.mp haA
    obtain ⟨z3, z4⟩ := List.mem_filter.mp z1
    have hfirst : firstV G a ∈ (rgL 1 (mxM G + 1).toNat).filter F ∧ ∀ x ∈ (rgL 1 (mxM G + 1).toNat).filter F, firstV G a ≤ x := by
      unfold firstV
      cases hb : (G.filter fun g => decide (g < a)).getLast? with
      | none =>
        have hn : G.filter (fun g => decide (g < a)) = [] := List.getLast?_eq_none_iff.mp hb
        simp only
        refine ⟨(memf 1).mpr ⟨by omega, ?_⟩, fun x hx => ((memf x).mp hx).1.1⟩
        rw [hF 1 a (k3 a a1).1 fun g hg ⟨_, h⟩ => by
          have := List.filter_eq_nil_iff.mp hn g hg
          simp at this; omega]
        exact a2
      | some b =>
        obtain ⟨b1, b2⟩ := last_max (List.Pairwise.filter _ hG) hb
        obtain ⟨b3, b4⟩ := List.mem_filter.mp b1
        have b4' : b < a := of_decide_eq_true b4
        simp only
        have bp := hp b b3
        refine ⟨(memf _).mpr ⟨⟨by omega, by have := (k3 a a1).2; omega⟩, ?_⟩, fun x hx => ?_⟩
        · rw [hF (b + 1) a (by omega) fun g hg ⟨h1, h2⟩ => by
            have := b2 g (List.mem_filter.mpr ⟨hg, decide_eq_true h2⟩); omega]
          exact a2
        · obtain ⟨⟨x1, x2⟩, x3⟩ := (memf x).mp hx
          rcases Int.lt_or_le b x with h | h
          · omega
          · obtain ⟨m, m1, m2, m3⟩ := near x x1 (by have := (k4 b b3).2; omega) x3
            have := m3 b (k4 b b3).1 h
            have := ha m m1
            omega
    have u1 := up_first upf hfirst.1 hfirst.2
    by_cases hc : z = mxM G
    · have hl : lastC G z = true := by
        unfold lastC
        cases hg : G.getLast? with
        | none => rfl
        | some g => simp only [hc, mxM, hg]; exact decide_eq_true (by omega)
      have u2 := up_last upf (m := mxM G + 1) ((memf _).mpr ⟨by omega, by rw [← FM, ← hc]; exact z4⟩) (fun x hx => ((memf x).mp hx).1.2)
      refine .inr ⟨a, z, mxM G + 1, by rw [List.head?_cons], by rw [← hA]; exact hz, u1.2, u2.2, .inl ⟨hl, by omega⟩⟩
    · have hzG : z ∈ G := (k5 z z3).resolve_right hc
      have hl : lastC G z = false := by
        unfold lastC
        cases hg : G.getLast? with
        | none => rw [List.getLast?_eq_none_iff.mp hg] at hzG; cases hzG
        | some g => have := (last_max hG hg).2 z hzG; exact decide_eq_false (by omega)
      have hzM := (k4 z hzG).2
      have u2 := up_last upf (m := z) ((memf _).mpr ⟨by have := (k3 z z3).1; omega, z4⟩) (fun x hx => by
        obtain ⟨m, m1, m2, m3, m4⟩ := near' x hx
        have := z2 m m1
        by_cases h : x ≤ mxM G
        · have := (m3 h).1; omega
        · have := m4 (by omega); omega)
      refine .inr ⟨a, z, z, by rw [List.head?_cons], by rw [← hA]; exact hz, u1.2, u2.2, .inr ⟨hl, rfl, by omega⟩⟩
end Lk51

end
/-! text: k51_M5.lean -/
section
set_option autoImplicit false
set_option maxRecDepth 100000
namespace Lk51
open BV
/-! readings -/
abbrev Rw := Int × List Nat
def rD (q : Rw) : D := .tup [.int q.1, .tup (mL q.2)]
def rowOf (ts : List Int) (g : Int) : Option Rw := (fg g ts).map fun f => (g, f)
def rowsR (ts : List Int) : List Rw := (mkG (gapsL ts)).filterMap (rowOf ts)
theorem gaps_nil (ts : List Int) : gapsL ts = [] ↔ ts.length ≤ 1 := by
  have h : gapsL ts = [] ↔ stepsL ts = [] := by
    constructor
    · intro h
      rw [List.eq_nil_iff_forall_not_mem]
      intro x hx
      have := (ssetL_mem (stepsL ts) x).mpr hx
      rw [show ssetL (stepsL ts) = gapsL ts from rfl, h] at this
      cases this
    · intro h; rw [gapsL, h]; rfl
  rw [h, ← List.length_eq_zero_iff, steps_len]
  omega
def b9 : List IS := [.set (.slot 3) (.call 7 [(.var 0), (.var 2)]),
    .ifs (.op2 .isNot (.var 3) (.cst .non)) [.app 1 (.tup [(.var 2), (.var 3)])] []]
def E9 (ts : List Int) (acc : List Rw) (x2 x3 : Sl) : Env := [.val (TI ts), .own (.lst (acc.map rD)), x2, x3]
theorem loop9 (j : Nat) (ts : List Int) (ht : ts.length ≤ 1000) (o : Or) : ∀ (gs : List Int) (acc : List Rw) (x2 x3 : Sl), acc.length + gs.length ≤ 10000 → ∃ y2 y3, forM (fun x ρ o => evSs (C (j + 2)) b9 (setS ρ 2 (.val x)) o) (gs.map D.int) (E9 ts acc x2 x3) o = .nx (E9 ts (acc ++ gs.filterMap (rowOf ts)) y2 y3) o
  | [], acc, x2, x3, _ => ⟨x2, x3, by simp; rfl⟩
  | g :: gs, acc, x2, x3, hl => by
    rw [List.length_cons] at hl
    have e7 := s7 j ts ht g o
    cases hf : fg g ts with
    | none =>
      rw [hf] at e7
      obtain ⟨y2, y3, e⟩ := loop9 j ts ht o gs acc (.val (.int g)) (.val .non) (by omega)
      refine ⟨y2, y3, ?_⟩
      rw [List.filterMap_cons, show rowOf ts g = none by rw [rowOf, hf]; rfl]
      exact forM_step (stp (st_set (ev_call2 (ev_var rfl) (ev_var rfl) e7)) (stp (ifF (ev_op2 (ev_var rfl) ev_cst rfl) (evSs_nil' _ _ _)) (evSs_nil' _ _ _))) e
    | some f =>
      rw [hf] at e7
      obtain ⟨y2, y3, e⟩ := loop9 j ts ht o gs (acc ++ [(g, f)]) (.val (.int g)) (.val (.tup (mL f))) (by simp; omega)
      refine ⟨y2, y3, ?_⟩
      rw [List.filterMap_cons, show rowOf ts g = some (g, f) by rw [rowOf, hf]; rfl]
      have e' : acc ++ [(g, f)] ++ gs.filterMap (rowOf ts) = acc ++ ((g, f) :: gs.filterMap (rowOf ts)) := by simp
      rw [e'] at e
      refine forM_step ?_ e
      refine stp (st_set (ev_call2 (ev_var rfl) (ev_var rfl) e7)) (stp (ifT (ev_op2 (ev_var rfl) ev_cst rfl) (stp (st_app (xs := acc.map rD) (d := rD (g, f)) rfl (ev_tup (evs_cons (ev_var rfl) (evs_cons (ev_var rfl) evs_nil))) (by rw [List.length_map, cap_v']; omega)) (evSs_nil' _ _ _))) ?_)
      rw [evSs_nil']
      simp only [E9, setS, List.map_append, List.map_cons, List.map_nil]
      rfl
theorem s9 (j : Nat) (ts : List Int) (ht : ts.length ≤ 64) (o : Or) : C (j + 3) 9 [TI ts] o = .ok (.tup ((rowsR ts).map rD)) o := by
  have e8 := s8 (j + 1) ts ht o
  have hg := gaps_nil ts
  have hgl := gaps_len ts
  obtain ⟨y2, y3, L⟩ := loop9 j ts (by omega) o (mkG (gapsL ts)) [] .un .un (by
    unfold mkG; split <;> simp only [List.length_nil, List.length_append, List.length_cons] <;> omega)
  rw [List.nil_append] at L
  have ec : evE (C (j + 2)) (.op2 .gt (.bi .len [(.var 0)]) (.cst (.int 1))) (E9 ts [] .un .un) o = .ok (.bool (decide (1 < (ts.length : Int)))) o := ev_op2 (ev_bi1 (ev_var rfl) (bi_len_TI ts)) ev_cst (op2_gt_int _ _)
  have es : evE (C (j + 2)) (.ite (.op2 .gt (.bi .len [(.var 0)]) (.cst (.int 1))) (.op2 .add (.call 8 [(.var 0)]) (.tup [(.op2 .add (.op2 .ix (.call 8 [(.var 0)]) (.op1 .neg (.cst (.int 1)))) (.cst (.int 1)))])) (.tup [(.cst (.int 1))])) (E9 ts [] .un .un) o = .ok (.tup ((mkG (gapsL ts)).map D.int)) o := by
    unfold mkG
    cases hl : (gapsL ts).getLast? with
    | none =>
      have := hg.mp (List.getLast?_eq_none_iff.mp hl)
      rw [decide_eq_false (by omega)] at ec
      exact ev_iteF ec (ev_tup (evs_cons ev_cst evs_nil))
    | some g =>
      have hne : ¬ ts.length ≤ 1 := fun h => by rw [hg.mpr h] at hl; cases hl
      rw [decide_eq_true (by omega)] at ec
      have hx : op2 .ix (TI (gapsL ts)) (.int (-1)) = some (.int g) := by
        rw [TI, op2_ix_tup]; exact last_ix (by rw [List.getLast?_map, hl]; rfl)
      refine ev_iteT ec (ev_op2 (ev_call1 (ev_var rfl) e8) (ev_tup (evs_cons (ev_op2 (ev_op2 (ev_call1 (ev_var rfl) e8) (ev_op1 ev_cst (op1m 1)) hx) ev_cst (op2_add_int _ _)) evs_nil)) ?_)
      rw [TI, op2_add_tup (by rw [List.length_map, cap_v']; simp only [List.length_cons, List.length_nil]; omega), List.map_append]; rfl
  exact call_rt rfl (stp (st_setO (ev_lst evs_nil)) (stp (st_forT es L) (stR (st_ret (ev_bi1 (ev_pkO rfl) (bi_tuple_lst _))))))
/-! bounds_for -/
def ablL (ts : List Int) (ds : List Nat) : List Int := (mkG (gapsL ts)).filter fun g => decide (fg g ts = some ds)
theorem abl_rows (ts : List Int) (ds : List Nat) : ∀ gs : List Int, ((gs.filterMap (rowOf ts)).filter fun q => decide (q.2 = ds)).map (·.1) = gs.filter fun g => decide (fg g ts = some ds)
  | [] => rfl
  | g :: gs => by
    have ih := abl_rows ts ds gs
    rw [List.filterMap_cons, List.filter_cons]
    cases hf : fg g ts with
    | none =>
      rw [show rowOf ts g = none by rw [rowOf, hf]; rfl]
      simp only [decide_eq_false (show ¬ (none : Option (List Nat)) = some ds from fun h => nomatch h), Bool.false_eq_true, if_false]
      exact ih
    | some f =>
      rw [show rowOf ts g = some (g, f) by rw [rowOf, hf]; rfl]
      simp only [List.filter_cons, Option.some.injEq]
      by_cases h : f = ds
      · simp only [h, decide_true, if_true, List.map_cons]
        rw [ih]
      · simp only [h, decide_false, Bool.false_eq_true, if_false]
        exact ih
theorem nI_inj : ∀ {a b : List Nat}, nI a = nI b → a = b
  | [], [], _ => rfl
  | [], _ :: _, h => by cases h
  | _ :: _, [], h => by cases h
  | x :: a, y :: b, h => by
    obtain ⟨h1, h2⟩ := List.cons.inj h
    rw [Int.ofNat.inj h1, nI_inj h2]
theorem eqO_mL (a b : List Nat) : eqO (.tup (mL a)) (.tup (mL b)) = some (decide (a = b)) := by
  have := eqO_TI (nI a) (nI b)
  rw [TI, TI, ← mL_nI, ← mL_nI] at this
  rw [this]
  congr 1
  rw [decide_eq_decide]
  exact ⟨nI_inj, fun h => by rw [h]⟩
def bndD (G A : List Int) : D := match A.head?, A.getLast? with
  | some a, some z => .tup [.int (firstV G a), if lastC G z then .non else .int z]
  | _, _ => .non
theorem s10 (j : Nat) (ts : List Int) (ht : ts.length ≤ 64) (ds : List Nat) (o : Or) : C (j + 4) 10 [TI ts, .tup (mL ds)] o = .ok (bndD (gapsL ts) (ablL ts ds)) o := by
  have e9 := s9 j ts ht o
  have e8 := s8 (j + 2) ts ht o
  have hgl := gaps_len ts
  have ec := ev_compP (C := C (j + 3)) (ρ := [.val (TI ts), .val (.tup (mL ds)), .un, .un, .un, .un, .un, .un, .un]) (o := o) (pt := .tup [(.slot 6), (.slot 7)]) (s := .call 9 [(.var 0)]) (c := (.op2 .eq (.var 7) (.bi .tuple [(.var 1)]))) (e := .var 6) (ks := rowsR ts) (g0 := rD) (f := fun q => .int q.1) (p := fun q => decide (q.2 = ds)) (ρ1 := fun q => [.val (TI ts), .val (.tup (mL ds)), .un, .un, .un, .un, .val (.int q.1), .val (.tup (mL q.2)), .un]) (seq_tup (ev_call1 (ev_var rfl) e9)) (fun q _ => rfl) (fun q _ => ev_op2 (ev_var rfl) (ev_bi1 (ev_var rfl) (bi_tuple_tup _)) (op2_eq (eqO_mL _ _))) (fun q _ _ => ev_var rfl)
  have hA : ((rowsR ts).filter fun q => decide (q.2 = ds)).map (fun q => D.int q.1) = (ablL ts ds).map D.int := by
    rw [ablL, ← abl_rows, List.map_map, rowsR]; rfl
  rw [hA] at ec
  generalize ablL ts ds = A at *
  generalize hG : gapsL ts = G at *
  refine call_rt rfl (stp (st_set ec) ?_)
  cases A with
  | nil => exact stR (ifT (ev_op2 (ev_var rfl) (ev_lst evs_nil) (op2_eq (eqO_nilL (by simp)))) (stR (st_ret ev_cst)))
  | cons a A' =>
    obtain ⟨z, hz⟩ : ∃ z, (a :: A').getLast? = some z := by
      cases h : (a :: A').getLast? with
      | none => have := List.getLast?_eq_none_iff.mp h; cases this
      | some z => exact ⟨z, rfl⟩
    rw [show bndD G (a :: A') = .tup [.int (firstV G a), if lastC G z then .non else .int z] by rw [bndD, hz]; rfl]
    refine stp (ifF (ev_op2 (ev_var rfl) (ev_lst evs_nil) (op2_eq (c := false) (eqO_nilL (ok_ints 59 _)))) (evSs_nil' _ _ _)) ?_
    refine stp (st_set (ev_call1 (ev_var rfl) e8)) ?_
    have zix : op2 .ix (.lst ((a :: A').map D.int)) (.int (-1)) = some (.int z) := by
      rw [op2_ix_lst]; exact last_ix (by rw [List.getLast?_map, hz]; rfl)
    have eb := ev_compA (C := C (j + 3)) (ρ := [.val (TI ts), .val (.tup (mL ds)), .val (.lst ((a :: A').map D.int)), .val (TI G), .un, .un, .un, .un, .un]) (o := o) (i := 8) (s := .var 3) (c := (.op2 .lt (.var 8) (.op2 .ix (.var 2) (.cst (.int 0))))) (e := .var 8) (ks := G) (g0 := D.int) (f := D.int) (p := fun g => decide (g < a)) (seq_tup (ev_var rfl)) (fun g _ => ev_op2 (ev_var rfl) (ev_op2 (ev_var rfl) ev_cst (z := .int a) (by rw [op2_ix_lst]; exact atI_q (i := 0) rfl)) (op2_lt_int _ _)) (fun g _ _ => ev_var rfl)
    refine stp (st_set eb) ?_
    have zE : ∀ ρ : Env, getS ρ 2 = .val (.lst ((a :: A').map D.int)) → evE (C (j + 3)) (.op2 .ix (.var 2) (.op1 .neg (.cst (.int 1)))) ρ o = .ok (.int z) o := fun ρ h => ev_op2 (ev_var h) (ev_op1 ev_cst (op1m 1)) zix
    refine stp (st_set (d := .int (firstV G a)) (o := o) (o1 := o) ?_) (stR (st_ret (ev_tup (evs_cons (ev_var rfl) (evs_cons ?_ evs_nil)))))
    · unfold firstV
      cases hb : (G.filter fun g => decide (g < a)).getLast? with
      | none =>
        have hn := List.getLast?_eq_none_iff.mp hb
        rw [hn]
        exact ev_iteF (ev_op2 (ev_var rfl) (ev_lst evs_nil) (op2_ne (c := true) eqO_nn)) ev_cst
      | some b =>
        have hne : ((G.filter fun g => decide (g < a)).map D.int).isEmpty = false := by
          cases hh : G.filter fun g => decide (g < a) with
          | nil => rw [hh] at hb; cases hb
          | cons _ _ => rfl
        have e1 : ∀ ρ : Env, getS ρ 4 = .val (.lst ((G.filter fun g => decide (g < a)).map D.int)) → evE (C (j + 3)) (.op2 .ne (.var 4) (.lst [])) ρ o = .ok (.bool true) o := fun ρ h => ev_op2 (ev_var h) (ev_lst evs_nil) (op2_ne (c := false) (by rw [eqO_nilL (ok_ints 59 _), hne]))
        have bix : op2 .ix (.lst ((G.filter fun g => decide (g < a)).map D.int)) (.int (-1)) = some (.int b) := by
          rw [op2_ix_lst]; exact last_ix (by rw [List.getLast?_map, hb]; rfl)
        exact ev_iteT (e1 _ rfl) (ev_op2 (ev_op2 (ev_var rfl) (ev_op1 ev_cst (op1m 1)) bix) ev_cst (op2_add_int _ _))
    · unfold lastC
      cases hg : G.getLast? with
      | none =>
        have hn := List.getLast?_eq_none_iff.mp hg
        subst hn
        exact ev_iteT (ev_orT (ev_op2 (ev_var rfl) (ev_tup evs_nil) (op2_eq (c := true) (eqO_nilT (by simp))))) ev_cst
      | some g =>
        have hne : (G.map D.int).isEmpty = false := by
          cases G with
          | nil => cases hg
          | cons _ _ => rfl
        have gix : op2 .ix (TI G) (.int (-1)) = some (.int g) := by
          rw [TI, op2_ix_tup]; exact last_ix (by rw [List.getLast?_map, hg]; rfl)
        have e1 : ∀ ρ : Env, getS ρ 3 = .val (TI G) → evE (C (j + 3)) (.op2 .eq (.var 3) (.tup [])) ρ o = .ok (.bool false) o := fun ρ h => ev_op2 (ev_var h) (ev_tup evs_nil) (op2_eq (by rw [TI, eqO_nilT (ok_ints 59 _), hne]))
        have e2 : ∀ (q : Bool), decide (g < z) = q → ∀ ρ : Env, getS ρ 3 = .val (TI G) → getS ρ 2 = .val (.lst ((a :: A').map D.int)) → evE (C (j + 3)) (.or (.op2 .eq (.var 3) (.tup [])) (.op2 .gt (.op2 .ix (.var 2) (.op1 .neg (.cst (.int 1)))) (.op2 .ix (.var 3) (.op1 .neg (.cst (.int 1)))))) ρ o = .ok (.bool q) o := fun q hq ρ h3 h2 => by rw [← hq]; exact ev_orB (q := false) (e1 ρ h3) (ev_op2 (zE ρ h2) (ev_op2 (ev_var h3) (ev_op1 ev_cst (op1m 1)) gix) (op2_gt_int _ _))
        by_cases h : g < z
        · simp only [decide_eq_true h, if_true]
          exact ev_iteT (e2 true (decide_eq_true h) _ rfl rfl) ev_cst
        · simp only [decide_eq_false h, Bool.false_eq_true, if_false]
          exact ev_iteF (e2 false (decide_eq_false h) _ rfl rfl) (zE _ rfl)
end Lk51

end
/-! text: k51_M6.lean -/
section
set_option autoImplicit false
set_option maxRecDepth 100000
namespace Lk51
open BV
/-! what could be sent -/
def ext (most g : Nat) (r : List Nat) : List (List Nat) := ((List.range (most + 1)).filter fun m => decide (r.sum + m ≤ most) && decide (g + m ≤ 10)).map fun m => r ++ [m]
def sentR (most : Nat) : List Nat → List (List Nat) → List (List Nat)
  | [], R => R
  | g :: gs, R => sentR most gs (R.flatMap (ext most g))
def figRow (gs r : List Nat) : List Nat := List.zipWith (fun g m => (g + m) % 10) gs r
def Nb (most : Nat) : Nat → Nat → Nat
  | 0, _ => 1
  | n + 1, s => ((List.range (most + 1)).map fun m => if s + m ≤ most then Nb most n (s + m) else 0).sum
theorem sum_filter_le (p q : Nat → Bool) (f : Nat → Nat) (h : ∀ m, p m = true → q m = true) : ∀ l : List Nat, ((l.filter p).map f).sum ≤ (l.map fun m => if q m = true then f m else 0).sum
  | [] => by simp
  | m :: l => by
    have ih := sum_filter_le p q f h l
    rw [List.filter_cons, List.map_cons, List.sum_cons]
    by_cases hp : p m = true
    · rw [if_pos hp, if_pos (h m hp), List.map_cons, List.sum_cons]; omega
    · rw [if_neg hp]; omega
theorem sum_flatMap (f : List Nat → Nat) (h : List Nat → List (List Nat)) : ∀ R : List (List Nat), ((R.flatMap h).map f).sum = (R.map fun r => ((h r).map f).sum).sum
  | [] => rfl
  | r :: R => by rw [List.flatMap_cons, List.map_append, List.sum_append, sum_flatMap f h R, List.map_cons, List.sum_cons]
theorem sum_le_map (f g : List Nat → Nat) (h : ∀ r, f r ≤ g r) : ∀ R : List (List Nat), (R.map f).sum ≤ (R.map g).sum
  | [] => by simp
  | r :: R => by
    have := sum_le_map f g h R
    have := h r
    simp only [List.map_cons, List.sum_cons]; omega
theorem sent_len (most : Nat) : ∀ (gs : List Nat) (R : List (List Nat)), (sentR most gs R).length ≤ (R.map fun r => Nb most gs.length r.sum).sum
  | [], R => by
    have : ∀ R : List (List Nat), R.length = (R.map fun r => Nb most 0 r.sum).sum := fun R => by
      induction R with
      | nil => rfl
      | cons r R ih => simp only [List.length_cons, List.map_cons, List.sum_cons, ih, Nb]; omega
    rw [sentR, List.length_nil, ← this R]; exact Nat.le_refl _
  | g :: gs, R => by
    rw [sentR]
    refine Nat.le_trans (sent_len most gs _) ?_
    rw [sum_flatMap]
    refine sum_le_map _ _ (fun r => ?_) R
    rw [ext, List.map_map, List.length_cons, Nb]
    refine Nat.le_trans (sum_filter_le _ (fun m => decide (r.sum + m ≤ most)) _ (fun m hm => by simp only [Bool.and_eq_true] at hm; exact hm.1) _) ?_
    refine Nat.le_of_eq (congrArg List.sum (List.map_congr_left fun m _ => ?_))
    simp only [Function.comp, List.sum_append, List.sum_cons, List.sum_nil, Nat.add_zero, decide_eq_true_eq]
theorem Nb_small : ∀ most < 4, ∀ n < 6, Nb most n 0 < 64 := by decide +kernel
theorem sent_lt {most : Nat} {gs : List Nat} (h1 : most < 4) (h2 : gs.length < 6) : (sentR most gs [[]]).length < 64 := by
  have := sent_len most gs [[]]
  simp at this
  have := Nb_small most h1 gs.length h2
  omega
theorem sent_ok (most : Nat) : ∀ (gs : List Nat) (n : Nat) (R : List (List Nat)), (∀ r ∈ R, r.length = n ∧ r.sum ≤ most) → ∀ r ∈ sentR most gs R, r.length = n + gs.length ∧ r.sum ≤ most
  | [], n, R, h => h
  | g :: gs, n, R, h => fun r hr => by
    have := sent_ok most gs (n + 1) (R.flatMap (ext most g)) (fun r hr => by
      obtain ⟨r0, h0, hr⟩ := List.mem_flatMap.mp hr
      obtain ⟨m, hm, rfl⟩ := List.mem_map.mp hr
      have h2 := (List.mem_filter.mp hm).2
      simp only [Bool.and_eq_true, decide_eq_true_eq] at h2
      have := h r0 h0
      simp only [List.length_append, List.sum_append, List.length_cons, List.length_nil, List.sum_cons, List.sum_nil]; omega) r hr
    rw [List.length_cons]; omega
theorem sum_nI : ∀ r : List Nat, (nI r).sum = (r.sum : Int)
  | [] => rfl
  | x :: r => by
    have := sum_nI r
    show (x : Int) + (nI r).sum = _
    rw [List.sum_cons]; omega
theorem leN (a b : Nat) : op2 .le (.int (a : Int)) (.int (b : Int)) = some (.bool (decide (a ≤ b))) := by rw [op2_le_int]; congr 2; rw [decide_eq_decide]; omega
def tD (r : List Nat) : D := .tup (mL r)
/-! _law_sent -/
def b22i : List IS := [.set (.slot 4) (.op2 .add (.var 4) (.comp (.slot 6) (.bi .range [(.op2 .add (.var 1) (.cst (.int 1)))]) (.and (.op2 .le (.op2 .add (.bi .sum [(.var 5)]) (.var 6)) (.var 1)) (.op2 .le (.op2 .add (.var 3) (.var 6)) (.cst (.int 10)))) (.op2 .add (.var 5) (.tup [(.var 6)]))))]
def b22 : List IS := [.set (.slot 4) (.lst []),
    .for_ (.slot 5) (.var 2) [.set (.slot 4) (.op2 .add (.var 4) (.comp (.slot 6) (.bi .range [(.op2 .add (.var 1) (.cst (.int 1)))]) (.and (.op2 .le (.op2 .add (.bi .sum [(.var 5)]) (.var 6)) (.var 1)) (.op2 .le (.op2 .add (.var 3) (.var 6)) (.cst (.int 10)))) (.op2 .add (.var 5) (.tup [(.var 6)]))))],
    .set (.slot 2) (.var 4)]
def E22 (gs0 : List Nat) (most : Nat) (R : List (List Nat)) (x3 x4 x5 x6 x7 : Sl) : Env := [.val (.tup (mL gs0)), .val (.int (most : Int)), .val (.lst (R.map tD)), x3, x4, x5, x6, x7]
theorem in22 (j : Nat) (gs0 : List Nat) (most g : Nat) (hmo : most < 4) (R0 : List (List Nat)) (o : Or) : ∀ (R acc : List (List Nat)) (x5 x6 x7 : Sl), (∀ r ∈ R, r.length ≤ 1000) → acc.length + 4 * R.length ≤ 100000 → ∃ y5 y6 y7, forM (fun x ρ o => evSs (C j) b22i (setS ρ 5 (.val x)) o) (R.map tD) (E22 gs0 most R0 (.val (.int (g : Int))) (.val (.lst (acc.map tD))) x5 x6 x7) o = .nx (E22 gs0 most R0 (.val (.int (g : Int))) (.val (.lst ((acc ++ R.flatMap (ext most g)).map tD))) y5 y6 y7) o
  | [], acc, x5, x6, x7, _, _ => ⟨x5, x6, x7, by simp; rfl⟩
  | r :: R, acc, x5, x6, x7, hr, hl => by
    rw [List.length_cons] at hl
    have hrl := hr r List.mem_cons_self
    have hel : (ext most g r).length ≤ 4 := by
      have := List.length_filter_le (fun m => decide (r.sum + m ≤ most) && decide (g + m ≤ 10)) (List.range (most + 1))
      rw [List.length_range] at this
      rw [ext, List.length_map]; omega
    obtain ⟨y5, y6, y7, e⟩ := in22 j gs0 most g hmo R0 o R (acc ++ ext most g r) (.val (tD r)) x6 x7 (fun q hq => hr q (List.mem_cons_of_mem _ hq)) (by rw [List.length_append]; omega)
    refine ⟨y5, y6, y7, ?_⟩
    have ec := ev_compF (C := C j) (ρ := E22 gs0 most R0 (.val (.int (g : Int))) (.val (.lst (acc.map tD))) (.val (tD r)) x6 x7) (o := o) (o1 := o) (i := 6) (n := most + 1) (s := (.bi .range [(.op2 .add (.var 1) (.cst (.int 1)))])) (c := (.and (.op2 .le (.op2 .add (.bi .sum [(.var 5)]) (.var 6)) (.var 1)) (.op2 .le (.op2 .add (.var 3) (.var 6)) (.cst (.int 10))))) (e := (.op2 .add (.var 5) (.tup [(.var 6)]))) (g := fun m => tD (r ++ [m])) (p := fun m => decide (r.sum + m ≤ most) && decide (g + m ≤ 10)) (ev_rangeN (ev_op2 (ev_var rfl) ev_cst (addN most 1)) (by rw [cap_v']; omega)) (fun m hm => by
      refine ev_and2 (ev_op2 (ev_op2 (ev_bi1 (ev_var rfl) (z := .int (r.sum : Int)) ?_) (ev_var rfl) (addN _ _)) (ev_var rfl) (leN _ _)) (fun _ => ev_op2 (ev_op2 (ev_var rfl) (ev_var rfl) (addN _ _)) ev_cst (leN _ 10))
      rw [tD, mL_nI, bi_sum_tup, sum_nI]) (fun m hm _ => by
      refine ev_op2 (ev_var rfl) (ev_tup (evs_cons (ev_var rfl) evs_nil)) ?_
      rw [tD, op2_add_tup (by simp [mL, cap_v']; omega), tD, mL_snoc])
    have hx : ((List.range (most + 1)).filter fun m => decide (r.sum + m ≤ most) && decide (g + m ≤ 10)).map (fun m => tD (r ++ [m])) = (ext most g r).map tD := by rw [ext, List.map_map]; rfl
    rw [hx] at ec
    have ea : op2 .add (.lst (acc.map tD)) (.lst ((ext most g r).map tD)) = some (.lst ((acc ++ ext most g r).map tD)) := by
      rw [op2_add_lst (by rw [List.length_map, List.length_map, cap_v']; omega), List.map_append]
    rw [List.flatMap_cons, ← List.append_assoc]
    exact forM_step (stp (st_set (ev_op2 (ev_var rfl) ec ea)) (evSs_nil' _ _ _)) e
theorem flat_len (most g : Nat) (hmo : most < 4) : ∀ R : List (List Nat), (R.flatMap (ext most g)).length ≤ 4 * R.length
  | [] => by simp
  | r :: R => by
    have ih := flat_len most g hmo R
    have := List.length_filter_le (fun m => decide (r.sum + m ≤ most) && decide (g + m ≤ 10)) (List.range (most + 1))
    rw [List.length_range] at this
    rw [List.flatMap_cons, List.length_append, List.length_cons, ext, List.length_map]; omega
theorem out22 (j : Nat) (gs0 : List Nat) (most : Nat) (hmo : most < 4) (o : Or) : ∀ (gs : List Nat) (n : Nat) (R : List (List Nat)) (x3 x4 x5 x6 x7 : Sl), (∀ r ∈ R, r.length = n ∧ r.sum ≤ most) → n + gs.length ≤ 6 → R.length ≤ 4 ^ n → ∃ y3 y4 y5 y6 y7, forM (fun x ρ o => evSs (C j) b22 (setS ρ 3 (.val x)) o) (mL gs) (E22 gs0 most R x3 x4 x5 x6 x7) o = .nx (E22 gs0 most (sentR most gs R) y3 y4 y5 y6 y7) o
  | [], n, R, x3, x4, x5, x6, x7, _, _, _ => ⟨x3, x4, x5, x6, x7, rfl⟩
  | g :: gs, n, R, x3, x4, x5, x6, x7, hR, hn, hl => by
    rw [List.length_cons] at hn
    have hp : 4 ^ n ≤ 4 ^ 6 := Nat.pow_le_pow_right (by decide) (by omega)
    obtain ⟨z5, z6, z7, e⟩ := in22 j gs0 most g hmo R o R [] x5 x6 x7 (fun r hr => by have := (hR r hr).1; omega) (by simp at hp ⊢; omega)
    rw [List.nil_append] at e
    have hR' : ∀ r ∈ R.flatMap (ext most g), r.length = n + 1 ∧ r.sum ≤ most := sent_ok most [g] n R hR
    obtain ⟨y3, y4, y5, y6, y7, e2⟩ := out22 j gs0 most hmo o gs (n + 1) (R.flatMap (ext most g)) (.val (.int (g : Int))) (.val (.lst ((R.flatMap (ext most g)).map tD))) z5 z6 z7 hR' (by omega) (by have := flat_len most g hmo R; rw [Nat.pow_succ]; omega)
    refine ⟨y3, y4, y5, y6, y7, forM_step ?_ e2⟩
    exact stp (st_set (ev_lst evs_nil)) (stp (st_forI (ev_var rfl) e) (stp (st_set (ev_var rfl)) (evSs_nil' _ _ _)))
/-- the answer of both -/
def sentV (most : Nat) (gs : List Nat) : D := .tup ((ssetR ((sentR most gs [[]]).map fun r => nI (figRow gs r))).map fun r => .tup (r.map .int))
theorem rowsO_t : ∀ R : List (List Nat), rowsO (R.map tD) = some (R.map nI)
  | [] => rfl
  | r :: R => by rw [List.map_cons, tD, rowsO, mL_nI, intsO_m, Option.bind_some, rowsO_t R]; rfl
theorem fig_len (gs r : List Nat) (h : r.length = gs.length) : (figRow gs r).length = gs.length := by rw [figRow, List.length_zipWith, h, Nat.min_self]
theorem fig_lt (gs r : List Nat) : ∀ x ∈ figRow gs r, x < 10 := fun x hx => by
  rw [figRow] at hx
  obtain ⟨i, hi, rfl⟩ := List.mem_iff_getElem.mp hx
  rw [List.getElem_zipWith]
  exact Nat.mod_lt _ (by decide)
theorem bd_fig (gs r : List Nat) (h : r.length = gs.length) : bdR gs.length (nI (figRow gs r)) = true := by
  simp only [bdR, Bool.and_eq_true, beq_iff_eq, List.all_eq_true, decide_eq_true_eq]
  refine ⟨by rw [nI, List.length_map, fig_len gs r h], fun x hx => ?_⟩
  obtain ⟨n, hn, rfl⟩ := List.mem_map.mp hx
  have := fig_lt gs r n hn
  omega
theorem sset_sent {most : Nat} {gs : List Nat} (h1 : most < 4) (h2 : gs.length < 6) : biF .tuple [.lst ((ssetR ((sentR most gs [[]]).map fun r => nI (figRow gs r))).map fun r => .tup (r.map .int))] = some (sentV most gs) ∧ biF .ssetT [.lst ((sentR most gs [[]]).map fun r => tD (figRow gs r))] = some (.lst ((ssetR ((sentR most gs [[]]).map fun r => nI (figRow gs r))).map fun r => .tup (r.map .int))) := by
  refine ⟨rfl, ?_⟩
  have ok := sent_ok most gs 0 [[]] (by simp)
  have hlt := sent_lt h1 h2
  generalize sentR most gs [[]] = R at *
  show (rowsO (R.map fun r => tD (figRow gs r))).bind ssetT1 = _
  have hr : rowsO (R.map fun r => tD (figRow gs r)) = some (R.map fun r => nI (figRow gs r)) := by
    have := rowsO_t (R.map fun r => figRow gs r)
    rw [List.map_map, List.map_map] at this
    exact this
  have hok : okR (R.map fun r => nI (figRow gs r)) = true := by
    cases R with
    | nil => rfl
    | cons r R =>
      have hl := (ok r (by simp)).1
      have hall : ∀ q ∈ r :: R, bdR gs.length (nI (figRow gs q)) = true := fun q hq => bd_fig gs q (by have := (ok q hq).1; omega)
      show ((r :: R).map fun r => nI (figRow gs r)).all (bdR (nI (figRow gs r)).length) = true
      rw [show (nI (figRow gs r)).length = gs.length by rw [nI, List.length_map, fig_len gs r (by omega)], List.all_map, List.all_eq_true]
      exact fun q hq => hall q hq
  rw [hr, Option.bind_some, ssetT1, if_pos ⟨by rw [List.length_map]; exact hlt, hok⟩]
theorem s22 (j : Nat) (gs : List Nat) (most : Nat) (h1 : most < 4) (h2 : gs.length < 6) (o : Or) : C (j + 1) 22 [.tup (mL gs), .int (most : Int)] o = .ok (sentV most gs) o := by
  obtain ⟨y3, y4, y5, y6, y7, L⟩ := out22 j gs most h1 o gs 0 [[]] .un .un .un .un .un (by simp) (by omega) (by simp)
  have ok := sent_ok most gs 0 [[]] (by simp)
  obtain ⟨c1, c2⟩ := sset_sent h1 h2
  have ec := ev_compAm (C := C j) (ρ := E22 gs most (sentR most gs [[]]) y3 y4 y5 y6 y7) (o := o) (i := 5) (s := .var 2) (e := (.bi .tuple [(.comp (.slot 7) (.bi .range [(.bi .len [(.var 5)])]) (.cst (.bool true)) (.op2 .mod (.bi .int [(.op2 .add (.op2 .ix (.var 0) (.var 7)) (.op2 .ix (.var 5) (.var 7)))]) (.cst (.int 10))))])) (ks := sentR most gs [[]]) (g0 := tD) (f := fun r => tD (figRow gs r)) (seq_lst (ev_var rfl)) (fun r hr => by
    have hl := (ok r hr).1
    have e := ev_comp (C := C j) (ρ := E22 gs most (sentR most gs [[]]) y3 y4 (.val (tD r)) y6 y7) (o := o) (o1 := o) (i := 7) (n := r.length) (s := (.bi .range [(.bi .len [(.var 5)])])) (e := (.op2 .mod (.bi .int [(.op2 .add (.op2 .ix (.var 0) (.var 7)) (.op2 .ix (.var 5) (.var 7)))]) (.cst (.int 10)))) (g := fun k : Nat => .int (((gs.getD k 0 + r.getD k 0) % 10 : Nat) : Int)) (ev_rangeN (ev_bi1 (ev_var rfl) (by rw [tD, bi_len_tup, mL, List.length_map])) (by rw [cap_v']; omega)) (fun k hk => by
      have ix : ∀ l : List Nat, k < l.length → op2 .ix (.tup (mL l)) (.int (k : Int)) = some (.int (l.getD k 0 : Nat)) := fun l hk => by
        rw [op2_ix_tup]
        refine atI_q ?_
        rw [mL, List.getElem?_map, List.getElem?_eq_getElem hk, List.getD_eq_getElem?_getD, List.getElem?_eq_getElem hk]; rfl
      exact ev_op2 (ev_bi1 (ev_op2 (ev_op2 (ev_var rfl) (ev_var rfl) (ix gs (by omega))) (ev_op2 (ev_var rfl) (ev_var rfl) (ix r hk)) (addN _ _)) (bi_int _)) ev_cst (mod10 _))
    have hm : (List.range r.length).map (fun k : Nat => D.int (((gs.getD k 0 + r.getD k 0) % 10 : Nat) : Int)) = mL (figRow gs r) := by
      refine List.ext_getElem (by simp [mL, figRow]; omega) fun i h1 h2 => ?_
      have hi : i < r.length := by simpa using h1
      simp only [List.getElem_map, List.getElem_range, mL, figRow, List.getElem_zipWith, List.getD_eq_getElem?_getD]
      rw [List.getElem?_eq_getElem (show i < gs.length by omega), List.getElem?_eq_getElem hi]
      rfl
    rw [hm] at e
    exact ev_bi1 e (bi_tuple_lst _))
  exact call_rt rfl (stp (st_set (ev_lst (evs_cons (ev_tup evs_nil) evs_nil))) (stp (st_forT (ev_var rfl) L) (stR (st_ret (ev_bi1 (ev_bi1 ec c2) c1)))))
/-! could_be_sent -/
def b11j : List IS := [.ifs (.op2 .le (.op2 .add (.var 5) (.var 9)) (.cst (.int 10))) [.app 6 (.tup [(.op2 .add (.var 7) (.var 9)), (.op2 .add (.var 8) (.tup [(.op2 .mod (.op2 .add (.var 5) (.var 9)) (.cst (.int 10)))]))])] []]
def b11i : List IS := [.for_ (.slot 9) (.bi .range [(.op2 .add (.op2 .sub (.var 2) (.var 7)) (.cst (.int 1)))]) [.ifs (.op2 .le (.op2 .add (.var 5) (.var 9)) (.cst (.int 10))) [.app 6 (.tup [(.op2 .add (.var 7) (.var 9)), (.op2 .add (.var 8) (.tup [(.op2 .mod (.op2 .add (.var 5) (.var 9)) (.cst (.int 10)))]))])] []]]
def b11 : List IS := [.setO 6 (.lst []),
    .for_ (.tup [(.slot 7), (.slot 8)]) (.var 4) [.for_ (.slot 9) (.bi .range [(.op2 .add (.op2 .sub (.var 2) (.var 7)) (.cst (.int 1)))]) [.ifs (.op2 .le (.op2 .add (.var 5) (.var 9)) (.cst (.int 10))) [.app 6 (.tup [(.op2 .add (.var 7) (.var 9)), (.op2 .add (.var 8) (.tup [(.op2 .mod (.op2 .add (.var 5) (.var 9)) (.cst (.int 10)))]))])] []]],
    .frz 6,
    .set (.slot 4) (.var 6)]
def sD (gs r : List Nat) : D := .tup [.int (r.sum : Int), tD (figRow gs r)]
def E11 (ts : List Int) (l : Int) (most : Nat) (gs0 : List Nat) (Rd : List D) (g : Nat) (acc : List D) (x7 x8 x9 x10 : Sl) : Env := [.val (TI ts), .val (.int l), .val (.int (most : Int)), .val (.tup (mL gs0)), .val (.lst Rd), .val (.int (g : Int)), .own (.lst acc), x7, x8, x9, x10]
theorem fig_snoc (gs r : List Nat) (g m : Nat) (h : r.length = gs.length) : figRow (gs ++ [g]) (r ++ [m]) = figRow gs r ++ [(g + m) % 10] := by
  rw [figRow, List.zipWith_append h.symm]; rfl
theorem sum_snoc (r : List Nat) (m : Nat) : (r ++ [m]).sum = r.sum + m := by simp
def exm (g : Nat) (r : List Nat) (k : Nat) : List (List Nat) := ((List.range k).filter fun m => decide (g + m ≤ 10)).map fun m => r ++ [m]
theorem exm_succ (g : Nat) (r : List Nat) (k : Nat) : exm g r (k + 1) = exm g r k ++ (if g + k ≤ 10 then [r ++ [k]] else []) := by
  rw [exm, List.range_succ, List.filter_append, List.map_append]
  congr 1
  rw [List.filter_cons]
  by_cases h : g + k ≤ 10
  · rw [decide_eq_true h, if_pos h]; rfl
  · rw [decide_eq_false h, if_neg h]; rfl
theorem range_lt (M n : Nat) (h : M ≤ n) : (List.range n).filter (fun j => decide (j < M)) = List.range M := by
  obtain ⟨d, rfl⟩ : ∃ d, n = M + d := ⟨n - M, by omega⟩
  rw [List.range_add, List.filter_append]
  have h1 : (List.range M).filter (fun j => decide (j < M)) = List.range M := List.filter_eq_self.mpr fun j hj => decide_eq_true (List.mem_range.mp hj)
  have h2 : ((List.range d).map (M + ·)).filter (fun j => decide (j < M)) = [] := List.filter_eq_nil_iff.mpr fun j hj => by
    obtain ⟨i, _, rfl⟩ := List.mem_map.mp hj
    simp
  rw [h1, h2, List.append_nil]
theorem exm_ext (most g : Nat) (r : List Nat) (h : r.sum ≤ most) : exm g r (most - r.sum + 1) = ext most g r := by
  rw [exm, ext, ← range_lt (most - r.sum + 1) (most + 1) (by omega), List.filter_filter]
  congr 1
  refine List.filter_congr fun m _ => ?_
  rw [Bool.and_comm]
  congr 1
  rw [decide_eq_decide]; omega
theorem exm_len (g : Nat) (r : List Nat) (k : Nat) : (exm g r k).length ≤ k := by
  have := List.length_filter_le (fun m => decide (g + m ≤ 10)) (List.range k)
  rw [List.length_range] at this
  rw [exm, List.length_map]; exact this
theorem in11j (j : Nat) (ts : List Int) (l : Int) (most : Nat) (gs0 : List Nat) (Rd : List D) (gp : List Nat) (g : Nat) (r : List Nat) (hr : r.length = gp.length) (hg : gp.length ≤ 6) (acc : List D) (o : Or) (n : Nat) (hl : acc.length + n ≤ 100000) (x9 x10 : Sl) : ∃ y9, forM (fun x ρ o => evSs (C j) b11j (setS ρ 9 (.val x)) o) (RI n) (E11 ts l most gs0 Rd g acc (.val (.int (r.sum : Int))) (.val (tD (figRow gp r))) x9 x10) o = .nx (E11 ts l most gs0 Rd g (acc ++ (exm g r n).map (sD (gp ++ [g]))) (.val (.int (r.sum : Int))) (.val (tD (figRow gp r))) y9 x10) o := by
  have L := forM_RI (n := n) (f := fun x ρ o => evSs (C j) b11j (setS ρ 9 (.val x)) o) (I := fun k ρ o' => o' = o ∧ ∃ y9, ρ = E11 ts l most gs0 Rd g (acc ++ (exm g r k).map (sD (gp ++ [g]))) (.val (.int (r.sum : Int))) (.val (tD (figRow gp r))) y9 x10) (ρ := E11 ts l most gs0 Rd g acc (.val (.int (r.sum : Int))) (.val (tD (figRow gp r))) x9 x10) (o := o)
    (fun k hk ρ o' ⟨ho, y9, hρ⟩ => by
      subst ho
      subst hρ
      have hel := exm_len g r k
      have ec : ∀ q, decide (g + k ≤ 10) = q → evE (C j) (.op2 .le (.op2 .add (.var 5) (.var 9)) (.cst (.int 10))) (E11 ts l most gs0 Rd g (acc ++ (exm g r k).map (sD (gp ++ [g]))) (.val (.int (r.sum : Int))) (.val (tD (figRow gp r))) (.val (.int (k : Int))) x10) o' = .ok (.bool q) o' := fun q hq => by rw [← hq]; exact ev_op2 (ev_op2 (ev_var rfl) (ev_var rfl) (addN _ _)) ev_cst (leN _ 10)
      rw [exm_succ]
      by_cases h : g + k ≤ 10
      · rw [if_pos h, List.map_append, ← List.append_assoc]
        have ea : op2 .add (tD (figRow gp r)) (.tup [.int (((g + k) % 10 : Nat) : Int)]) = some (tD (figRow (gp ++ [g]) (r ++ [k]))) := by
          rw [tD, op2_add_tup (by rw [show (mL (figRow gp r)).length = gp.length by rw [mL, List.length_map, fig_len gp r hr], cap_v']; simp only [List.length_cons, List.length_nil]; omega), fig_snoc gp r g k hr, tD, mL_snoc]
        refine ⟨_, _, .inl (stp (ifT (ec true (decide_eq_true h)) (stp (st_app (d := sD (gp ++ [g]) (r ++ [k])) (o1 := o') rfl (ev_tup (evs_cons (ev_op2 (ev_var rfl) (ev_var rfl) (z := .int ((r ++ [k]).sum : Int)) (by rw [addN, sum_snoc])) (evs_cons (ev_op2 (ev_var rfl) (ev_tup (evs_cons (ev_op2 (ev_op2 (ev_var rfl) (ev_var rfl) (addN g k)) ev_cst (mod10 _)) evs_nil)) ea) evs_nil))) (by rw [List.length_append, List.length_map, cap_v']; omega)) (evSs_nil' _ _ _))) (evSs_nil' _ _ _)), rfl, _, rfl⟩
      · rw [if_neg h, List.append_nil]
        exact ⟨_, _, .inl (stp (ifF (ec false (decide_eq_false h)) (evSs_nil' _ _ _)) (evSs_nil' _ _ _)), rfl, _, rfl⟩) ⟨rfl, x9, by simp [exm]⟩
  obtain ⟨ρ', o', e, ho, y9, rfl⟩ := L
  subst ho
  exact ⟨y9, e⟩
theorem in11 (j : Nat) (ts : List Int) (l : Int) (most : Nat) (hmo : most < 4) (gs0 : List Nat) (Rd : List D) (gp : List Nat) (hg : gp.length ≤ 6) (g : Nat) (o : Or) : ∀ (R : List (List Nat)) (acc : List D) (x7 x8 x9 x10 : Sl), (∀ r ∈ R, r.length = gp.length ∧ r.sum ≤ most) → acc.length + 4 * R.length ≤ 90000 → ∃ y7 y8 y9, forM (fun x ρ o => match bindP (.tup [(.slot 7), (.slot 8)]) x ρ with
        | none => .no
        | some ρ => evSs (C j) b11i ρ o) (R.map (sD gp)) (E11 ts l most gs0 Rd g acc x7 x8 x9 x10) o = .nx (E11 ts l most gs0 Rd g (acc ++ (R.flatMap (ext most g)).map (sD (gp ++ [g]))) y7 y8 y9 x10) o
  | [], acc, x7, x8, x9, x10, _, _ => ⟨x7, x8, x9, by simp; rfl⟩
  | r :: R, acc, x7, x8, x9, x10, hr, hl => by
    rw [List.length_cons] at hl
    obtain ⟨h1, h2⟩ := hr r List.mem_cons_self
    have hel := exm_len g r (most - r.sum + 1)
    obtain ⟨z9, e1⟩ := in11j j ts l most gs0 Rd gp g r h1 hg acc o (most - r.sum + 1) (by omega) x9 x10
    rw [exm_ext most g r h2] at e1 hel
    obtain ⟨y7, y8, y9, e2⟩ := in11 j ts l most hmo gs0 Rd gp hg g o R (acc ++ (ext most g r).map (sD (gp ++ [g]))) (.val (.int (r.sum : Int))) (.val (tD (figRow gp r))) z9 x10 (fun q hq => hr q (List.mem_cons_of_mem _ hq)) (by rw [List.length_append, List.length_map]; omega)
    refine ⟨y7, y8, y9, ?_⟩
    rw [List.flatMap_cons, List.map_append, ← List.append_assoc]
    refine forM_step ?_ e2
    have er : evE (C j) (.bi .range [(.op2 .add (.op2 .sub (.var 2) (.var 7)) (.cst (.int 1)))]) (E11 ts l most gs0 Rd g acc (.val (.int (r.sum : Int))) (.val (tD (figRow gp r))) x9 x10) o = .ok (.lst (RI (most - r.sum + 1))) o := ev_rangeN (ev_op2 (ev_op2 (ev_var rfl) (ev_var rfl) (subN h2)) ev_cst (addN _ 1)) (by rw [cap_v']; omega)
    exact stp (st_forI er e1) (evSs_nil' _ _ _)
theorem out11 (j : Nat) (ts : List Int) (l : Int) (most : Nat) (hmo : most < 4) (gs0 : List Nat) (o : Or) : ∀ (gs gp : List Nat) (R : List (List Nat)) (x5 x6 x7 x8 x9 x10 : Sl), (∀ r ∈ R, r.length = gp.length ∧ r.sum ≤ most) → gp.length + gs.length ≤ 6 → R.length ≤ 4 ^ gp.length → ∃ y5 y6 y7 y8 y9 y10, forM (fun x ρ o => evSs (C j) b11 (setS ρ 5 (.val x)) o) (mL gs) [.val (TI ts), .val (.int l), .val (.int (most : Int)), .val (.tup (mL gs0)), .val (.lst (R.map (sD gp))), x5, x6, x7, x8, x9, x10] o = .nx [.val (TI ts), .val (.int l), .val (.int (most : Int)), .val (.tup (mL gs0)), .val (.lst ((sentR most gs R).map (sD (gp ++ gs)))), y5, y6, y7, y8, y9, y10] o
  | [], gp, R, x5, x6, x7, x8, x9, x10, _, _, _ => ⟨x5, x6, x7, x8, x9, x10, by rw [List.append_nil]; rfl⟩
  | g :: gs, gp, R, x5, x6, x7, x8, x9, x10, hR, hn, hl => by
    rw [List.length_cons] at hn
    have hp : 4 ^ gp.length ≤ 4 ^ 6 := Nat.pow_le_pow_right (by decide) (by omega)
    obtain ⟨z7, z8, z9, e⟩ := in11 j ts l most hmo gs0 (R.map (sD gp)) gp (by omega) g o R [] x7 x8 x9 x10 hR (by simp at hp ⊢; omega)
    rw [List.nil_append] at e
    have hR' : ∀ r ∈ R.flatMap (ext most g), r.length = (gp ++ [g]).length ∧ r.sum ≤ most := fun r hr => by
      have := sent_ok most [g] gp.length R hR r hr
      simpa using this
    obtain ⟨y5, y6, y7, y8, y9, y10, e2⟩ := out11 j ts l most hmo gs0 o gs (gp ++ [g]) (R.flatMap (ext most g)) (.val (.int (g : Int))) (.val (.lst ((R.flatMap (ext most g)).map (sD (gp ++ [g]))))) z7 z8 z9 x10 hR' (by simp; omega) (by have := flat_len most g hmo R; rw [List.length_append, List.length_singleton, Nat.pow_succ]; omega)
    rw [List.append_assoc] at e2
    refine ⟨y5, y6, y7, y8, y9, y10, forM_step ?_ e2⟩
    exact stp (st_setO (ev_lst evs_nil)) (stp (st_for (ev_var rfl) e) (stp (show evS _ (.frz 6) (E11 ts l most gs0 (R.map (sD gp)) g ((R.flatMap (ext most g)).map (sD (gp ++ [g]))) z7 z8 z9 x10) o = _ from rfl) (stp (st_set (ev_var rfl)) (evSs_nil' _ _ _))))
theorem s11 (j : Nat) (ts : List Int) (ht : ts.length ≤ 1000) (l : Int) (most : Nat) (h1 : most < 4) (h2 : (grp l ts).length < 6) (o : Or) : C (j + 2) 11 [TI ts, .int l, .int (most : Int)] o = .ok (sentV most (grp l ts)) o := by
  have e5 := s5 j ts ht l o
  obtain ⟨y5, y6, y7, y8, y9, y10, L⟩ := out11 (j + 1) ts l most h1 (grp l ts) o (grp l ts) [] [[]] .un .un .un .un .un .un (by simp) (by simp; omega) (by simp)
  obtain ⟨c1, c2⟩ := sset_sent h1 h2
  have ec := ev_compPm (C := C (j + 1)) (ρ := [.val (TI ts), .val (.int l), .val (.int (most : Int)), .val (.tup (mL (grp l ts))), .val (.lst ((sentR most (grp l ts) [[]]).map (sD ([] ++ grp l ts)))), y5, y6, y7, y8, y9, y10]) (o := o) (pt := .tup [(.slot 10), (.slot 8)]) (s := .var 4) (e := .var 8) (ks := sentR most (grp l ts) [[]]) (g0 := sD ([] ++ grp l ts)) (f := fun r => tD (figRow (grp l ts) r)) (ρ1 := fun r => [.val (TI ts), .val (.int l), .val (.int (most : Int)), .val (.tup (mL (grp l ts))), .val (.lst ((sentR most (grp l ts) [[]]).map (sD ([] ++ grp l ts)))), y5, y6, y7, .val (tD (figRow ([] ++ grp l ts) r)), y9, .val (.int (r.sum : Int))]) (seq_lst (ev_var rfl)) (fun r _ => rfl) (fun r _ => ev_var rfl)
  exact call_rt rfl (stp (st_set (ev_call2 (ev_var rfl) (ev_var rfl) e5)) (stp (st_set (ev_lst (evs_cons (ev_tup (evs_cons ev_cst (evs_cons (ev_tup evs_nil) evs_nil))) evs_nil))) (stp (st_forT (ev_var rfl) L) (stR (st_ret (ev_bi1 (ev_bi1 ec c2) c1))))))
end Lk51

end
/-! text: k51_M7.lean -/
section
set_option autoImplicit false
set_option maxRecDepth 100000
namespace Lk51
open BV
/-! is_dialled -/
def bad (g s x : Int) : Bool := decide (s < (if x - g < 0 then -(x - g) else x - g)) && decide (x ≤ 2 * g)
def b13 : List IS := [.set (.slot 4) (.op2 .sub (.op2 .ix (.var 0) (.op2 .add (.var 3) (.cst (.int 1)))) (.op2 .ix (.var 0) (.var 3))),
    .ifs (.and (.op2 .gt (.bi .abs [(.op2 .sub (.var 4) (.var 1))]) (.var 2)) (.op2 .le (.var 4) (.op2 .mul (.cst (.int 2)) (.var 1)))) [.ret (.cst (.bool false))] []]
theorem badE {C : Nat → List D → Or → R D} {ρ : Env} {o : Or} {i a b : Nat} {g s x : Int} (hi : getS ρ i = .val (.int x)) (ha : getS ρ a = .val (.int g)) (hb : getS ρ b = .val (.int s)) (hg0 : 0 ≤ g) (hg1 : g ≤ 1000) : evE C (.and (.op2 .gt (.bi .abs [(.op2 .sub (.var i) (.var a))]) (.var b)) (.op2 .le (.var i) (.op2 .mul (.cst (.int 2)) (.var a)))) ρ o = .ok (.bool (bad g s x)) o :=
  ev_and2 (ev_op2 (ev_bi1 (ev_op2 (ev_var hi) (ev_var ha) (op2_sub_int _ _)) (bi_abs _)) (ev_var hb) (op2_gt_int _ _)) (fun _ => ev_op2 (ev_var hi) (ev_op2 ev_cst (ev_var ha) (mulB hg0 hg1)) (op2_le_int _ _))
theorem s13 (j : Nat) (ts : List Int) (ht : ts.length ≤ 64) (g s : Int) (hg0 : 0 ≤ g) (hg1 : g ≤ 1000) (o : Or) : C (j + 3) 13 [TI ts, .int g, .int s] o = .ok (.bool (!((gapsL ts).any (bad g s)) && decide (1 ≤ g))) o := by
  have F := forM_find (f := fun x ρ o => evSs (C (j + 2)) b13 (setS ρ 3 (.val x)) o) (p := fun k => bad g s (ts.getD (k + 1) 0 - ts.getD k 0)) (r := fun _ => .bool false) (I := fun ρ => ∃ x3 x4, ρ = [.val (TI ts), .val (.int g), .val (.int s), x3, x4]) (o := o) (fun k : Nat => D.int (k : Int)) (List.range (ts.length - 1)) (fun k hk ρ ⟨x3, x4, hρ⟩ => by
    subst hρ
    have hk' := List.mem_range.mp hk
    have e1 : evS (C (j + 2)) (.set (.slot 4) (.op2 .sub (.op2 .ix (.var 0) (.op2 .add (.var 3) (.cst (.int 1)))) (.op2 .ix (.var 0) (.var 3)))) [.val (TI ts), .val (.int g), .val (.int s), .val (.int (k : Int)), x4] o = .nx [.val (TI ts), .val (.int g), .val (.int s), .val (.int (k : Int)), .val (.int (ts.getD (k + 1) 0 - ts.getD k 0))] o := st_set (ev_op2 (ev_op2 (ev_var rfl) (ev_op2 (ev_var rfl) ev_cst (addN k 1)) (ix_at (by omega))) (ev_op2 (ev_var rfl) (ev_var rfl) (ix_at (by omega))) (op2_sub_int _ _))
    have e2 : ∀ q, bad g s (ts.getD (k + 1) 0 - ts.getD k 0) = q → evE (C (j + 2)) (.and (.op2 .gt (.bi .abs [(.op2 .sub (.var 4) (.var 1))]) (.var 2)) (.op2 .le (.var 4) (.op2 .mul (.cst (.int 2)) (.var 1)))) [.val (TI ts), .val (.int g), .val (.int s), .val (.int (k : Int)), .val (.int (ts.getD (k + 1) 0 - ts.getD k 0))] o = .ok (.bool q) o := fun q hq => by rw [← hq]; exact badE rfl rfl rfl hg0 hg1
    by_cases h : bad g s (ts.getD (k + 1) 0 - ts.getD k 0) = true
    · rw [if_pos h]
      exact stp e1 (stR (ifT (e2 true h) (stR (st_ret ev_cst))))
    · rw [if_neg h]
      rw [Bool.not_eq_true] at h
      exact ⟨_, stp e1 (stp (ifF (e2 false h) (evSs_nil' _ _ _)) (evSs_nil' _ _ _)), _, _, rfl⟩) (ρ := [.val (TI ts), .val (.int g), .val (.int s), .un, .un]) ⟨.un, .un, rfl⟩
  have er := rng_m1 (C := C (j + 2)) (ρ := [.val (TI ts), .val (.int g), .val (.int s), .un, .un]) (o := o) (i := 0) rfl (show ts.length ≤ 1000 by omega)
  have hany : (gapsL ts).any (bad g s) = ((List.range (ts.length - 1)).find? fun k => bad g s (ts.getD (k + 1) 0 - ts.getD k 0)).isSome := by
    rw [Bool.eq_iff_iff, List.any_eq_true, List.find?_isSome]
    constructor
    · rintro ⟨x, hx, hb⟩
      obtain ⟨k, hk, rfl⟩ := List.mem_map.mp ((ssetL_mem _ _).mp hx)
      exact ⟨k, hk, hb⟩
    · rintro ⟨k, hk, hb⟩
      exact ⟨_, (ssetL_mem _ _).mpr (List.mem_map.mpr ⟨k, hk, rfl⟩), hb⟩
  rw [hany]
  cases hf : (List.range (ts.length - 1)).find? fun k => bad g s (ts.getD (k + 1) 0 - ts.getD k 0) with
  | some k =>
    rw [hf] at F
    exact call_rt rfl (stR (st_forI er F))
  | none =>
    rw [hf] at F
    obtain ⟨ρ', e, x3, x4, rfl⟩ := F
    have e1 : C (j + 2) 1 [.int g, .int 1] o = .ok (.bool (decide (1 ≤ g))) o := by
      have e0 : C (j + 1) 0 [.int g] o = .ok (.bool true) o := rfl
      exact call_rt rfl (stR (st_ret (ev_andT (ev_call1 (ev_var rfl) e0) (ev_op2 (ev_var rfl) (ev_var rfl) (op2_ge_int _ _)))))
    exact call_rt rfl (stp (st_forI er e) (stR (st_ret (ev_call2 (ev_var rfl) ev_cst e1))))
/-! are_pulses -/
def incB (ns : List Int) : Bool := (List.range (ns.length - 1)).all fun k => decide (ns.getD k 0 < ns.getD (k + 1) 0)
theorem incB_up : ∀ ns : List Int, incB ns = true ↔ ns.Pairwise (· < ·) := fun ns => by
  rw [incB, List.all_eq_true]
  constructor
  · intro h
    have step : ∀ k, k + 1 < ns.length → ns.getD k 0 < ns.getD (k + 1) 0 := fun k hk => of_decide_eq_true (h k (List.mem_range.mpr (by omega)))
    have mono : ∀ d k, k + d + 1 < ns.length → ns.getD k 0 < ns.getD (k + d + 1) 0 := fun d => by
      induction d with
      | zero => exact fun k hk => step k hk
      | succ d ih => exact fun k hk => Int.lt_trans (ih k (by omega)) (step (k + d + 1) hk)
    refine List.pairwise_iff_getElem.mpr fun i j hi hj hij => ?_
    have := mono (j - i - 1) i (by omega)
    rw [show i + (j - i - 1) + 1 = j by omega, List.getD_eq_getElem?_getD, List.getD_eq_getElem?_getD, List.getElem?_eq_getElem hi, List.getElem?_eq_getElem hj] at this
    exact this
  · intro h k hk
    have hk' := List.mem_range.mp hk
    refine decide_eq_true ?_
    rw [List.getD_eq_getElem?_getD, List.getD_eq_getElem?_getD, List.getElem?_eq_getElem (by omega), List.getElem?_eq_getElem (by omega)]
    exact List.pairwise_iff_getElem.mp h k (k + 1) (by omega) (by omega) (by omega)
theorem incB_sset (ns : List Int) : incB ns = decide (ns = ssetL ns) := by
  rw [Bool.eq_iff_iff, incB_up, decide_eq_true_iff]
  exact ⟨fun h => ssetL_eq h fun k => Iff.rfl, fun h => by rw [h]; exact ssetL_up ns⟩
theorem nums_ok (j : Nat) (ns : List Int) (o : Or) : C (j + 2) 2 [TI ns] o = .ok (.bool true) o := by
  have e := ev_compAm (C := C (j + 1)) (ρ := [.val (TI ns), .un]) (o := o) (i := 1) (s := .var 0) (e := (.call 0 [(.var 1)])) (ks := ns) (g0 := D.int) (f := fun _ => .bool true) (seq_tup (ev_var rfl)) (fun n _ => ev_call1 (ev_var rfl) (show C (j + 1) 0 [.int n] o = _ from rfl))
  have hm : ns.map (fun _ => D.bool true) = (ns.map fun _ => true).map D.bool := by rw [List.map_map]; rfl
  rw [hm] at e
  have ha : (ns.map fun _ => true).all id = true := by rw [List.all_eq_true]; intro x hx; obtain ⟨_, _, rfl⟩ := List.mem_map.mp hx; rfl
  have e2 := ev_bi1 e (bi_all _)
  rw [ha] at e2
  exact call_rt rfl (stR (st_ret (ev_andT (ev_bi1 (ev_var rfl) (bi_isT rfl)) e2)))
theorem s4 (j : Nat) (ns : List Int) (hl : ns.length ≤ 1000) (o : Or) : C (j + 3) 4 [TI ns] o = .ok (.bool (incB ns)) o := by
  have e := ev_comp (C := C (j + 2)) (ρ := [.val (TI ns), .un]) (o := o) (i := 1) (n := ns.length - 1) (s := (.bi .range [(.op2 .sub (.bi .len [(.var 0)]) (.cst (.int 1)))])) (e := (.op2 .lt (.op2 .ix (.var 0) (.var 1)) (.op2 .ix (.var 0) (.op2 .add (.var 1) (.cst (.int 1)))))) (g := fun k => .bool (decide (ns.getD k 0 < ns.getD (k + 1) 0))) (rng_m1 rfl hl) (fun k hk => ev_op2 (ev_op2 (ev_var rfl) (ev_var rfl) (ix_at (by omega))) (ev_op2 (ev_var rfl) (ev_op2 (ev_var rfl) ev_cst (addN k 1)) (ix_at (by omega))) (op2_lt_int _ _))
  have hm : (List.range (ns.length - 1)).map (fun k => D.bool (decide (ns.getD k 0 < ns.getD (k + 1) 0))) = ((List.range (ns.length - 1)).map fun k => decide (ns.getD k 0 < ns.getD (k + 1) 0)).map D.bool := by rw [List.map_map]; rfl
  rw [hm] at e
  have e2 := ev_bi1 e (bi_all _)
  have hi : ((List.range (ns.length - 1)).map fun k => decide (ns.getD k 0 < ns.getD (k + 1) 0)).all id = incB ns := by rw [List.all_map]; rfl
  rw [hi] at e2
  exact call_rt rfl (stR (st_ret (ev_andT (ev_call1 (ev_var rfl) (nums_ok j ns o)) e2)))
/-! _law_times -/
theorem nxt (m : Int) (k : Nat) (o : Or) (hm : 0 < m) : ∃ (v : Nat) (o' : Or), (v : Int) < m ∧ C (k + 1) 15 [.tok, .int m] o = .ok (.int v) o' := nxI rfl k m o hm
theorem pick59 (k : Nat) (rows : List D) (hr : 0 < rows.length) (o : Or) : ∃ (j : Nat) (hj : j < rows.length) (o' : Or), C (k + 2) 16 [.tok, .lst rows] o = .ok rows[j] o' := pickN (n := 15) rfl rfl k rows hr o
/-- rising, from 0, not long -/
def Tm (ts : List Int) : Prop := ts.Pairwise (· < ·) ∧ ts.length ≤ 40 ∧ ∀ t ∈ ts, 0 ≤ t ∧ t ≤ 1000
theorem run_up (g : Int) (hg : 0 < g) (m : Nat) (t : Int) : (run t g m).Pairwise (· < ·) ∧ ∀ x ∈ run t g m, t ≤ x ∧ x ≤ t + ((m : Int) - 1) * g := by
  refine ⟨?_, fun x hx => ?_⟩
  · rw [run, List.pairwise_map]
    refine List.pairwise_lt_range.imp fun h => ?_
    have := Int.mul_lt_mul_of_pos_right (Int.ofNat_lt.mpr h) hg
    exact Int.add_lt_add_left this t
  · obtain ⟨k, hk, rfl⟩ := List.mem_map.mp hx
    have hk' := List.mem_range.mp hk
    have h1 : 0 ≤ (k : Int) * g := Int.mul_nonneg (by omega) (by omega)
    have h2 : (k : Int) * g ≤ ((m : Int) - 1) * g := Int.mul_le_mul_of_nonneg_right (by omega) (by omega)
    omega
theorem pl_up (g w : Int) (hg : 0 < g) (hg4 : g ≤ 4) (hw : 0 < w) (hw1 : w ≤ 14) : ∀ (ds : List Nat) (t : Int), (∀ d ∈ ds, d ≤ 9) → (pl g w t ds).Pairwise (· < ·) ∧ (pl g w t ds).length ≤ 10 * ds.length ∧ ∀ x ∈ pl g w t ds, t ≤ x ∧ x ≤ t + 50 * ds.length
  | [], t, _ => by simp [pl]
  | d :: ds, t, hd => by
    have h1 := mny_pos d
    have h2 : mny d ≤ 10 := by have := hd d (by simp); unfold mny; split <;> omega
    have hm : ((mny d : Int) - 1) * g ≤ 9 * 4 := Int.mul_le_mul (by omega) hg4 (by omega) (by decide)
    have hm0 : 0 ≤ ((mny d : Int) - 1) * g := Int.mul_nonneg (by omega) (by omega)
    obtain ⟨r1, r2⟩ := run_up g hg (mny d) t
    obtain ⟨i1, i2, i3⟩ := pl_up g w hg hg4 hw hw1 ds (t + ((mny d : Int) - 1) * g + w) (fun x hx => hd x (by simp [hx]))
    rw [pl]
    refine ⟨List.pairwise_append.mpr ⟨r1, i1, fun a ha b hb => ?_⟩, ?_, fun x hx => ?_⟩
    · have := r2 a ha; have := i3 b hb; omega
    · rw [List.length_append, run_len, List.length_cons]; omega
    · rw [List.length_cons]
      rcases List.mem_append.mp hx with hx | hx
      · have := r2 x hx; omega
      · have := i3 x hx; omega
def b23 : List IS := [.app 1 (.var 2),
    .set (.slot 2) (.op2 .add (.op2 .add (.var 2) (.cst (.int 1))) (.call 16 [(.var 0), (.lst [(.cst (.int 0)), (.cst (.int 1)), (.cst (.int 1)), (.call 15 [(.var 0), (.cst (.int 9))])])]))]
theorem loop23 (o : Or) : ∀ (n : Nat) (xs : List D), xs.length = n → ∀ (o : Or) (acc : List Int) (t : Int) (x3 x4 x5 : Sl), acc.Pairwise (· < ·) → (∀ x ∈ acc, 0 ≤ x ∧ x < t) → 0 ≤ t → acc.length + n ≤ 1000 → ∃ (acc' : List Int) (t' : Int) (y3 : Sl) (o' : Or), forM (fun x ρ o => evSs (C 59) b23 (setS ρ 3 (.val x)) o) xs [.val .tok, .own (LI acc), .val (.int t), x3, x4, x5] o = .nx [.val .tok, .own (LI acc'), .val (.int t'), y3, x4, x5] o' ∧ acc'.Pairwise (· < ·) ∧ (∀ x ∈ acc', 0 ≤ x ∧ x ≤ t + 10 * n ∧ x < t') ∧ acc'.length = acc.length + n
  | _, [], rfl, o, acc, t, x3, x4, x5, h1, h2, h3, _ => ⟨acc, t, x3, o, rfl, h1, fun x hx => by have := h2 x hx; simp only [List.length_nil]; omega, rfl⟩
  | _, x :: xs, rfl, o, acc, t, x3, x4, x5, h1, h2, h3, h4 => by
    obtain ⟨v, o1, hv, e1⟩ := nxt 9 58 o (by decide)
    obtain ⟨i, hi, o2, e2⟩ := pick59 57 ([0, 1, 1, v].map fun n : Nat => D.int (n : Int)) (by simp) o1
    obtain ⟨m, hm, hm9⟩ := nat_pick (rows := [0, 1, 1, v]) (P := fun n => n ≤ 8) (by simp; omega) hi
    rw [hm] at e2
    have e2' : C 59 16 [.tok, .lst [.int 0, .int 1, .int 1, .int (v : Int)]] o1 = .ok (.int (m : Int)) o2 := e2
    have hstep : evSs (C 59) b23 (setS [.val .tok, .own (LI acc), .val (.int t), x3, x4, x5] 3 (.val x)) o = .nx [.val .tok, .own (LI (acc ++ [t])), .val (.int (t + 1 + (m : Int))), .val x, x4, x5] o2 :=
      stp (app_int (ds := acc) rfl (ev_var rfl) (by rw [cap_v']; omega)) (stp (st_set (ev_op2 (ev_op2 (ev_var rfl) ev_cst (op2_add_int _ _)) (ev_call2 (ev_var rfl) (ev_lst (evs_cons ev_cst (evs_cons ev_cst (evs_cons ev_cst (evs_cons (ev_call2 (ev_var rfl) ev_cst e1) evs_nil))))) e2') (op2_add_int _ _))) (evSs_nil' _ _ _))
    rw [List.length_cons] at h4
    obtain ⟨acc', t', y3, o', e, p1, p2, p3⟩ := loop23 o xs.length xs rfl o2 (acc ++ [t]) (t + 1 + (m : Int)) (.val x) x4 x5 (List.pairwise_append.mpr ⟨h1, List.pairwise_singleton _ _, fun a ha b hb => by simp at hb; have := h2 a ha; omega⟩) (fun y hy => by
        rcases List.mem_append.mp hy with hy | hy
        · have := h2 y hy; omega
        · simp at hy; omega) (by omega) (by simp; omega)
    refine ⟨acc', t', y3, o', forM_step hstep e, p1, fun y hy => ?_, by rw [p3]; simp; omega⟩
    have := p2 y hy
    rw [List.length_cons]; omega
theorem s23 (o : Or) : ∃ (ts : List Int) (o' : Or), Tm ts ∧ C 60 23 [.tok] o = .ok (TI ts) o' := by
  obtain ⟨v, o1, hv, e1⟩ := nxt 3 58 o (by decide)
  have ec : ∀ q, decide ((v : Int) = 0) = q → evE (C 59) (.op2 .eq (.call 15 [(.var 0), (.cst (.int 3))]) (.cst (.int 0))) [.val .tok, .un, .un, .un, .un, .un] o = .ok (.bool q) o1 := fun q hq => by rw [← hq]; exact ev_op2 (ev_call2 (ev_var rfl) ev_cst e1) ev_cst (op2_eq_int _ _)
  by_cases h : (v : Int) = 0
  · obtain ⟨t, o2, ht, e2⟩ := nxt 5 58 o1 (by decide)
    obtain ⟨n, o3, hn, e3⟩ := nxt 12 58 o2 (by decide)
    obtain ⟨acc, t', y3, o4, L, p1, p2, p3⟩ := loop23 o3 n (RI n) (by simp [RI]) o3 [] (t : Int) .un .un .un List.Pairwise.nil (by simp) (by omega) (by simp; omega)
    refine ⟨acc, o4, ⟨p1, by rw [p3]; simp; omega, fun x hx => by have := p2 x hx; omega⟩, ?_⟩
    exact call_rt rfl (stR (ifT (ec true (decide_eq_true h)) (stp (st_par (evs_cons (ev_lst evs_nil) (evs_cons (ev_call2 (ev_var rfl) ev_cst e2) evs_nil)) rfl) (stp (st_forI (ev_rangeN (ev_call2 (ev_var rfl) ev_cst e3) (by rw [cap_v']; omega)) L) (stR (st_ret (ev_bi1 (ev_pkO rfl) (bi_tuple_lst _))))))))
  · obtain ⟨g, o2, hg, e2⟩ := nxt 4 58 o1 (by decide)
    obtain ⟨n, o3, hn, e3⟩ := nxt 5 58 o2 (by decide)
    have hE := ev_compDr (C := C 59) (ρ := [.val .tok, .un, .un, .un, .val (.int ((1 + g : Nat) : Int)), .un]) (o := o2) (o1 := o3) (i := 3) (s := (.bi .range [(.call 15 [(.var 0), (.cst (.int 5))])])) (e := (.call 15 [(.var 0), (.cst (.int 10))])) (xs := RI n) (f := fun n : Nat => D.int (n : Int)) (P := fun d => d ≤ 9) (seq_lst (ev_rangeN (ev_call2 (ev_var rfl) ev_cst e3) (by rw [cap_v']; omega))) (fun x _ o => by
      obtain ⟨d, o', hd, e⟩ := nxt 10 58 o (by decide)
      exact ⟨d, o', ev_call2 (ev_var rfl) ev_cst e, by omega⟩)
    obtain ⟨ds, o4, e4, hdl, hd9⟩ := hE
    rw [show (RI n).length = n by simp [RI]] at hdl
    obtain ⟨u, o5, hu, e5⟩ := nxt 9 58 o4 (by decide)
    have e18 := s18L 58 ds hd9 (by omega) ((1 + g : Nat) : Int) ((1 + g + 1 + u : Nat) : Int) (by omega) (by omega) o5
    obtain ⟨q1, q2, q3⟩ := pl_up ((1 + g : Nat) : Int) ((1 + g + 1 + u : Nat) : Int) (by omega) (by omega) (by omega) (by omega) ds 0 hd9
    have hF := ev_compDf (C := C 59) (ρ := [.val .tok, .un, .un, .un, .val (.int ((1 + g : Nat) : Int)), .val (TI (pl ((1 + g : Nat) : Int) ((1 + g + 1 + u : Nat) : Int) 0 ds))]) (o := o5) (o1 := o5) (i := 2) (s := .var 5) (c := (.op2 .gt (.call 15 [(.var 0), (.cst (.int 12))]) (.cst (.int 0)))) (xs := (pl ((1 + g : Nat) : Int) ((1 + g + 1 + u : Nat) : Int) 0 ds).map D.int) (seq_tup (ev_var rfl)) (fun x o => by
      obtain ⟨d, o', hd, e⟩ := nxt 12 58 o (by decide)
      exact ⟨_, o', ev_op2 (ev_call2 (ev_var rfl) ev_cst e) ev_cst (op2_gt_int _ _)⟩) (fun x => rfl)
    obtain ⟨ys, o6, e6, hsub⟩ := hF
    obtain ⟨ts, hts, rfl⟩ := List.sublist_map_iff.mp hsub
    refine ⟨ts, o6, ⟨q1.sublist hts, by have := hts.length_le; omega, fun x hx => by have := q3 x (hts.subset hx); omega⟩, ?_⟩
    refine call_rt rfl (stp (ifF (ec false (decide_eq_false h)) (evSs_nil' _ _ _)) (stp (st_set (ev_op2 ev_cst (ev_call2 (ev_var rfl) ev_cst e2) (addN 1 g))) (stp (st_set (ev_call3 e4 (ev_var rfl) (ev_op2 (ev_op2 (ev_var rfl) ev_cst (addN _ 1)) (ev_call2 (ev_var rfl) ev_cst e5) (addN _ _)) e18)) (stR (st_ret (ev_bi1 e6 (bi_tuple_lst _)))))))
end Lk51

end
/-! text: k51_M8.lean -/
section
set_option autoImplicit false
set_option maxRecDepth 100000
namespace Lk51
open BV
def bT : List IS := [.par [(3, false), (4, false), (5, false)] [(.bi .tuple [(.comp (.slot 21) (.bi .range [(.call 15 [(.var 1), (.cst (.int 6))])]) (.cst (.bool true)) (.call 15 [(.var 1), (.cst (.int 10))]))]), (.op2 .add (.cst (.int 1)) (.call 15 [(.var 1), (.cst (.int 9))])), (.op2 .add (.cst (.int 1)) (.call 15 [(.var 1), (.cst (.int 20))]))],
    .set (.slot 6) (.lst [(.call 18 [(.var 3), (.var 4), (.var 5)]), (.bi .sum [(.comp (.slot 22) (.var 3) (.cst (.bool true)) (.op2 .add (.var 22) (.op2 .mul (.cst (.int 10)) (.bi .int [(.op2 .eq (.var 22) (.cst (.int 0)))]))))])]),
    .ifs (.op1 .not (.call 17 [(.lst [(.call 3 [(.var 3), (.var 4), (.var 5)]), (.call 12 [(.var 3)])]), (.var 6)])) [.ret (.cst (.bool false))] [],
    .ifs (.and (.op2 .gt (.var 5) (.var 4)) (.op1 .not (.call 17 [(.call 7 [(.op2 .ix (.var 6) (.cst (.int 0))), (.op2 .add (.var 4) (.cst (.int 1)))]), (.var 3)]))) [.ret (.cst (.bool false))] [],
    .set (.slot 7) (.call 23 [(.var 1)]),
    .par [(8, false), (9, false)] [(.call 21 [(.var 7)]), (.op2 .add (.cst (.int 1)) (.call 15 [(.var 1), (.cst (.int 14))]))],
    .set (.slot 10) (.call 19 [(.var 7), (.var 9)]),
    .ifs (.op1 .not (.call 17 [(.lst [(.call 8 [(.var 7)]), (.call 5 [(.var 7), (.var 9)]), (.call 6 [(.var 10)]), (.call 7 [(.var 7), (.var 9)]), (.call 4 [(.var 7)])]), (.lst [(.var 8), (.var 10), (.call 20 [(.var 10)]), (.call 20 [(.var 10)]), (.cst (.bool true))])])) [.ret (.cst (.bool false))] [],
    .set (.slot 11) (.tup [(.cst (.int 1))]),
    .ifs (.op2 .ne (.var 8) (.tup [])) [.set (.slot 11) (.op2 .add (.var 8) (.tup [(.op2 .add (.op2 .ix (.var 8) (.op2 .sub (.bi .len [(.var 8)]) (.cst (.int 1)))) (.cst (.int 1)))]))] [],
    .set (.slot 12) (.comp (.slot 19) (.var 11) (.cst (.bool true)) (.tup [(.var 19), (.call 20 [(.call 19 [(.var 7), (.var 19)])])])),
    .set (.slot 12) (.comp (.slot 20) (.var 12) (.op2 .isNot (.op2 .ix (.var 20) (.cst (.int 1))) (.cst .non)) (.var 20)),
    .ifs (.op1 .not (.call 17 [(.call 9 [(.var 7)]), (.bi .tuple [(.var 12)])])) [.ret (.cst (.bool false))] [],
    .set (.slot 3) (.call 16 [(.var 1), (.op2 .add (.lst [(.var 3), (.tup []), (.tup [(.bi .len [(.var 7)])])]) (.comp (.slot 20) (.var 12) (.cst (.bool true)) (.op2 .ix (.var 20) (.cst (.int 1)))))]),
    .set (.slot 13) (.comp (.slot 19) (.bi .range [(.cst (.int 1)), (.op2 .add (.op2 .ix (.var 11) (.op2 .sub (.bi .len [(.var 11)]) (.cst (.int 1)))) (.cst (.int 2)))]) (.op2 .eq (.call 20 [(.call 19 [(.var 7), (.var 19)])]) (.var 3)) (.var 19)),
    .set (.slot 14) (.cst .non),
    .ifs (.op2 .ne (.var 13) (.lst [])) [.set (.slot 14) (.tup [(.op2 .ix (.var 13) (.cst (.int 0))), (.op2 .ix (.lst [(.op2 .ix (.var 13) (.op2 .sub (.bi .len [(.var 13)]) (.cst (.int 1)))), (.cst .non)]) (.bi .int [(.op2 .gt (.op2 .ix (.var 13) (.op2 .sub (.bi .len [(.var 13)]) (.cst (.int 1)))) (.op2 .ix (.var 11) (.op2 .sub (.bi .len [(.var 11)]) (.cst (.int 1)))))]))])] [],
    .ifs (.op1 .not (.call 17 [(.call 10 [(.var 7), (.var 3)]), (.var 14)])) [.ret (.cst (.bool false))] [],
    .set (.slot 15) (.call 15 [(.var 1), (.cst (.int 4))]),
    .ifs (.and (.op2 .lt (.bi .len [(.var 10)]) (.cst (.int 6))) (.op1 .not (.call 17 [(.call 11 [(.var 7), (.var 9), (.var 15)]), (.call 22 [(.var 10), (.var 15)])]))) [.ret (.cst (.bool false))] [],
    .par [(4, false), (16, false)] [(.call 15 [(.var 1), (.cst (.int 6))]), (.call 15 [(.var 1), (.cst (.int 4))])],
    .set (.slot 6) (.and (.op2 .gt (.var 4) (.cst (.int 0))) (.op2 .eq (.comp (.slot 19) (.var 8) (.and (.op2 .gt (.bi .abs [(.op2 .sub (.var 19) (.var 4))]) (.var 16)) (.op2 .le (.var 19) (.op2 .mul (.cst (.int 2)) (.var 4)))) (.var 19)) (.lst []))),
    .ifs (.op1 .not (.call 17 [(.call 13 [(.var 7), (.var 4), (.var 16)]), (.var 6)])) [.ret (.cst (.bool false))] [],
    .for_ (.slot 17) (.lst [(.op2 .add (.var 7) (.slice (.var 7) (.op1 .chkI (.op1 .neg (.cst (.int 1)))) (.cst .non))), (.bi .rev [(.var 7)]), (.bi .list [(.var 7)]), (.cst .non), (.tup [(.cst (.int 1)), (.cst (.bool true))]), (.tup [(.cst (.int 2)), (.cst (.str [51]))]), (.tup [(.op1 .neg (.cst (.int 5))), (.cst (.int 0))])]) [.set (.slot 6) (.and (.bi (.isT .tup) [(.var 17)]) (.op2 .eq (.comp (.slot 19) (.var 17) (.or (.op1 .not (.bi (.isT .int) [(.var 19)])) (.bi (.isT .bool) [(.var 19)])) (.var 19)) (.lst []))),
    .ifs (.var 6) [.set (.slot 6) (.op2 .eq (.bi .list [(.var 17)]) (.bi .sset [(.var 17)]))] [],
    .ifs (.op1 .not (.call 17 [(.call 4 [(.var 17)]), (.var 6)])) [.ret (.cst (.bool false))] []]]
theorem list23 {l : Env} (h : l.length = 23) : ∃ a0 a1 a2 a3 a4 a5 a6 a7 a8 a9 a10 a11 a12 a13 a14 a15 a16 a17 a18 a19 a20 a21 a22, l = [a0, a1, a2, a3, a4, a5, a6, a7, a8, a9, a10, a11, a12, a13, a14, a15, a16, a17, a18, a19, a20, a21, a22] := by
  match l, h with
  | [a0, a1, a2, a3, a4, a5, a6, a7, a8, a9, a10, a11, a12, a13, a14, a15, a16, a17, a18, a19, a20, a21, a22], _ => exact ⟨_, _, _, _, _, _, _, _, _, _, _, _, _, _, _, _, _, _, _, _, _, _, _, rfl⟩
theorem TI_nil (l : List Int) : eqO (TI l) (.tup []) = some l.isEmpty := by rw [TI, eqO_nilT (ok_ints 59 _), isEmpty_map]
theorem last_at {l : List Int} {z : Int} (h : l.getLast? = some z) : op2 .ix (TI l) (.int ((l.length - 1 : Nat) : Int)) = some (.int z) := by
  rw [TI, op2_ix_tup]
  refine atI_q ?_
  rw [List.getElem?_map, ← List.getLast?_eq_getElem?, h]; rfl
/-- x[len(x) - 1] -/
theorem lastE {C : Nat → List D → Or → R D} {ρ : Env} {o : Or} {i : Nat} {l : List Int} {z : Int} (hi : getS ρ i = .val (TI l)) (h : l.getLast? = some z) : evE C (.op2 .ix (.var i) (.op2 .sub (.bi .len [(.var i)]) (.cst (.int 1)))) ρ o = .ok (.int z) o := by
  have hl : 1 ≤ l.length := by cases l with | nil => cases h | cons _ _ => simp
  exact ev_op2 (ev_var hi) (ev_op2 (ev_bi1 (ev_var hi) (bi_len_TI l)) ev_cst (subN hl)) (last_at h)
theorem lastEL {C : Nat → List D → Or → R D} {ρ : Env} {o : Or} {i : Nat} {l : List Int} {z : Int} (hi : getS ρ i = .val (LI l)) (h : l[l.length - 1]? = some z) : evE C (.op2 .ix (.var i) (.op2 .sub (.bi .len [(.var i)]) (.cst (.int 1)))) ρ o = .ok (.int z) o := by
  have hl : 1 ≤ l.length := by cases l with | nil => cases h | cons _ _ => simp
  refine ev_op2 (ev_var hi) (ev_op2 (ev_bi1 (ev_var hi) (bi_len_LI l)) ev_cst (subN hl)) ?_
  rw [LI, op2_ix_lst]
  exact atI_q (by rw [List.getElem?_map, h]; rfl)
/-! marks -/
theorem mkG_last (G : List Int) : (mkG G).getLast? = some (mxM G) := by
  unfold mkG mxM
  cases G.getLast? with
  | none => rfl
  | some g => simp
theorem st_marks (ρ : Env) (o : Or) (G : List Int) (hG : G.length ≤ 1000) (h8 : getS ρ 8 = .val (TI G)) (h11 : ρ = setS ρ 11 (.val (TI [1]))) : evS (C 60) (.ifs (.op2 .ne (.var 8) (.tup [])) [.set (.slot 11) (.op2 .add (.var 8) (.tup [(.op2 .add (.op2 .ix (.var 8) (.op2 .sub (.bi .len [(.var 8)]) (.cst (.int 1)))) (.cst (.int 1)))]))] []) ρ o = .nx (setS ρ 11 (.val (TI (mkG G)))) o := by
  unfold mkG
  cases hl : G.getLast? with
  | none =>
    have : G = [] := List.getLast?_eq_none_iff.mp hl
    subst this
    simp only
    rw [← h11]
    exact ifF (ev_op2 (ev_var h8) (ev_tup evs_nil) (op2_ne (c := true) (TI_nil _))) (evSs_nil' _ _ _)
  | some g =>
    have hne : G.isEmpty = false := by cases G with | nil => cases hl | cons _ _ => rfl
    refine ifT (ev_op2 (ev_var h8) (ev_tup evs_nil) (op2_ne (c := false) (by rw [TI_nil, hne]))) (stp (st_set (ev_op2 (ev_var h8) (ev_tup (evs_cons (ev_op2 (lastE h8 hl) ev_cst (op2_add_int _ _)) evs_nil)) ?_)) (evSs_nil' _ _ _))
    rw [TI, op2_add_tup (by rw [List.length_map, cap_v']; simp only [List.length_cons, List.length_nil]; omega), TI, List.map_append]; rfl
/-! rows -/
def pD (ts : List Int) (g : Int) : D := .tup [.int g, fD (fg g ts)]
theorem ev_rows1 (ρ : Env) (o : Or) (ts G : List Int) (ht : ts.length ≤ 64) (h7 : getS ρ 7 = .val (TI ts)) (h11 : getS ρ 11 = .val (TI G)) (h19 : ∀ x, getS (setS ρ 19 x) 19 = x) : evE (C 60) (.comp (.slot 19) (.var 11) (.cst (.bool true)) (.tup [(.var 19), (.call 20 [(.call 19 [(.var 7), (.var 19)])])])) ρ o = .ok (.lst (G.map (pD ts))) o :=
  ev_compAm (ks := G) (g0 := D.int) (f := pD ts) (seq_tup (ev_var h11)) fun g _ => by
    have h7' : getS (setS ρ 19 (.val (.int g))) 7 = .val (TI ts) := by rw [getS_set_ne _ _ _ _ (by decide)]; exact h7
    exact ev_tup (evs_cons (ev_var (h19 _)) (evs_cons (ev_call1 (ev_call2 (ev_var h7') (ev_var (h19 _)) (s19 59 ts (by omega) g o)) (s20 59 _ o)) evs_nil))
theorem rows_filt (ts : List Int) : ∀ G : List Int, (G.filter fun g => (fg g ts).isSome).map (pD ts) = (G.filterMap (rowOf ts)).map rD
  | [] => rfl
  | g :: G => by
    have ih := rows_filt ts G
    rw [List.filter_cons, List.filterMap_cons]
    cases hf : fg g ts with
    | none =>
      rw [show rowOf ts g = none by rw [rowOf, hf]; rfl]
      simp only [Option.isSome_none, Bool.false_eq_true, if_false]
      exact ih
    | some f =>
      rw [show rowOf ts g = some (g, f) by rw [rowOf, hf]; rfl]
      simp only [Option.isSome_some, if_true, List.map_cons]
      rw [ih, pD, hf]; rfl
theorem ev_rows2 (ρ : Env) (o : Or) (ts G : List Int) (h12 : getS ρ 12 = .val (.lst (G.map (pD ts)))) (h20 : ∀ x, getS (setS ρ 20 x) 20 = x) : evE (C 60) (.comp (.slot 20) (.var 12) (.op2 .isNot (.op2 .ix (.var 20) (.cst (.int 1))) (.cst .non)) (.var 20)) ρ o = .ok (.lst ((G.filterMap (rowOf ts)).map rD)) o := by
  rw [← rows_filt]
  exact ev_compA (ks := G) (g0 := pD ts) (f := pD ts) (p := fun g => (fg g ts).isSome) (seq_lst (ev_var h12)) (fun g _ => by
    refine ev_op2 (ev_op2 (z := fD (fg g ts)) (ev_var (h20 _)) ev_cst rfl) ev_cst ?_
    cases fg g ts <;> rfl) (fun g _ _ => ev_var (h20 _))
/-! fits -/
theorem eqO_fD (x : Option (List Nat)) (ds : List Nat) : eqO (fD x) (tD ds) = some (decide (x = some ds)) := by
  cases x with
  | none =>
    have h2 : okN 60 (tD ds) = true := by
      show (mL ds).all (okN 59) = true
      rw [mL_nI]; exact ok_ints 59 _
    unfold eqO
    rw [show scalD (fD none) (tD ds) = false from rfl, show okN 60 (fD none) = true from rfl, h2]
    rfl
  | some l =>
    rw [fD, tD, eqO_mL]
    congr 1
    rw [decide_eq_decide, Option.some.injEq]
def fitsL (ts : List Int) (ds : List Nat) : List Int := (rgL 1 (mxM (gapsL ts) + 1).toNat).filter fun g => decide (fg g ts = some ds)
theorem ev_fits (ρ : Env) (o : Or) (ts : List Int) (ht : ts.length ≤ 64) (ds : List Nat) (hM0 : 0 ≤ mxM (gapsL ts)) (hM : mxM (gapsL ts) ≤ 2000) (h3 : getS ρ 3 = .val (tD ds)) (h7 : getS ρ 7 = .val (TI ts)) (h11 : getS ρ 11 = .val (TI (mkG (gapsL ts)))) (h19 : ∀ x, getS (setS ρ 19 x) 19 = x) : evE (C 60) (.comp (.slot 19) (.bi .range [(.cst (.int 1)), (.op2 .add (.op2 .ix (.var 11) (.op2 .sub (.bi .len [(.var 11)]) (.cst (.int 1)))) (.cst (.int 2)))]) (.op2 .eq (.call 20 [(.call 19 [(.var 7), (.var 19)])]) (.var 3)) (.var 19)) ρ o = .ok (LI (fitsL ts ds)) o := by
  have er := ev_rg2 (C := C 60) (ρ := ρ) (o := o) (a := .cst (.int 1)) (lo := 1) (hi := mxM (gapsL ts) + 2) ev_cst (ev_op2 (lastE h11 (mkG_last _)) ev_cst (op2_add_int _ _)) (by decide) (by decide) (by omega) (by omega)
  rw [show mxM (gapsL ts) + 2 - 1 = mxM (gapsL ts) + 1 by omega] at er
  exact ev_compA (ks := rgL 1 (mxM (gapsL ts) + 1).toNat) (g0 := D.int) (f := D.int) (p := fun g => decide (fg g ts = some ds)) (seq_lst er) (fun g _ => by
    have h7' : getS (setS ρ 19 (.val (.int g))) 7 = .val (TI ts) := by rw [getS_set_ne _ _ _ _ (by decide)]; exact h7
    have h3' : getS (setS ρ 19 (.val (.int g))) 3 = .val (tD ds) := by rw [getS_set_ne _ _ _ _ (by decide)]; exact h3
    exact ev_op2 (ev_call1 (ev_call2 (ev_var h7') (ev_var (h19 _)) (s19 59 ts (by omega) g o)) (s20 59 _ o)) (ev_var h3') (op2_eq (eqO_fD _ _))) (fun g _ _ => ev_var (h19 _))
theorem grp_class (ts : List Int) (x y : Int) (hxy : x ≤ y) (h : ∀ g ∈ gapsL ts, ¬ (x ≤ g ∧ g < y)) : grp x ts = grp y ts := by
  rw [grp_dif, grp_dif]
  congr 2
  refine List.filter_congr fun k hk => ?_
  have hk' := List.mem_range.mp hk
  rw [mkP, mkP]
  by_cases h0 : k = 0
  · rw [decide_eq_true h0, Bool.true_or, Bool.true_or]
  · rw [decide_eq_false h0, Bool.false_or, Bool.false_or, decide_eq_decide]
    have hm : ts.getD k 0 - ts.getD (k - 1) 0 ∈ gapsL ts := (ssetL_mem _ _).mpr (List.mem_map.mpr ⟨k - 1, List.mem_range.mpr (by omega), by rw [Nat.sub_add_cancel (by omega)]⟩)
    have := h _ hm
    omega
theorem gaps_bd {ts : List Int} (h : Tm ts) : (∀ g ∈ gapsL ts, 1 ≤ g ∧ g ≤ 1000) := fun g hg => by
  obtain ⟨k, hk, rfl⟩ := List.mem_map.mp ((ssetL_mem _ _).mp hg)
  have hk' := List.mem_range.mp hk
  have h1 := List.pairwise_iff_getElem.mp h.1 k (k + 1) (by omega) (by omega) (by omega)
  have h2 := h.2.2 _ (List.getElem_mem (show k < ts.length by omega))
  have h3 := h.2.2 _ (List.getElem_mem (show k + 1 < ts.length by omega))
  simp only [List.getD_eq_getElem?_getD]
  rw [List.getElem?_eq_getElem (show k + 1 < ts.length by omega), List.getElem?_eq_getElem (show k < ts.length by omega)]
  simp only [Option.getD_some]
  omega
theorem mxM_bd {ts : List Int} (h : Tm ts) : 1 ≤ mxM (gapsL ts) ∧ mxM (gapsL ts) ≤ 1001 := by
  unfold mxM
  cases hl : (gapsL ts).getLast? with
  | none => simp
  | some g =>
    have := gaps_bd h g (last_max (ssetL_up _) hl).1
    simp only; omega
theorem st_bounds (ρ : Env) (o : Or) (ts : List Int) (h : Tm ts) (ds : List Nat) (h13 : getS ρ 13 = .val (LI (fitsL ts ds))) (h11 : getS ρ 11 = .val (TI (mkG (gapsL ts)))) (h14 : ρ = setS ρ 14 (.val .non)) : evS (C 60) (.ifs (.op2 .ne (.var 13) (.lst [])) [.set (.slot 14) (.tup [(.op2 .ix (.var 13) (.cst (.int 0))), (.op2 .ix (.lst [(.op2 .ix (.var 13) (.op2 .sub (.bi .len [(.var 13)]) (.cst (.int 1)))), (.cst .non)]) (.bi .int [(.op2 .gt (.op2 .ix (.var 13) (.op2 .sub (.bi .len [(.var 13)]) (.cst (.int 1)))) (.op2 .ix (.var 11) (.op2 .sub (.bi .len [(.var 11)]) (.cst (.int 1)))))]))])] []) ρ o = .nx (setS ρ 14 (.val (bndD (gapsL ts) (ablL ts ds)))) o := by
  have hb := bounds_ok (gapsL ts) (ssetL_up _) (fun g hg => (gaps_bd h g hg).1) (fun g => decide (fg g ts = some ds)) (fun x y hxy hc => by
    have e : fg x ts = fg y ts := by rw [fg, fg, grp_class ts x y hxy hc]
    show decide (fg x ts = some ds) = decide (fg y ts = some ds)
    rw [e])
  have e1 : ∀ q, (fitsL ts ds).isEmpty = q → evE (C 60) (.op2 .ne (.var 13) (.lst [])) ρ o = .ok (.bool (!q)) o := fun q hq => by
    rw [← hq]
    exact ev_op2 (ev_var h13) (ev_lst evs_nil) (op2_ne (by rw [LI, eqO_nilL (ok_ints 59 _), isEmpty_map]))
  rcases hb with ⟨b1, b2⟩ | ⟨a, z, y, b1, b2, b3, b4, b5⟩
  · have hf : fitsL ts ds = [] := b2
    have ha : ablL ts ds = [] := b1
    rw [ha, show bndD (gapsL ts) [] = .non from rfl, ← h14]
    exact ifF (e1 true (by rw [hf]; rfl)) (evSs_nil' _ _ _)
  · have ha : bndD (gapsL ts) (ablL ts ds) = .tup [.int (firstV (gapsL ts) a), if lastC (gapsL ts) z then .non else .int z] := by
      unfold bndD ablL
      rw [b1, b2]
    rw [ha]
    have b3' : (fitsL ts ds)[0]? = some (firstV (gapsL ts) a) := b3
    have b4' : (fitsL ts ds)[(fitsL ts ds).length - 1]? = some y := b4
    generalize fitsL ts ds = F at *
    have hne : F.isEmpty = false := by cases F with | nil => cases b3' | cons _ _ => rfl
    have x0 : op2 .ix (LI F) (.int 0) = some (.int (firstV (gapsL ts) a)) := by
      rw [LI, op2_ix_lst]; exact atI_q (i := 0) (by rw [List.getElem?_map, b3']; rfl)
    refine ifT (e1 false hne) (stp (st_set (ev_tup (evs_cons (ev_op2 (ev_var h13) ev_cst x0) (evs_cons ?_ evs_nil)))) (evSs_nil' _ _ _))
    have eg : ∀ q, decide (mxM (gapsL ts) < y) = q → evE (C 60) (.bi .int [(.op2 .gt (.op2 .ix (.var 13) (.op2 .sub (.bi .len [(.var 13)]) (.cst (.int 1)))) (.op2 .ix (.var 11) (.op2 .sub (.bi .len [(.var 11)]) (.cst (.int 1)))))]) ρ o = .ok (.int (if q = true then 1 else 0)) o := fun q hq => by
      refine ev_bi1 (ev_op2 (lastEL h13 b4') (lastE h11 (mkG_last _)) (op2_gt_int _ _)) ?_
      rw [hq]; cases q <;> rfl
    rcases b5 with ⟨c1, c2⟩ | ⟨c1, c2, c3⟩
    · rw [c1, if_pos rfl]
      exact ev_op2 (ev_lst (evs_cons (lastEL h13 b4') (evs_cons ev_cst evs_nil))) (eg true (decide_eq_true c2)) rfl
    · rw [c1, if_neg Bool.false_ne_true]
      subst c2
      exact ev_op2 (ev_lst (evs_cons (lastEL h13 b4') (evs_cons ev_cst evs_nil))) (eg false (decide_eq_false (by omega))) rfl
/-! dialled -/
theorem ev_dial (ρ : Env) (o : Or) (G : List Int) (g s : Nat) (hg : g < 6) (h4 : getS ρ 4 = .val (.int (g : Int))) (h16 : getS ρ 16 = .val (.int (s : Int))) (h8 : getS ρ 8 = .val (TI G)) (h19 : ∀ x, getS (setS ρ 19 x) 19 = x) : evE (C 60) (.and (.op2 .gt (.var 4) (.cst (.int 0))) (.op2 .eq (.comp (.slot 19) (.var 8) (.and (.op2 .gt (.bi .abs [(.op2 .sub (.var 19) (.var 4))]) (.var 16)) (.op2 .le (.var 19) (.op2 .mul (.cst (.int 2)) (.var 4)))) (.var 19)) (.lst []))) ρ o = .ok (.bool (!(G.any (bad (g : Int) (s : Int))) && decide (1 ≤ (g : Int)))) o := by
  have e1 : ∀ q, decide ((0 : Int) < (g : Int)) = q → evE (C 60) (.op2 .gt (.var 4) (.cst (.int 0))) ρ o = .ok (.bool q) o := fun q hq => by rw [← hq]; exact ev_op2 (ev_var h4) ev_cst (op2_gt_int _ _)
  by_cases h : g = 0
  · subst h
    rw [show (!(G.any (bad ((0 : Nat) : Int) (s : Int))) && decide (1 ≤ ((0 : Nat) : Int))) = false by rw [show decide (1 ≤ ((0 : Nat) : Int)) = false from rfl, Bool.and_false]]
    exact ev_andF (e1 false rfl)
  · have ec := ev_compA (C := C 60) (ρ := ρ) (o := o) (i := 19) (s := (.var 8)) (c := (.and (.op2 .gt (.bi .abs [(.op2 .sub (.var 19) (.var 4))]) (.var 16)) (.op2 .le (.var 19) (.op2 .mul (.cst (.int 2)) (.var 4))))) (e := .var 19) (ks := G) (g0 := D.int) (f := D.int) (p := bad (g : Int) (s : Int)) (seq_tup (ev_var h8)) (fun x _ => by
      have h4' : getS (setS ρ 19 (.val (.int x))) 4 = .val (.int (g : Int)) := by rw [getS_set_ne _ _ _ _ (by decide)]; exact h4
      have h16' : getS (setS ρ 19 (.val (.int x))) 16 = .val (.int (s : Int)) := by rw [getS_set_ne _ _ _ _ (by decide)]; exact h16
      exact badE (h19 _) h4' h16' (by omega) (by omega)) (fun x _ _ => ev_var (h19 _))
    have hb : ((G.filter (bad (g : Int) (s : Int))).map D.int).isEmpty = !(G.any (bad (g : Int) (s : Int))) := by
      rw [isEmpty_map, Bool.eq_iff_iff, List.isEmpty_iff, List.filter_eq_nil_iff, Bool.not_eq_true', List.any_eq_false]
    rw [decide_eq_true (show (1 : Int) ≤ (g : Int) by omega), Bool.and_true, ← hb]
    exact ev_andT (e1 true (decide_eq_true (by omega))) (ev_op2 ec (ev_lst evs_nil) (op2_eq (eqO_nilL (ok_ints 59 _))))
/-! other values -/
def bTh : List IS := [.set (.slot 6) (.and (.bi (.isT .tup) [(.var 17)]) (.op2 .eq (.comp (.slot 19) (.var 17) (.or (.op1 .not (.bi (.isT .int) [(.var 19)])) (.bi (.isT .bool) [(.var 19)])) (.var 19)) (.lst []))),
    .ifs (.var 6) [.set (.slot 6) (.op2 .eq (.bi .list [(.var 17)]) (.bi .sset [(.var 17)]))] [],
    .ifs (.op1 .not (.call 17 [(.call 4 [(.var 17)]), (.var 6)])) [.ret (.cst (.bool false))] []]
def ThOk (x : D) : Prop := (∃ ns : List Int, x = TI ns ∧ ns.length ≤ 60) ∨ (∃ ns : List Int, x = LI ns) ∨ x = .non ∨ x = .tup [.int 1, .bool true] ∨ x = .tup [.int 2, .str [51]]
theorem thing_ok (a0 a1 a2 a3 a4 a5 a6 a7 a8 a9 a10 a11 a12 a13 a14 a15 a16 a17 a18 a19 a20 a21 a22 : Sl) (x : D) (hx : ThOk x) (o : Or) : ∃ y6, evSs (C 60) bTh (setS [a0, a1, a2, a3, a4, a5, a6, a7, a8, a9, a10, a11, a12, a13, a14, a15, a16, a17, a18, a19, a20, a21, a22] 17 (.val x)) o = .nx [a0, a1, a2, a3, a4, a5, y6, a7, a8, a9, a10, a11, a12, a13, a14, a15, a16, .val x, a18, a19, a20, a21, a22] o := by
  have e4 : ∀ b : Bool, C 60 4 [x] o = .ok (.bool b) o → ∀ ρ : Env, getS ρ 17 = .val x → getS ρ 6 = .val (.bool b) → evS (C 60) (.ifs (.op1 .not (.call 17 [(.call 4 [(.var 17)]), (.var 6)])) [.ret (.cst (.bool false))] []) ρ o = .nx ρ o := fun b hb ρ h17 h6 => sm (f := 17) rfl (ev_call1 (ev_var h17) hb) (ev_var h6) rfl rfl
  rcases hx with ⟨ns, rfl, hl⟩ | ⟨ns, rfl⟩ | rfl | rfl | rfl
  · refine ⟨.val (.bool (incB ns)), ?_⟩
    have ec := ev_compA (C := C 60) (ρ := setS [a0, a1, a2, a3, a4, a5, a6, a7, a8, a9, a10, a11, a12, a13, a14, a15, a16, a17, a18, a19, a20, a21, a22] 17 (.val (TI ns))) (o := o) (i := 19) (s := .var 17) (c := (.or (.op1 .not (.bi (.isT .int) [(.var 19)])) (.bi (.isT .bool) [(.var 19)]))) (e := .var 19) (ks := ns) (g0 := D.int) (f := D.int) (p := fun _ => false) (seq_tup (ev_var rfl)) (fun n _ => ev_orB (q := false) (ev_not (q := true) (ev_bi1 (ev_var rfl) (bi_isT rfl))) (ev_bi1 (ev_var rfl) (bi_isT rfl))) (fun n _ _ => ev_var rfl)
    rw [show (ns.filter fun _ => false) = [] from List.filter_eq_nil_iff.mpr fun _ _ => Bool.false_ne_true] at ec
    have hs : biF .sset [TI ns] = some (LI (ssetL ns)) := by
      show ((intsO (ns.map D.int)).bind sset1) = _
      have hlen : ∀ l : List Int, (ssetL l).length ≤ l.length := fun l => by
        induction l with
        | nil => simp [ssetL]
        | cons x l ih => have := insI_len x (ssetL l); rw [show ssetL (x :: l) = insI x (ssetL l) from rfl, List.length_cons]; omega
      rw [intsO_m, Option.bind_some, sset1, if_pos ⟨by omega, by have := hlen ns; omega⟩]
      rfl
    refine stp (st_set (ev_andT (ev_bi1 (ev_var rfl) (bi_isT rfl)) (ev_op2 ec (ev_lst evs_nil) (op2_eq (c := true) eqO_nn)))) ?_
    refine stp (ifT (ev_var rfl) (stp (st_set (ev_op2 (ev_bi1 (ev_var rfl) (z := LI ns) rfl) (ev_bi1 (ev_var rfl) hs) (op2_eq (eqO_LI _ _)))) (evSs_nil' _ _ _))) ?_
    rw [← incB_sset]
    exact stp (e4 (incB ns) (s4 57 ns (by omega) o) _ rfl rfl) (evSs_nil' _ _ _)
  · refine ⟨.val (.bool false), ?_⟩
    have e2 : C 59 2 [LI ns] o = .ok (.bool false) o := call_rt rfl (stR (st_ret (ev_andF (ev_bi1 (ev_var rfl) (bi_isT rfl)))))
    have e4' : C 60 4 [LI ns] o = .ok (.bool false) o := call_rt rfl (stR (st_ret (ev_andF (ev_call1 (ev_var rfl) e2))))
    exact stp (st_set (ev_andF (ev_bi1 (ev_var rfl) (bi_isT rfl)))) (stp (ifF (ev_var rfl) (evSs_nil' _ _ _)) (stp (e4 false e4' _ rfl rfl) (evSs_nil' _ _ _)))
  · refine ⟨.val (.bool false), ?_⟩
    have e4' : C 60 4 [.non] o = .ok (.bool false) o := rfl
    exact stp (st_set (ev_andF (ev_bi1 (ev_var rfl) (bi_isT rfl)))) (stp (ifF (ev_var rfl) (evSs_nil' _ _ _)) (stp (e4 false e4' _ rfl rfl) (evSs_nil' _ _ _)))
  · refine ⟨.val (.bool false), ?_⟩
    have e4' : C 60 4 [.tup [.int 1, .bool true]] o = .ok (.bool false) o := rfl
    exact stp (st_set (d := .bool false) rfl) (stp (ifF (ev_var rfl) (evSs_nil' _ _ _)) (stp (e4 false e4' _ rfl rfl) (evSs_nil' _ _ _)))
  · refine ⟨.val (.bool false), ?_⟩
    have e4' : C 60 4 [.tup [.int 2, .str [51]]] o = .ok (.bool false) o := rfl
    exact stp (st_set (d := .bool false) rfl) (stp (ifF (ev_var rfl) (evSs_nil' _ _ _)) (stp (e4 false e4' _ rfl rfl) (evSs_nil' _ _ _)))
end Lk51

end
/-! text: k51_M9.lean -/
section
set_option autoImplicit false
set_option maxRecDepth 100000
namespace Lk51
open BV
theorem pl_TI (n : Nat) (l : List Int) (h : l.length ≤ 100000) : plS (n + 1) (TI l) = true := by
  simp only [TI, plS, Bool.and_eq_true, decide_eq_true_eq, List.all_eq_true, List.mem_map, List.length_map]
  refine ⟨by rw [cap_v']; omega, ?_⟩
  rintro _ ⟨x, _, rfl⟩
  cases n <;> rfl
theorem pl_mL (n : Nat) (l : List Nat) (h : l.length ≤ 100000) : plS (n + 1) (.tup (mL l)) = true := by
  rw [mL_nI]
  exact pl_TI n (nI l) (by rw [nI, List.length_map]; exact h)
theorem pl_fD (n : Nat) (x : Option (List Nat)) (h : ∀ l, x = some l → l.length ≤ 100000) : plS (n + 1) (fD x) = true := by
  cases x with
  | none => rfl
  | some l => exact pl_mL n l (h l rfl)
theorem pl_len (g w : Int) : ∀ (ds : List Nat) (t : Int), (∀ d ∈ ds, d ≤ 9) → (pl g w t ds).length ≤ 10 * ds.length
  | [], t, _ => by simp [pl]
  | d :: ds, t, hd => by
    have ih := pl_len g w ds (t + ((mny d : Int) - 1) * g + w) (fun x hx => hd x (by simp [hx]))
    have : mny d ≤ 10 := by have := hd d (by simp); unfold mny; split <;> omega
    rw [pl, List.length_append, run_len, List.length_cons]; omega
theorem fg_len (ts : List Int) (g : Int) : ∀ l, fg g ts = some l → l.length ≤ ts.length := fun l h => by
  rw [fD_len _ l h]; exact grp_len g ts
theorem pl_rows (n : Nat) (ts : List Int) (h : ts.length ≤ 1000) : plS (n + 3) (.tup ((rowsR ts).map rD)) = true := by
  have hg := gaps_len ts
  have hl : (rowsR ts).length ≤ (mkG (gapsL ts)).length := List.length_filterMap_le _ _
  have hm : (mkG (gapsL ts)).length ≤ 1001 := by
    unfold mkG; split <;> simp only [List.length_append, List.length_cons, List.length_nil] <;> omega
  simp only [plS, Bool.and_eq_true, decide_eq_true_eq, List.all_eq_true, List.mem_map, List.length_map]
  refine ⟨by rw [cap_v']; omega, ?_⟩
  rintro _ ⟨q, hq, rfl⟩
  obtain ⟨g, hg', hr⟩ := List.mem_filterMap.mp hq
  have hlen : q.2.length ≤ ts.length := by
    rw [rowOf] at hr
    cases hf : fg g ts with
    | none => rw [hf] at hr; cases hr
    | some f => rw [hf] at hr; cases hr; exact fg_len ts g f hf
  show plS (n + 2) (rD q) = true
  simp only [rD, plS, List.all_cons, List.all_nil, Bool.and_true, Bool.and_eq_true, decide_eq_true_eq]
  refine ⟨by rw [cap_v']; simp, trivial, ?_⟩
  have := pl_mL n q.2 (by omega)
  simp only [plS, Bool.and_eq_true, decide_eq_true_eq] at this
  exact this
theorem pl_bnd (n : Nat) (G A : List Int) : plS (n + 1) (bndD G A) = true := by
  unfold bndD
  split
  · cases n <;> (simp only [plS, List.all_cons, List.all_nil, Bool.and_true, Bool.and_eq_true, decide_eq_true_eq]; refine ⟨by rw [cap_v']; simp, trivial, ?_⟩; split <;> rfl)
  · rfl
theorem ssetR_len : ∀ l : List (List Int), (ssetR l).length ≤ l.length
  | [] => by simp [ssetR]
  | x :: l => by
    have ih := ssetR_len l
    have : ∀ (x : List Int) (l : List (List Int)), (insR x l).length ≤ l.length + 1 := fun x l => by
      induction l with
      | nil => simp [insR]
      | cons y r ih =>
        unfold insR
        split
        · simp
        · split
          · simp only [List.length_cons]; omega
          · simp
    have := this x (ssetR l)
    rw [show ssetR (x :: l) = insR x (ssetR l) from rfl, List.length_cons]; omega
theorem insR_all (p : List Int → Prop) (x : List Int) (hx : p x) : ∀ l : List (List Int), (∀ y ∈ l, p y) → ∀ y ∈ insR x l, p y
  | [], _, y, hy => by simp [insR] at hy; rw [hy]; exact hx
  | z :: r, h, y, hy => by
    unfold insR at hy
    split at hy
    · rcases List.mem_cons.mp hy with rfl | hy
      · exact hx
      · exact h y hy
    · split at hy
      · rcases List.mem_cons.mp hy with rfl | hy
        · exact h y List.mem_cons_self
        · exact insR_all p x hx r (fun q hq => h q (List.mem_cons_of_mem _ hq)) y hy
      · exact h y hy
theorem ssetR_all (p : List Int → Prop) : ∀ l : List (List Int), (∀ y ∈ l, p y) → ∀ y ∈ ssetR l, p y
  | [], _, y, hy => nomatch hy
  | x :: l, h, y, hy => insR_all p x (h x List.mem_cons_self) (ssetR l) (ssetR_all p l fun q hq => h q (List.mem_cons_of_mem _ hq)) y hy
theorem pl_sent (n : Nat) {most : Nat} {gs : List Nat} (h1 : most < 4) (h2 : gs.length < 6) : plS (n + 2) (sentV most gs) = true := by
  have hlt := sent_lt h1 h2
  have hle := ssetR_len ((sentR most gs [[]]).map fun r => nI (figRow gs r))
  rw [List.length_map] at hle
  have hall := ssetR_all (fun r => r.length ≤ 100000) ((sentR most gs [[]]).map fun r => nI (figRow gs r)) (fun y hy => by
    obtain ⟨r, hr, rfl⟩ := List.mem_map.mp hy
    rw [nI, List.length_map, figRow, List.length_zipWith]; omega)
  rw [sentV]
  show (decide _ && _) = true
  simp only [Bool.and_eq_true, decide_eq_true_eq, List.all_eq_true, List.length_map]
  refine ⟨by rw [cap_v']; omega, fun x hx => ?_⟩
  obtain ⟨r, hr, rfl⟩ := List.mem_map.mp hx
  exact pl_TI n r (hall r hr)
theorem nx60 (m : Int) (o : Or) (hm : 0 < m) : ∃ (v : Nat) (o' : Or), (v : Int) < m ∧ C 60 15 [.tok, .int m] o = .ok (.int v) o' := nxt m 59 o hm
set_option maxHeartbeats 4000000 in
/-- one turn -/
theorem turn_ok (ρ : Env) (o : Or) (hl : ρ.length = 23) (hw : getS ρ 1 = .val .tok) : Gd 23 (evSs (C 60) bT ρ o) fun ρ _ => getS ρ 1 = .val .tok := by
  obtain ⟨a0, a1, a2, a3, a4, a5, a6, a7, a8, a9, a10, a11, a12, a13, a14, a15, a16, a17, a18, a19, a20, a21, a22, rfl⟩ := list23 hl
  obtain rfl : a1 = .val .tok := hw
  -- figures
  obtain ⟨n0, o1, hn0, e0⟩ := nx60 6 o (by decide)
  have hE := ev_compDr (C := C 60) (ρ := [a0, .val .tok, a2, a3, a4, a5, a6, a7, a8, a9, a10, a11, a12, a13, a14, a15, a16, a17, a18, a19, a20, a21, a22]) (o := o) (o1 := o1) (i := 21) (s := (.bi .range [(.call 15 [(.var 1), (.cst (.int 6))])])) (e := (.call 15 [(.var 1), (.cst (.int 10))])) (xs := RI n0) (f := fun n : Nat => D.int (n : Int)) (P := fun d => d ≤ 9) (seq_lst (ev_rangeN (ev_call2 (ev_var rfl) ev_cst e0) (by rw [cap_v']; omega))) (fun x _ o => by
    obtain ⟨d, o', hd, e⟩ := nx60 10 o (by decide)
    exact ⟨d, o', ev_call2 (ev_var rfl) ev_cst e, by omega⟩)
  obtain ⟨ds, o2, e2, hdl, hd9⟩ := hE
  rw [show (RI n0).length = n0 by simp [RI]] at hdl
  obtain ⟨g, o3, hg, e3⟩ := nx60 9 o2 (by decide)
  obtain ⟨wt, o4, hwt, e4⟩ := nx60 20 o3 (by decide)
  refine stpG (st_par (evs_cons (ev_bi1 e2 (bi_tuple_lst _)) (evs_cons (ev_op2 ev_cst (ev_call2 (ev_var rfl) ev_cst e3) (addN 1 g)) (evs_cons (ev_op2 ev_cst (ev_call2 (ev_var rfl) ev_cst e4) (addN 1 wt)) evs_nil))) rfl) ?_
  have hP := pl_len ((1 + g : Nat) : Int) ((1 + wt : Nat) : Int) ds 0 hd9
  have hsum : ∀ (z : Env), getS z 3 = .val (.tup (mL ds)) → (∀ x, getS (setS z 22 x) 22 = x) → evE (C 60) (.comp (.slot 22) (.var 3) (.cst (.bool true)) (.op2 .add (.var 22) (.op2 .mul (.cst (.int 10)) (.bi .int [(.op2 .eq (.var 22) (.cst (.int 0)))])))) z o4 = .ok (.lst ((nI (ds.map mny)).map D.int)) o4 := fun z h3 h22 => by
    have := ev_compAm (C := C 60) (ρ := z) (o := o4) (i := 22) (s := (.var 3)) (e := (.op2 .add (.var 22) (.op2 .mul (.cst (.int 10)) (.bi .int [(.op2 .eq (.var 22) (.cst (.int 0)))])))) (ks := ds) (g0 := fun n : Nat => D.int (n : Int)) (f := fun d => .int (mny d : Int)) (seq_tup (ev_var h3)) (fun d _ => many_ok (h22 _))
    rw [show ds.map (fun d => D.int (mny d : Int)) = (nI (ds.map mny)).map D.int by rw [nI, List.map_map, List.map_map]; rfl] at this
    exact this
  refine stpG (st_set (ev_lst (evs_cons (ev_call3 (ev_var rfl) (ev_var rfl) (ev_var rfl) (s18T 59 ds hd9 (by omega) ((1 + g : Nat) : Int) ((1 + wt : Nat) : Int) (by omega) (by omega) o4)) (evs_cons (ev_bi1 (hsum _ rfl (fun _ => rfl)) (bi_sum_lst _)) evs_nil)))) ?_
  refine stpG (sm (f := 17) rfl (ev_lst (evs_cons (ev_call3 (ev_var rfl) (ev_var rfl) (ev_var rfl) (s3 59 ds hd9 (by omega) ((1 + g : Nat) : Int) ((1 + wt : Nat) : Int) (by omega) (by omega) o4)) (evs_cons (ev_call1 (ev_var rfl) (s12 59 ds o4)) evs_nil))) (ev_var rfl) rfl ?_) ?_
  · simp only [plS, List.all_cons, List.all_nil, Bool.and_true, Bool.and_eq_true, decide_eq_true_eq]
    exact ⟨by rw [cap_v']; simp, pl_TI 4 _ (by omega)⟩
  -- read back
  have h3 : evS (C 60) (.ifs (.and (.op2 .gt (.var 5) (.var 4)) (.op1 .not (.call 17 [(.call 7 [(.op2 .ix (.var 6) (.cst (.int 0))), (.op2 .add (.var 4) (.cst (.int 1)))]), (.var 3)]))) [.ret (.cst (.bool false))] []) [a0, .val .tok, a2, .val (.tup (mL ds)), .val (.int ((1 + g : Nat) : Int)), .val (.int ((1 + wt : Nat) : Int)), .val (.lst [TI (pl ((1 + g : Nat) : Int) ((1 + wt : Nat) : Int) 0 ds), .int (nI (ds.map mny)).sum]), a7, a8, a9, a10, a11, a12, a13, a14, a15, a16, a17, a18, a19, a20, a21, a22] o4 = .nx [a0, .val .tok, a2, .val (.tup (mL ds)), .val (.int ((1 + g : Nat) : Int)), .val (.int ((1 + wt : Nat) : Int)), .val (.lst [TI (pl ((1 + g : Nat) : Int) ((1 + wt : Nat) : Int) 0 ds), .int (nI (ds.map mny)).sum]), a7, a8, a9, a10, a11, a12, a13, a14, a15, a16, a17, a18, a19, a20, a21, a22] o4 := by
    by_cases hh : (((1 + g : Nat) : Int)) < ((1 + wt : Nat) : Int)
    · have e7 := s7 58 (pl ((1 + g : Nat) : Int) ((1 + wt : Nat) : Int) 0 ds) (by omega) (((1 + g : Nat) : Int) + 1) o4
      rw [fg_pl (((1 + g : Nat) : Int) + 1) ((1 + g : Nat) : Int) ((1 + wt : Nat) : Int) (by omega) (by omega) ds hd9] at e7
      exact ifF (ev_andT (ev_op2 (ev_var rfl) (ev_var rfl) (by rw [op2_gt_int, decide_eq_true hh])) (smF (f := 17) rfl (ev_call2 (ev_op2 (ev_var rfl) ev_cst (z := TI (pl ((1 + g : Nat) : Int) ((1 + wt : Nat) : Int) 0 ds)) rfl) (ev_op2 (ev_var rfl) ev_cst (op2_add_int _ _)) e7) (ev_var rfl) rfl (pl_mL 5 ds (by omega)))) (evSs_nil' _ _ _)
    · exact ifF (ev_andF (ev_op2 (ev_var rfl) (ev_var rfl) (by rw [op2_gt_int, decide_eq_false hh]))) (evSs_nil' _ _ _)
  refine stpG h3 ?_
  -- the times
  obtain ⟨ts, o5, hT, e5⟩ := s23 o4
  have hTl : ts.length ≤ 64 := by have := hT.2.1; omega
  refine stpG (st_set (ev_call1 (ev_var rfl) e5)) ?_
  obtain ⟨l, o6, hl', e6⟩ := nx60 14 o5 (by decide)
  refine stpG (st_par (evs_cons (ev_call1 (ev_var rfl) (s21 59 ts hTl o5)) (evs_cons (ev_op2 ev_cst (ev_call2 (ev_var rfl) ev_cst e6) (addN 1 l)) evs_nil)) rfl) ?_
  have hgl := gaps_len ts
  have hgr := grp_len ((1 + l : Nat) : Int) ts
  refine stpG (st_set (ev_call2 (ev_var rfl) (ev_var rfl) (s19 59 ts (by omega) ((1 + l : Nat) : Int) o6))) ?_
  have e4' := s4 57 ts (by omega) o6
  rw [(incB_up ts).mpr hT.1] at e4'
  refine stpG (sm (f := 17) rfl (ev_lst (evs_cons (ev_call1 (ev_var rfl) (s8 59 ts hTl o6)) (evs_cons (ev_call2 (ev_var rfl) (ev_var rfl) (s5 59 ts (by omega) ((1 + l : Nat) : Int) o6)) (evs_cons (ev_call1 (ev_var rfl) (s6 59 _ o6)) (evs_cons (ev_call2 (ev_var rfl) (ev_var rfl) (s7 58 ts (by omega) ((1 + l : Nat) : Int) o6)) (evs_cons (ev_call1 (ev_var rfl) e4') evs_nil)))))) (ev_lst (evs_cons (ev_var rfl) (evs_cons (ev_var rfl) (evs_cons (ev_call1 (ev_var rfl) (s20 59 _ o6)) (evs_cons (ev_call1 (ev_var rfl) (s20 59 _ o6)) (evs_cons ev_cst evs_nil)))))) rfl ?_) ?_
  · have f1 := pl_fD 4 (fg ((1 + l : Nat) : Int) ts) (fun q hq => by have := fg_len ts _ q hq; omega)
    have f2 := pl_TI 4 (gapsL ts) (by omega)
    have f3 := pl_mL 4 (grp ((1 + l : Nat) : Int) ts) (by omega)
    show (decide _ && _) = true
    simp only [List.all_cons, List.all_nil, Bool.and_true, Bool.and_eq_true, decide_eq_true_eq]
    exact ⟨by rw [cap_v']; simp, f2, f3, f1, f1, rfl⟩
  -- readings
  refine stpG (st_set (ev_tup (evs_cons ev_cst evs_nil))) ?_
  refine stpG (st_marks _ o6 (gapsL ts) (by omega) rfl rfl) ?_
  refine stpG (st_set (ev_rows1 _ o6 ts (mkG (gapsL ts)) hTl rfl rfl (fun _ => rfl))) ?_
  refine stpG (st_set (ev_rows2 _ o6 ts (mkG (gapsL ts)) rfl (fun _ => rfl))) ?_
  refine stpG (sm (f := 17) rfl (ev_call1 (ev_var rfl) (s9 57 ts hTl o6)) (ev_bi1 (ev_var rfl) (bi_tuple_lst _)) rfl (pl_rows 3 ts (by omega))) ?_
  -- figures to be found
  have hpc : ∀ z : Env, getS z 12 = .val (.lst ((rowsR ts).map rD)) → (∀ x, getS (setS z 20 x) 20 = x) → evE (C 60) (.comp (.slot 20) (.var 12) (.cst (.bool true)) (.op2 .ix (.var 20) (.cst (.int 1)))) z o6 = .ok (.lst (((rowsR ts).map (·.2)).map tD)) o6 := fun z h12 h20 => by
    rw [List.map_map]
    exact ev_compAm (ks := rowsR ts) (g0 := rD) (f := fun q => tD q.2) (seq_lst (ev_var h12)) (fun q _ => ev_op2 (ev_var (h20 _)) ev_cst rfl)
  have hrl : (rowsR ts).length ≤ 1001 := by
    have h1 : (rowsR ts).length ≤ (mkG (gapsL ts)).length := List.length_filterMap_le _ _
    have hm : (mkG (gapsL ts)).length ≤ 1001 := by
      unfold mkG; split <;> simp only [List.length_append, List.length_cons, List.length_nil] <;> omega
    omega
  have hlist : op2 .add (.lst [.tup (mL ds), .tup [], .tup [.int (ts.length : Int)]]) (.lst (((rowsR ts).map (·.2)).map tD)) = some (.lst (([ds, [], [ts.length]] ++ (rowsR ts).map (·.2)).map tD)) := by
    rw [op2_add_lst (by rw [List.length_map, List.length_map, cap_v']; simp only [List.length_cons, List.length_nil]; omega), List.map_append]; rfl
  obtain ⟨i, hi, o7, e7⟩ : ∃ (j : Nat) (hj : j < (([ds, [], [ts.length]] ++ (rowsR ts).map (·.2)).map tD).length) (o' : Or), C 60 16 [.tok, .lst (([ds, [], [ts.length]] ++ (rowsR ts).map (·.2)).map tD)] o6 = .ok ((([ds, [], [ts.length]] ++ (rowsR ts).map (·.2)).map tD)[j]) o' := pick59 58 _ (by simp) o6
  obtain ⟨dd, hdd⟩ : ∃ dd : List Nat, (([ds, [], [ts.length]] ++ (rowsR ts).map (·.2)).map tD)[i] = tD dd := ⟨([ds, [], [ts.length]] ++ (rowsR ts).map (·.2))[i]'(by simpa using hi), by rw [List.getElem_map]⟩
  rw [hdd] at e7
  refine stpG (st_set (ev_call2 (ev_var rfl) (ev_op2 (ev_lst (evs_cons (ev_var rfl) (evs_cons (ev_tup evs_nil) (evs_cons (ev_tup (evs_cons (ev_bi1 (ev_var rfl) (bi_len_TI ts)) evs_nil)) evs_nil)))) (hpc _ rfl (fun _ => rfl)) hlist) e7)) ?_
  have hM := mxM_bd hT
  refine stpG (st_set (ev_fits _ o7 ts hTl dd (by omega) (by omega) rfl rfl rfl (fun _ => rfl))) ?_
  refine stpG (st_set ev_cst) ?_
  refine stpG (st_bounds _ o7 ts hT dd rfl rfl rfl) ?_
  refine stpG (sm (f := 17) rfl (ev_call2 (ev_var rfl) (ev_var rfl) (s10 56 ts hTl dd o7)) (ev_var rfl) rfl (pl_bnd 5 _ _)) ?_
  -- what could be sent
  obtain ⟨most, o8, hmost, e8⟩ := nx60 4 o7 (by decide)
  refine stpG (st_set (ev_call2 (ev_var rfl) ev_cst e8)) ?_
  simp only [setS]
  have h19 : ∀ z : Env, getS z 7 = .val (TI ts) → getS z 9 = .val (.int ((1 + l : Nat) : Int)) → getS z 10 = .val (.tup (mL (grp ((1 + l : Nat) : Int) ts))) → getS z 15 = .val (.int (most : Int)) → evS (C 60) (.ifs (.and (.op2 .lt (.bi .len [(.var 10)]) (.cst (.int 6))) (.op1 .not (.call 17 [(.call 11 [(.var 7), (.var 9), (.var 15)]), (.call 22 [(.var 10), (.var 15)])]))) [.ret (.cst (.bool false))] []) z o8 = .nx z o8 := fun z z7 z9 z10 z15 => by
    have el : ∀ q, decide ((grp ((1 + l : Nat) : Int) ts).length < 6) = q → evE (C 60) (.op2 .lt (.bi .len [(.var 10)]) (.cst (.int 6))) z o8 = .ok (.bool q) o8 := fun q hq => by
      rw [← hq]
      exact ev_op2 (ev_bi1 (ev_var z10) (by rw [bi_len_tup, mL, List.length_map])) ev_cst (ltN _ 6)
    by_cases hh : (grp ((1 + l : Nat) : Int) ts).length < 6
    · exact ifF (ev_andT (el true (decide_eq_true hh)) (smF (f := 17) rfl (ev_call3 (ev_var z7) (ev_var z9) (ev_var z15) (s11 58 ts (by omega) ((1 + l : Nat) : Int) most (by omega) hh o8)) (ev_call2 (ev_var z10) (ev_var z15) (s22 59 (grp ((1 + l : Nat) : Int) ts) most (by omega) hh o8)) rfl (pl_sent 4 (by omega) hh))) (evSs_nil' _ _ _)
    · exact ifF (ev_andF (el false (decide_eq_false hh))) (evSs_nil' _ _ _)
  refine stpG (h19 _ rfl rfl rfl rfl) ?_
  -- dialled
  obtain ⟨g2, o9, hg2, e9⟩ := nx60 6 o8 (by decide)
  obtain ⟨sl, o10, hsl, e10⟩ := nx60 4 o9 (by decide)
  refine stpG (st_par (evs_cons (ev_call2 (ev_var rfl) ev_cst e9) (evs_cons (ev_call2 (ev_var rfl) ev_cst e10) evs_nil)) rfl) ?_
  refine stpG (st_set (ev_dial _ o10 (gapsL ts) g2 sl (by omega) rfl rfl rfl (fun _ => rfl))) ?_
  refine stpG (sm (f := 17) rfl (ev_call3 (ev_var rfl) (ev_var rfl) (ev_var rfl) (s13 57 ts hTl (g2 : Int) (sl : Int) (by omega) (by omega) o10)) (ev_var rfl) rfl rfl) ?_
  -- other values
  have hcl : (cut ts (some (-1)) none).length ≤ 1 := by
    simp only [cut, sIx]
    rw [List.length_take]
    split <;> omega
  have hcut : cut (ts.map D.int) (some (-1)) none = (cut ts (some (-1)) none).map D.int := by
    simp only [cut, List.length_map, List.map_take, List.map_drop]
  have es : ∀ z : Env, getS z 7 = .val (TI ts) → evE (C 60) (.slice (.var 7) (.op1 .chkI (.op1 .neg (.cst (.int 1)))) (.cst .non)) z o10 = .ok (.tup ((cut ts (some (-1)) none).map D.int)) o10 := fun z z7 => by
    rw [← hcut]
    exact ev_slice (ev_var z7) (ev_op1 (ev_op1 ev_cst (op1m 1)) (op1_chkI _)) ev_cst rfl rfl
  have ea : op2 .add (TI ts) (.tup ((cut ts (some (-1)) none).map D.int)) = some (TI (ts ++ cut ts (some (-1)) none)) := by
    rw [TI, op2_add_tup (by rw [List.length_map, List.length_map, cap_v']; omega), TI, List.map_append]
  have erev : biF .rev [TI ts] = some (TI ts.reverse) := by rw [TI, TI, List.map_reverse]; rfl
  have hlst : ∀ z : Env, getS z 7 = .val (TI ts) → evE (C 60) (.lst [(.op2 .add (.var 7) (.slice (.var 7) (.op1 .chkI (.op1 .neg (.cst (.int 1)))) (.cst .non))), (.bi .rev [(.var 7)]), (.bi .list [(.var 7)]), (.cst .non), (.tup [(.cst (.int 1)), (.cst (.bool true))]), (.tup [(.cst (.int 2)), (.cst (.str [51]))]), (.tup [(.op1 .neg (.cst (.int 5))), (.cst (.int 0))])]) z o10 = .ok (.lst [TI (ts ++ cut ts (some (-1)) none), TI ts.reverse, LI ts, .non, .tup [.int 1, .bool true], .tup [.int 2, .str [51]], TI [-5, 0]]) o10 := fun z z7 =>
    ev_lst (evs_cons (ev_op2 (ev_var z7) (es z z7) ea) (evs_cons (ev_bi1 (ev_var z7) erev) (evs_cons (ev_bi1 (ev_var z7) rfl) (evs_cons ev_cst (evs_cons (ev_tup (evs_cons ev_cst (evs_cons ev_cst evs_nil))) (evs_cons (ev_tup (evs_cons ev_cst (evs_cons ev_cst evs_nil))) (evs_cons (ev_tup (evs_cons (ev_op1 ev_cst (op1m 5)) (evs_cons ev_cst evs_nil))) evs_nil)))))))
  have FL := forM_all (f := fun x ρ o => evSs (C 60) bTh (setS ρ 17 (.val x)) o) (I := fun ρ _ => ρ.length = 23 ∧ getS ρ 1 = .val .tok) [TI (ts ++ cut ts (some (-1)) none), TI ts.reverse, LI ts, .non, .tup [.int 1, .bool true], .tup [.int 2, .str [51]], TI [-5, 0]] (fun x hx ρ o ⟨hl, hw⟩ => by
    have hT2 := hT.2.1
    have hk : ThOk x := by
      simp only [List.mem_cons, List.not_mem_nil, or_false] at hx
      rcases hx with rfl | rfl | rfl | rfl | rfl | rfl | rfl
      · exact .inl ⟨_, rfl, by rw [List.length_append]; omega⟩
      · exact .inl ⟨_, rfl, by rw [List.length_reverse]; omega⟩
      · exact .inr (.inl ⟨_, rfl⟩)
      · exact .inr (.inr (.inl rfl))
      · exact .inr (.inr (.inr (.inl rfl)))
      · exact .inr (.inr (.inr (.inr rfl)))
      · exact .inl ⟨_, rfl, by decide⟩
    obtain ⟨b0, b1, b2, b3, b4, b5, b6, b7, b8, b9, b10, b11, b12, b13, b14, b15, b16, b17, b18, b19, b20, b21, b22, rfl⟩ := list23 hl
    obtain ⟨y6, e⟩ := thing_ok b0 b1 b2 b3 b4 b5 b6 b7 b8 b9 b10 b11 b12 b13 b14 b15 b16 b17 b18 b19 b20 b21 b22 x hk o
    exact ⟨_, o, e, rfl, hw⟩)
  have F2 : ∀ z : Env, z.length = 23 → getS z 1 = .val .tok → getS z 7 = .val (TI ts) → Gd 23 (evSs (C 60) [.for_ (.slot 17) (.lst [(.op2 .add (.var 7) (.slice (.var 7) (.op1 .chkI (.op1 .neg (.cst (.int 1)))) (.cst .non))), (.bi .rev [(.var 7)]), (.bi .list [(.var 7)]), (.cst .non), (.tup [(.cst (.int 1)), (.cst (.bool true))]), (.tup [(.cst (.int 2)), (.cst (.str [51]))]), (.tup [(.op1 .neg (.cst (.int 5))), (.cst (.int 0))])]) [.set (.slot 6) (.and (.bi (.isT .tup) [(.var 17)]) (.op2 .eq (.comp (.slot 19) (.var 17) (.or (.op1 .not (.bi (.isT .int) [(.var 19)])) (.bi (.isT .bool) [(.var 19)])) (.var 19)) (.lst []))),
    .ifs (.var 6) [.set (.slot 6) (.op2 .eq (.bi .list [(.var 17)]) (.bi .sset [(.var 17)]))] [],
    .ifs (.op1 .not (.call 17 [(.call 4 [(.var 17)]), (.var 6)])) [.ret (.cst (.bool false))] []]] z o10) fun ρ _ => getS ρ 1 = .val .tok := fun z z0 z1 z7 => by
    obtain ⟨ρ', o', eF, hl2, hw2⟩ := FL z o10 ⟨z0, z1⟩
    exact stpG (st_forI (hlst z z7) eF) (gNil hl2 hw2)
  exact F2 _ rfl rfl rfl
end Lk51

end
/-! text: k51_M.lean -/
section
set_option autoImplicit false
set_option maxRecDepth 100000
namespace Lk51
open BV
def endI : List IS := [.set (.slot 18) (.lst [(.call 3 [(.tup [(.cst (.int 2)), (.cst (.int 1))]), (.cst (.int 3)), (.cst (.int 10))]), (.call 7 [(.tup [(.cst (.int 0)), (.cst (.int 3)), (.cst (.int 13))]), (.cst (.int 4))]), (.call 9 [(.tup [])]), (.call 10 [(.tup [(.cst (.int 0)), (.cst (.int 3)), (.cst (.int 13))]), (.tup [(.cst (.int 2)), (.cst (.int 1))])]), (.call 10 [(.tup [(.cst (.int 0)), (.cst (.int 3)), (.cst (.int 13))]), (.tup [(.cst (.int 3))])]), (.call 11 [(.tup [(.cst (.int 0))]), (.cst (.int 5)), (.cst (.int 1))])]), .ret (.call 17 [(.var 18), (.lst [(.tup [(.cst (.int 0)), (.cst (.int 3)), (.cst (.int 13))]), (.tup [(.cst (.int 2)), (.cst (.int 1))]), (.tup [(.tup [(.cst (.int 1)), (.tup [])])]), (.tup [(.cst (.int 4)), (.cst (.int 10))]), (.tup [(.cst (.int 11)), (.cst .non)]), (.tup [(.tup [(.cst (.int 1))]), (.tup [(.cst (.int 2))])])])])]
def dueE : List D := [TI [0, 3, 13], .tup (mL [2, 1]), .tup [.tup [.int 1, .tup []]], .tup [.int 4, .int 10], .tup [.int 11, .non], .tup [.tup [.int 1], .tup [.int 2]]]
theorem end_ok (ρ : Env) (o : Or) (hl : ρ.length = 23) : ∃ o', evSs (C 60) endI ρ o = .rt (.bool true) o' := by
  obtain ⟨a0, a1, a2, a3, a4, a5, a6, a7, a8, a9, a10, a11, a12, a13, a14, a15, a16, a17, a18, a19, a20, a21, a22, rfl⟩ := list23 hl
  refine ⟨o, ?_⟩
  have g1 : C 60 3 [.tup (mL [2, 1]), .int 3, .int 10] o = .ok (TI [0, 3, 13]) o := s3 59 [2, 1] (by decide) (by decide) 3 10 (by decide) (by decide) o
  have g2 : C 60 7 [TI [0, 3, 13], .int 4] o = .ok (.tup (mL [2, 1])) o := s7 58 [0, 3, 13] (by decide) 4 o
  have g3 : C 60 9 [TI []] o = .ok (.tup [.tup [.int 1, .tup []]]) o := s9 57 [] (by decide) o
  have g4 : C 60 10 [TI [0, 3, 13], .tup (mL [2, 1])] o = .ok (.tup [.int 4, .int 10]) o := s10 56 [0, 3, 13] (by decide) [2, 1] o
  have g5 : C 60 10 [TI [0, 3, 13], .tup (mL [3])] o = .ok (.tup [.int 11, .non]) o := s10 56 [0, 3, 13] (by decide) [3] o
  have g6 : C 60 11 [TI [0], .int 5, .int 1] o = .ok (.tup [.tup [.int 1], .tup [.int 2]]) o := s11 58 [0] (by decide) 5 1 (by decide) (by decide) o
  have t3 : ∀ ρ, evE (C 60) (.tup [(.cst (.int 0)), (.cst (.int 3)), (.cst (.int 13))]) ρ o = .ok (TI [0, 3, 13]) o := fun ρ => ev_tup (evs_cons ev_cst (evs_cons ev_cst (evs_cons ev_cst evs_nil)))
  have t2 : ∀ ρ, evE (C 60) (.tup [(.cst (.int 2)), (.cst (.int 1))]) ρ o = .ok (.tup (mL [2, 1])) o := fun ρ => ev_tup (evs_cons ev_cst (evs_cons ev_cst evs_nil))
  refine stp (st_set (d := .lst dueE) (ev_lst (evs_cons (ev_call3 (t2 _) ev_cst ev_cst g1) (evs_cons (ev_call2 (t3 _) ev_cst g2) (evs_cons (ev_call1 (ev_tup evs_nil) g3) (evs_cons (ev_call2 (t3 _) (t2 _) g4) (evs_cons (ev_call2 (t3 _) (ev_tup (evs_cons ev_cst evs_nil)) g5) (evs_cons (ev_call3 (ev_tup (evs_cons ev_cst evs_nil)) ev_cst ev_cst g6) evs_nil)))))))) ?_
  refine stR (st_ret (ev_call2 (ev_var rfl) (y := .lst dueE) rfl (same_refl (f := 17) rfl 6 (.lst dueE) (by decide) 53 o)))
/-- the plain law -/
theorem plain : Plain 60 := by
  intro script hs
  obtain ⟨ns, e1⟩ := drawsq_ok (T := tab) (f := 14) rfl 59 script hs 800 (by decide) []
  refine ⟨ns, [], ?_, ?_⟩
  · exact ev_call2 (ev_var rfl) ev_cst e1
  · have L := forM_RI (n := 5) (f := fun x ρ o => evSs (C 60) bT (setS ρ 2 (.val x)) o) (I := fun _ ρ _ => ρ.length = 23 ∧ getS ρ 1 = .val .tok) (ρ := setS (startS 23 [.lst (script.map D.int)]) 1 (.val .tok)) (o := ns)
      (fun j hj ρ o' ⟨hl, hw⟩ => by
        obtain ⟨ρ1, o1, e, h1, h2⟩ := turn_ok (setS ρ 2 (.val (.int j))) o' (by rw [setS_len', hl]) (by rw [getS_set_ne _ _ _ _ (by decide)]; exact hw)
        exact ⟨ρ1, o1, .inl e, h1, h2⟩) ⟨rfl, rfl⟩
    obtain ⟨ρ', o', e, hl, hw⟩ := L
    obtain ⟨o2, e2⟩ := end_ok ρ' o' hl
    exact ⟨o2, stp (st_forI (ev_rangeN (n := 5) ev_cst (by decide)) e) e2⟩
end Lk51

end
/-! text: k51_Walk.lean -/
section
set_option maxRecDepth 100000
set_option autoImplicit false
set_option maxHeartbeats 4000000
namespace Wk51
open PySem PySem.Spec PyProof.Rows L2 BV
open Lk51 (tab iDraws Plain plain i0 i1 i2 i3 i4 i5 i6 i7 i8 i9 i10 i11 i12 i13 i14 i15 i16 i17 i18 i19 i20 i21 i22 i23 i24)
def top (i : Nat) : Stmt := PySem.Challenge.pw_dialsread_k51_whole_pulses_of_figures.main.body.getD i (.Pass ⟨0, 0, 0, 0⟩)
abbrev s0 : Stmt := top 1
abbrev s1 : Stmt := top 2
abbrev s2 : Stmt := top 3
abbrev s3 : Stmt := top 5
abbrev s4 : Stmt := top 6
abbrev s5 : Stmt := top 7
abbrev s6 : Stmt := top 8
abbrev s7 : Stmt := top 9
abbrev s8 : Stmt := top 10
abbrev s9 : Stmt := top 11
abbrev s10 : Stmt := top 12
abbrev s11 : Stmt := top 13
abbrev s12 : Stmt := top 14
abbrev s13 : Stmt := top 15
abbrev s14 : Stmt := top 17
abbrev s15 : Stmt := top 18
abbrev s16 : Stmt := top 19
abbrev s17 : Stmt := top 20
abbrev s18 : Stmt := top 21
abbrev s19 : Stmt := top 22
abbrev s20 : Stmt := top 23
abbrev s21 : Stmt := top 24
abbrev s22 : Stmt := top 25
abbrev s23 : Stmt := top 26
abbrev s24 : Stmt := top 27
/-- no built-in name is stored by the program -/
structure Bn (mg : Str → Option Value) : Prop where
  abs : mg "abs" = none
  all : mg "all" = none
  any : mg "any" = none
  bool : mg "bool" = none
  dict : mg "dict" = none
  int : mg "int" = none
  isinstance : mg "isinstance" = none
  len : mg "len" = none
  list : mg "list" = none
  range : mg "range" = none
  set : mg "set" = none
  sorted : mg "sorted" = none
  str : mg "str" = none
  sum : mg "sum" = none
  tuple : mg "tuple" = none
/-- the constants of the module -/
structure Cn (K : PySem.W.Frag) (mg : Str → Option Value) : Prop where
  all : True
abbrev XP0 : XPT := fun _ _ _ _ _ => False
section
variable {P : Program} {w : World} {K : PySem.W.Frag} {mg : Str → Option Value} {base : Heap} {k : Nat}
/-- what the top has left of the defs -/
structure Tx (K : PySem.W.Frag) (mg : Str → Option Value) : Prop where
  t0 : DefF K mg "is_number" s0 ["thing"]
  t1 : DefF K mg "is_from" s1 ["thing", "least"]
  t2 : DefF K mg "are_numbers" s2 ["thing"]
  t3 : DefF K mg "pulses_of" s3 ["digits", "gap", "wait"]
  t4 : DefF K mg "are_pulses" s4 ["thing"]
  t5 : DefF K mg "groups_of" s5 ["times", "least"]
  t6 : DefF K mg "figures_of" s6 ["groups"]
  t7 : DefF K mg "read_pulses" s7 ["times", "least"]
  t8 : DefF K mg "gaps_of" s8 ["times"]
  t9 : DefF K mg "readings" s9 ["times"]
  t10 : DefF K mg "bounds_for" s10 ["times", "digits"]
  t11 : DefF K mg "could_be_sent" s11 ["times", "least", "most"]
  t12 : DefF K mg "count_pulses" s12 ["digits"]
  t13 : DefF K mg "is_dialled" s13 ["times", "gap", "slack"]
  t14 : DefF K mg "_law_draws" s14 ["script", "many"]
  t15 : DefF K mg "_law_next" s15 ["w", "many"]
  t16 : DefF K mg "_law_pick" s16 ["w", "some"]
  t17 : DefF K mg "_law_same" s17 ["actual", "due"]
  t18 : DefF K mg "_law_pulses" s18 ["digits", "gap", "wait"]
  t19 : DefF K mg "_law_groups" s19 ["times", "least"]
  t20 : DefF K mg "_law_figures" s20 ["groups"]
  t21 : DefF K mg "_law_gaps" s21 ["times"]
  t22 : DefF K mg "_law_sent" s22 ["groups", "most"]
  t23 : DefF K mg "_law_times" s23 ["w"]
structure Ev (P : Program) (w : World) (K : PySem.W.Frag) (mg : Str → Option Value) (base : Heap) (k : Nat) : Prop where
  d0 : DefAt P w K mg base tab XP0 k "is_number" 0 1
  d1 : DefAt P w K mg base tab XP0 k "is_from" 1 2
  d2 : DefAt P w K mg base tab XP0 k "are_numbers" 2 1
  d3 : DefAt P w K mg base tab XP0 k "pulses_of" 3 3
  d4 : DefAt P w K mg base tab XP0 k "are_pulses" 4 1
  d5 : DefAt P w K mg base tab XP0 k "groups_of" 5 2
  d6 : DefAt P w K mg base tab XP0 k "figures_of" 6 1
  d7 : DefAt P w K mg base tab XP0 k "read_pulses" 7 2
  d8 : DefAt P w K mg base tab XP0 k "gaps_of" 8 1
  d9 : DefAt P w K mg base tab XP0 k "readings" 9 1
  d10 : DefAt P w K mg base tab XP0 k "bounds_for" 10 2
  d11 : DefAt P w K mg base tab XP0 k "could_be_sent" 11 3
  d12 : DefAt P w K mg base tab XP0 k "count_pulses" 12 1
  d13 : DefAt P w K mg base tab XP0 k "is_dialled" 13 3
  d14 : DefAt P w K mg base tab XP0 k "_law_draws" 14 2
  d15 : DefAt P w K mg base tab XP0 k "_law_next" 15 2
  d16 : DefAt P w K mg base tab XP0 k "_law_pick" 16 2
  d17 : DefAt P w K mg base tab XP0 k "_law_same" 17 2
  d18 : DefAt P w K mg base tab XP0 k "_law_pulses" 18 3
  d19 : DefAt P w K mg base tab XP0 k "_law_groups" 19 2
  d20 : DefAt P w K mg base tab XP0 k "_law_figures" 20 1
  d21 : DefAt P w K mg base tab XP0 k "_law_gaps" 21 1
  d22 : DefAt P w K mg base tab XP0 k "_law_sent" 22 2
  d23 : DefAt P w K mg base tab XP0 k "_law_times" 23 1
theorem c0 : FnScope ["thing"] ["thing"] (defScope s0) := ⟨rfl, rfl, rfl, by decide +kernel, rfl, by decide +kernel, by decide +kernel⟩
theorem b0 (B : Bn mg) (Gn : Cn K mg) (E : Ev P w K mg base k) (f : Addr) (cdv : Value) (A : Around) (outer : List PySem.Env) (s : Shared) (H : Hp) (E0 : XK) (hr : Room k (A.deeper (envOfC "is_number" (defScope s0) s.heap.objs.size f cdv))) :
    BSs (cxOf (L2.CX P w) P w K mg base ["thing"] "is_number" (defScope s0) f cdv A outer s H E0) (pgK tab XP0 k) (fun cls d _ H' => E0 cls d H') (defBody s0) i0 := by
  have tk : Takes (cxOf (L2.CX P w) P w K mg base ["thing"] "is_number" (defScope s0) f cdv A outer s H E0) (fun cls d _ H' => E0 cls d H') := takes_of rfl rfl rfl rfl
  have hp : PassesOwn (model P w) (cxOf (L2.CX P w) P w K mg base ["thing"] "is_number" (defScope s0) f cdv A outer s H E0).A (cxOf (L2.CX P w) P w K mg base ["thing"] "is_number" (defScope s0) f cdv A outer s H E0).env (cxOf (L2.CX P w) P w K mg base ["thing"] "is_number" (defScope s0) f cdv A outer s H E0).xe := passes_of rfl
  have nd := c0.nd
  exact (bss_cons (bs_ret (be_and (be_isi (t := .int) rfl B.isinstance bt_isinstance rfl B.int bt_int (BB.of (be_var 0))) (be_and1 (be_not (BB.of (be_isi (t := .bool) rfl B.isinstance bt_isinstance rfl B.bool bt_bool (BB.of (be_var 0))))))))
    bss_nil)
theorem c1 : FnScope ["thing", "least"] ["thing", "least"] (defScope s1) := ⟨rfl, rfl, rfl, by decide +kernel, rfl, by decide +kernel, by decide +kernel⟩
theorem b1 (B : Bn mg) (Gn : Cn K mg) (E : Ev P w K mg base k) (f : Addr) (cdv : Value) (A : Around) (outer : List PySem.Env) (s : Shared) (H : Hp) (E0 : XK) (hr : Room k (A.deeper (envOfC "is_from" (defScope s1) s.heap.objs.size f cdv))) :
    BSs (cxOf (L2.CX P w) P w K mg base ["thing", "least"] "is_from" (defScope s1) f cdv A outer s H E0) (pgK tab XP0 k) (fun cls d _ H' => E0 cls d H') (defBody s1) i1 := by
  have tk : Takes (cxOf (L2.CX P w) P w K mg base ["thing", "least"] "is_from" (defScope s1) f cdv A outer s H E0) (fun cls d _ H' => E0 cls d H') := takes_of rfl rfl rfl rfl
  have hp : PassesOwn (model P w) (cxOf (L2.CX P w) P w K mg base ["thing", "least"] "is_from" (defScope s1) f cdv A outer s H E0).A (cxOf (L2.CX P w) P w K mg base ["thing", "least"] "is_from" (defScope s1) f cdv A outer s H E0).env (cxOf (L2.CX P w) P w K mg base ["thing", "least"] "is_from" (defScope s1) f cdv A outer s H E0).xe := passes_of rfl
  have nd := c1.nd
  exact (bss_cons (bs_ret (be_and (be_callD E.d0 hr tk (be_cons (be_var 0) be_nil)) (be_and1 (be_cmp (o_ge) (BB.of (be_var 0)) (BB.of (be_var 1)) (nomark _)))))
    bss_nil)
theorem c2 : FnScope ["thing", "one"] ["thing"] (defScope s2) := ⟨rfl, rfl, rfl, by decide +kernel, rfl, by decide +kernel, by decide +kernel⟩
theorem b2 (B : Bn mg) (Gn : Cn K mg) (E : Ev P w K mg base k) (f : Addr) (cdv : Value) (A : Around) (outer : List PySem.Env) (s : Shared) (H : Hp) (E0 : XK) (hr : Room k (A.deeper (envOfC "are_numbers" (defScope s2) s.heap.objs.size f cdv))) :
    BSs (cxOf (L2.CX P w) P w K mg base ["thing", "one"] "are_numbers" (defScope s2) f cdv A outer s H E0) (pgK tab XP0 k) (fun cls d _ H' => E0 cls d H') (defBody s2) i2 := by
  have tk : Takes (cxOf (L2.CX P w) P w K mg base ["thing", "one"] "are_numbers" (defScope s2) f cdv A outer s H E0) (fun cls d _ H' => E0 cls d H') := takes_of rfl rfl rfl rfl
  have hp : PassesOwn (model P w) (cxOf (L2.CX P w) P w K mg base ["thing", "one"] "are_numbers" (defScope s2) f cdv A outer s H E0).A (cxOf (L2.CX P w) P w K mg base ["thing", "one"] "are_numbers" (defScope s2) f cdv A outer s H E0).env (cxOf (L2.CX P w) P w K mg base ["thing", "one"] "are_numbers" (defScope s2) f cdv A outer s H E0).xe := passes_of rfl
  have nd := c2.nd
  exact (bss_cons (bs_ret (be_and (be_isi (t := .tup) rfl B.isinstance bt_isinstance rfl B.tuple bt_tuple (BB.of (be_var 0))) (be_and1 (be_bi (c_all rfl) rfl B.all bt_all (be_consB (BB.of (be_comp rfl nd (bi_seqB (BB.of (be_var 0))) (blkOk_by (N := ["thing", "one"]) (sc := defScope s2) (own := [("one", 1)]) (by decide +kernel)) rfl (fun _ _ _ _ _ => (bg_slot 1 nd)) (fun _ _ _ _ _ => bts_nil) (fun _ _ _ _ _ => (be_callD E.d0 hr takes0 (be_cons (be_var 1) be_nil))))) be_nilB)))))
    bss_nil)
theorem c3 : FnScope ["digits", "gap", "wait", "found", "time", "digit", "k"] ["digits", "gap", "wait"] (defScope s3) := ⟨rfl, rfl, rfl, by decide +kernel, rfl, by decide +kernel, by decide +kernel⟩
theorem b3 (B : Bn mg) (Gn : Cn K mg) (E : Ev P w K mg base k) (f : Addr) (cdv : Value) (A : Around) (outer : List PySem.Env) (s : Shared) (H : Hp) (E0 : XK) (hr : Room k (A.deeper (envOfC "pulses_of" (defScope s3) s.heap.objs.size f cdv))) :
    BSs (cxOf (L2.CX P w) P w K mg base ["digits", "gap", "wait", "found", "time", "digit", "k"] "pulses_of" (defScope s3) f cdv A outer s H E0) (pgK tab XP0 k) (fun cls d _ H' => E0 cls d H') (defBody s3) i3 := by
  have tk : Takes (cxOf (L2.CX P w) P w K mg base ["digits", "gap", "wait", "found", "time", "digit", "k"] "pulses_of" (defScope s3) f cdv A outer s H E0) (fun cls d _ H' => E0 cls d H') := takes_of rfl rfl rfl rfl
  have hp : PassesOwn (model P w) (cxOf (L2.CX P w) P w K mg base ["digits", "gap", "wait", "found", "time", "digit", "k"] "pulses_of" (defScope s3) f cdv A outer s H E0).A (cxOf (L2.CX P w) P w K mg base ["digits", "gap", "wait", "found", "time", "digit", "k"] "pulses_of" (defScope s3) f cdv A outer s H E0).env (cxOf (L2.CX P w) P w K mg base ["digits", "gap", "wait", "found", "time", "digit", "k"] "pulses_of" (defScope s3) f cdv A outer s H E0).xe := passes_of rfl
  have nd := c3.nd
  exact (bss_cons (bs_setO (j := 3) nd rfl (Or.inl rfl) (bf_lst be_nil))
    (bss_cons (bs_set (j := 4) nd rfl (Or.inl rfl) be_int)
    (bss_cons (bs_for hp rfl (bi_seq (be_var 0)) (bg_slot 5 nd)
    (bss_cons (bs_for hp rfl (bi_range1 rfl B.range (be_consB (BB.of (be_ite (bt_cmp (o_gt) (BB.of (be_var 5)) (BB.of be_int) (nomark _)) (be_var 5) be_int)) be_nilB)) (bg_slot 6 nd)
    (bss_cons (bs_app (j := 3) rfl (Or.inl rfl) (be_op o_add (BB.of (be_var 4)) (BB.of (be_op o_mul (BB.of (be_var 6)) (BB.of (be_var 1))))))
    bss_nil))
    (bss_cons (bs_set (j := 4) nd rfl (Or.inl rfl) (be_op o_add (BB.of (be_ix (be_pk 3) (BB.of (be_un u_neg (BB.of be_int))))) (BB.of (be_var 2))))
    bss_nil)))
    (bss_cons (bs_ret (be_ty c_tuple rfl B.tuple bt_tuple (be_consB (be_pk 3) be_nilB)))
    bss_nil))))
theorem c4 : FnScope ["thing", "k"] ["thing"] (defScope s4) := ⟨rfl, rfl, rfl, by decide +kernel, rfl, by decide +kernel, by decide +kernel⟩
theorem b4 (B : Bn mg) (Gn : Cn K mg) (E : Ev P w K mg base k) (f : Addr) (cdv : Value) (A : Around) (outer : List PySem.Env) (s : Shared) (H : Hp) (E0 : XK) (hr : Room k (A.deeper (envOfC "are_pulses" (defScope s4) s.heap.objs.size f cdv))) :
    BSs (cxOf (L2.CX P w) P w K mg base ["thing", "k"] "are_pulses" (defScope s4) f cdv A outer s H E0) (pgK tab XP0 k) (fun cls d _ H' => E0 cls d H') (defBody s4) i4 := by
  have tk : Takes (cxOf (L2.CX P w) P w K mg base ["thing", "k"] "are_pulses" (defScope s4) f cdv A outer s H E0) (fun cls d _ H' => E0 cls d H') := takes_of rfl rfl rfl rfl
  have hp : PassesOwn (model P w) (cxOf (L2.CX P w) P w K mg base ["thing", "k"] "are_pulses" (defScope s4) f cdv A outer s H E0).A (cxOf (L2.CX P w) P w K mg base ["thing", "k"] "are_pulses" (defScope s4) f cdv A outer s H E0).env (cxOf (L2.CX P w) P w K mg base ["thing", "k"] "are_pulses" (defScope s4) f cdv A outer s H E0).xe := passes_of rfl
  have nd := c4.nd
  exact (bss_cons (bs_ret (be_and (be_callD E.d2 hr tk (be_cons (be_var 0) be_nil)) (be_and1 (be_bi (c_all rfl) rfl B.all bt_all (be_consB (BB.of (be_comp rfl nd (bi_range1 rfl B.range (be_consB (BB.of (be_op o_sub (BB.of (be_bi c_len rfl B.len bt_len (be_consB (BB.of (be_var 0)) be_nilB))) (BB.of be_int))) be_nilB)) (blkOk_by (N := ["thing", "k"]) (sc := defScope s4) (own := [("k", 1)]) (by decide +kernel)) rfl (fun _ _ _ _ _ => (bg_slot 1 nd)) (fun _ _ _ _ _ => bts_nil) (fun _ _ _ _ _ => (be_cmp (o_lt) (BB.of (be_ix (BB.of (be_var 0)) (BB.of (be_var 1)))) (BB.of (be_ix (BB.of (be_var 0)) (BB.of (be_op o_add (BB.of (be_var 1)) (BB.of be_int))))) (nomark _))))) be_nilB)))))
    bss_nil)
theorem c5 : FnScope ["times", "least", "found", "k"] ["times", "least"] (defScope s5) := ⟨rfl, rfl, rfl, by decide +kernel, rfl, by decide +kernel, by decide +kernel⟩
theorem b5 (B : Bn mg) (Gn : Cn K mg) (E : Ev P w K mg base k) (f : Addr) (cdv : Value) (A : Around) (outer : List PySem.Env) (s : Shared) (H : Hp) (E0 : XK) (hr : Room k (A.deeper (envOfC "groups_of" (defScope s5) s.heap.objs.size f cdv))) :
    BSs (cxOf (L2.CX P w) P w K mg base ["times", "least", "found", "k"] "groups_of" (defScope s5) f cdv A outer s H E0) (pgK tab XP0 k) (fun cls d _ H' => E0 cls d H') (defBody s5) i5 := by
  have tk : Takes (cxOf (L2.CX P w) P w K mg base ["times", "least", "found", "k"] "groups_of" (defScope s5) f cdv A outer s H E0) (fun cls d _ H' => E0 cls d H') := takes_of rfl rfl rfl rfl
  have hp : PassesOwn (model P w) (cxOf (L2.CX P w) P w K mg base ["times", "least", "found", "k"] "groups_of" (defScope s5) f cdv A outer s H E0).A (cxOf (L2.CX P w) P w K mg base ["times", "least", "found", "k"] "groups_of" (defScope s5) f cdv A outer s H E0).env (cxOf (L2.CX P w) P w K mg base ["times", "least", "found", "k"] "groups_of" (defScope s5) f cdv A outer s H E0).xe := passes_of rfl
  have nd := c5.nd
  exact (bss_cons (bs_setO (j := 2) nd rfl (Or.inl rfl) (bf_lst be_nil))
    (bss_cons (bs_for hp rfl (bi_range1 rfl B.range (be_consB (BB.of (be_bi c_len rfl B.len bt_len (be_consB (BB.of (be_var 0)) be_nilB))) be_nilB)) (bg_slot 3 nd)
    (bss_cons (bs_ifs (PW.pt (bw_and (bt_cmp (o_gt) (BB.of (be_var 3)) (BB.of be_int) (nomark _)) (bw_and1 (bt_cmp (o_lt) (BB.of (be_op o_sub (BB.of (be_ix (BB.of (be_var 0)) (BB.of (be_var 3)))) (BB.of (be_ix (BB.of (be_var 0)) (BB.of (be_op o_sub (BB.of (be_var 3)) (BB.of be_int))))))) (BB.of (be_var 1)) (nomark _)))))
    (bss_cons (bs_augI (j := 2) o_iadd rfl (Or.inl rfl) (be_un u_neg (BB.of be_int)) be_int)
    bss_nil)
    (bss_cons (bs_app (j := 2) rfl (Or.inl rfl) be_int)
    bss_nil))
    bss_nil))
    (bss_cons (bs_ret (be_ty c_tuple rfl B.tuple bt_tuple (be_consB (be_pk 2) be_nilB)))
    bss_nil)))
theorem c6 : FnScope ["groups", "group"] ["groups"] (defScope s6) := ⟨rfl, rfl, rfl, by decide +kernel, rfl, by decide +kernel, by decide +kernel⟩
theorem b6 (B : Bn mg) (Gn : Cn K mg) (E : Ev P w K mg base k) (f : Addr) (cdv : Value) (A : Around) (outer : List PySem.Env) (s : Shared) (H : Hp) (E0 : XK) (hr : Room k (A.deeper (envOfC "figures_of" (defScope s6) s.heap.objs.size f cdv))) :
    BSs (cxOf (L2.CX P w) P w K mg base ["groups", "group"] "figures_of" (defScope s6) f cdv A outer s H E0) (pgK tab XP0 k) (fun cls d _ H' => E0 cls d H') (defBody s6) i6 := by
  have tk : Takes (cxOf (L2.CX P w) P w K mg base ["groups", "group"] "figures_of" (defScope s6) f cdv A outer s H E0) (fun cls d _ H' => E0 cls d H') := takes_of rfl rfl rfl rfl
  have hp : PassesOwn (model P w) (cxOf (L2.CX P w) P w K mg base ["groups", "group"] "figures_of" (defScope s6) f cdv A outer s H E0).A (cxOf (L2.CX P w) P w K mg base ["groups", "group"] "figures_of" (defScope s6) f cdv A outer s H E0).env (cxOf (L2.CX P w) P w K mg base ["groups", "group"] "figures_of" (defScope s6) f cdv A outer s H E0).xe := passes_of rfl
  have nd := c6.nd
  exact (bss_cons (bs_ifs (bt_val (BB.of (be_bi (c_any rfl) rfl B.any bt_any (be_consB (BB.of (be_comp rfl nd (bi_seqB (BB.of (be_var 0))) (blkOk_by (N := ["groups", "group"]) (sc := defScope s6) (own := [("group", 1)]) (by decide +kernel)) rfl (fun _ _ _ _ _ => (bg_slot 1 nd)) (fun _ _ _ _ _ => bts_nil) (fun _ _ _ _ _ => (be_cmp (o_gt) (BB.of (be_var 1)) (BB.of be_int) (nomark _))))) be_nilB))))
    (bss_cons (bs_ret be_non)
    bss_nil)
    bss_nil)
    (bss_cons (bs_ret (be_ty c_tuple rfl B.tuple bt_tuple (be_consB (BB.of (be_comp rfl nd (bi_seqB (BB.of (be_var 0))) (blkOk_by (N := ["groups", "group"]) (sc := defScope s6) (own := [("group", 1)]) (by decide +kernel)) rfl (fun _ _ _ _ _ => (bg_slot 1 nd)) (fun _ _ _ _ _ => bts_nil) (fun _ _ _ _ _ => (be_op o_mod (BB.of (be_var 1)) (BB.of be_int))))) be_nilB)))
    bss_nil))
theorem c7 : FnScope ["times", "least"] ["times", "least"] (defScope s7) := ⟨rfl, rfl, rfl, by decide +kernel, rfl, by decide +kernel, by decide +kernel⟩
theorem b7 (B : Bn mg) (Gn : Cn K mg) (E : Ev P w K mg base k) (f : Addr) (cdv : Value) (A : Around) (outer : List PySem.Env) (s : Shared) (H : Hp) (E0 : XK) (hr : Room k (A.deeper (envOfC "read_pulses" (defScope s7) s.heap.objs.size f cdv))) :
    BSs (cxOf (L2.CX P w) P w K mg base ["times", "least"] "read_pulses" (defScope s7) f cdv A outer s H E0) (pgK tab XP0 k) (fun cls d _ H' => E0 cls d H') (defBody s7) i7 := by
  have tk : Takes (cxOf (L2.CX P w) P w K mg base ["times", "least"] "read_pulses" (defScope s7) f cdv A outer s H E0) (fun cls d _ H' => E0 cls d H') := takes_of rfl rfl rfl rfl
  have hp : PassesOwn (model P w) (cxOf (L2.CX P w) P w K mg base ["times", "least"] "read_pulses" (defScope s7) f cdv A outer s H E0).A (cxOf (L2.CX P w) P w K mg base ["times", "least"] "read_pulses" (defScope s7) f cdv A outer s H E0).env (cxOf (L2.CX P w) P w K mg base ["times", "least"] "read_pulses" (defScope s7) f cdv A outer s H E0).xe := passes_of rfl
  have nd := c7.nd
  exact (bss_cons (bs_ret (be_callD E.d6 hr tk (be_cons (be_callD E.d5 hr tk (be_cons (be_var 0) (be_cons (be_var 1) be_nil))) be_nil)))
    bss_nil)
theorem c8 : FnScope ["times", "k"] ["times"] (defScope s8) := ⟨rfl, rfl, rfl, by decide +kernel, rfl, by decide +kernel, by decide +kernel⟩
theorem b8 (B : Bn mg) (Gn : Cn K mg) (E : Ev P w K mg base k) (f : Addr) (cdv : Value) (A : Around) (outer : List PySem.Env) (s : Shared) (H : Hp) (E0 : XK) (hr : Room k (A.deeper (envOfC "gaps_of" (defScope s8) s.heap.objs.size f cdv))) :
    BSs (cxOf (L2.CX P w) P w K mg base ["times", "k"] "gaps_of" (defScope s8) f cdv A outer s H E0) (pgK tab XP0 k) (fun cls d _ H' => E0 cls d H') (defBody s8) i8 := by
  have tk : Takes (cxOf (L2.CX P w) P w K mg base ["times", "k"] "gaps_of" (defScope s8) f cdv A outer s H E0) (fun cls d _ H' => E0 cls d H') := takes_of rfl rfl rfl rfl
  have hp : PassesOwn (model P w) (cxOf (L2.CX P w) P w K mg base ["times", "k"] "gaps_of" (defScope s8) f cdv A outer s H E0).A (cxOf (L2.CX P w) P w K mg base ["times", "k"] "gaps_of" (defScope s8) f cdv A outer s H E0).env (cxOf (L2.CX P w) P w K mg base ["times", "k"] "gaps_of" (defScope s8) f cdv A outer s H E0).xe := passes_of rfl
  have nd := c8.nd
  exact (bss_cons (bs_ret (be_ty c_tuple rfl B.tuple bt_tuple (be_consB (BB.of (be_sset rfl rfl B.sorted bt_sorted rfl B.set bt_set (be_consB (BB.of (be_comp rfl nd (bi_range1 rfl B.range (be_consB (BB.of (be_op o_sub (BB.of (be_bi c_len rfl B.len bt_len (be_consB (BB.of (be_var 0)) be_nilB))) (BB.of be_int))) be_nilB)) (blkOk_by (N := ["times", "k"]) (sc := defScope s8) (own := [("k", 1)]) (by decide +kernel)) rfl (fun _ _ _ _ _ => (bg_slot 1 nd)) (fun _ _ _ _ _ => bts_nil) (fun _ _ _ _ _ => (be_op o_sub (BB.of (be_ix (BB.of (be_var 0)) (BB.of (be_op o_add (BB.of (be_var 1)) (BB.of be_int))))) (BB.of (be_ix (BB.of (be_var 0)) (BB.of (be_var 1)))))))) be_nilB))) be_nilB)))
    bss_nil)
theorem c9 : FnScope ["times", "found", "least", "told"] ["times"] (defScope s9) := ⟨rfl, rfl, rfl, by decide +kernel, rfl, by decide +kernel, by decide +kernel⟩
theorem b9 (B : Bn mg) (Gn : Cn K mg) (E : Ev P w K mg base k) (f : Addr) (cdv : Value) (A : Around) (outer : List PySem.Env) (s : Shared) (H : Hp) (E0 : XK) (hr : Room k (A.deeper (envOfC "readings" (defScope s9) s.heap.objs.size f cdv))) :
    BSs (cxOf (L2.CX P w) P w K mg base ["times", "found", "least", "told"] "readings" (defScope s9) f cdv A outer s H E0) (pgK tab XP0 k) (fun cls d _ H' => E0 cls d H') (defBody s9) i9 := by
  have tk : Takes (cxOf (L2.CX P w) P w K mg base ["times", "found", "least", "told"] "readings" (defScope s9) f cdv A outer s H E0) (fun cls d _ H' => E0 cls d H') := takes_of rfl rfl rfl rfl
  have hp : PassesOwn (model P w) (cxOf (L2.CX P w) P w K mg base ["times", "found", "least", "told"] "readings" (defScope s9) f cdv A outer s H E0).A (cxOf (L2.CX P w) P w K mg base ["times", "found", "least", "told"] "readings" (defScope s9) f cdv A outer s H E0).env (cxOf (L2.CX P w) P w K mg base ["times", "found", "least", "told"] "readings" (defScope s9) f cdv A outer s H E0).xe := passes_of rfl
  have nd := c9.nd
  exact (bss_cons (bs_setO (j := 1) nd rfl (Or.inl rfl) (bf_lst be_nil))
    (bss_cons (bs_for hp rfl (bi_seq (be_ite (bt_cmp (o_gt) (BB.of (be_bi c_len rfl B.len bt_len (be_consB (BB.of (be_var 0)) be_nilB))) (BB.of be_int) (nomark _)) (be_op o_add (BB.of (be_callD E.d8 hr tk (be_cons (be_var 0) be_nil))) (BB.of (be_tup (be_cons (be_op o_add (BB.of (be_ix (BB.of (be_callD E.d8 hr tk (be_cons (be_var 0) be_nil))) (BB.of (be_un u_neg (BB.of be_int))))) (BB.of be_int)) be_nil)))) (be_tup (be_cons be_int be_nil)))) (bg_slot 2 nd)
    (bss_cons (bs_set (j := 3) nd rfl (Or.inl rfl) (be_callD E.d7 hr tk (be_cons (be_var 0) (be_cons (be_var 2) be_nil))))
    (bss_cons (bs_ifs (bt_cmp (o_isNot) (BB.of (be_var 3)) (BB.of be_non) (nomark _))
    (bss_cons (bs_app (j := 1) rfl (Or.inl rfl) (be_tup (be_cons (be_var 2) (be_cons (be_var 3) be_nil))))
    bss_nil)
    bss_nil)
    bss_nil)))
    (bss_cons (bs_ret (be_ty c_tuple rfl B.tuple bt_tuple (be_consB (be_pk 1) be_nilB)))
    bss_nil)))
theorem c10 : FnScope ["times", "digits", "able", "gaps", "below", "first", "least", "told", "gap"] ["times", "digits"] (defScope s10) := ⟨rfl, rfl, rfl, by decide +kernel, rfl, by decide +kernel, by decide +kernel⟩
theorem b10 (B : Bn mg) (Gn : Cn K mg) (E : Ev P w K mg base k) (f : Addr) (cdv : Value) (A : Around) (outer : List PySem.Env) (s : Shared) (H : Hp) (E0 : XK) (hr : Room k (A.deeper (envOfC "bounds_for" (defScope s10) s.heap.objs.size f cdv))) :
    BSs (cxOf (L2.CX P w) P w K mg base ["times", "digits", "able", "gaps", "below", "first", "least", "told", "gap"] "bounds_for" (defScope s10) f cdv A outer s H E0) (pgK tab XP0 k) (fun cls d _ H' => E0 cls d H') (defBody s10) i10 := by
  have tk : Takes (cxOf (L2.CX P w) P w K mg base ["times", "digits", "able", "gaps", "below", "first", "least", "told", "gap"] "bounds_for" (defScope s10) f cdv A outer s H E0) (fun cls d _ H' => E0 cls d H') := takes_of rfl rfl rfl rfl
  have hp : PassesOwn (model P w) (cxOf (L2.CX P w) P w K mg base ["times", "digits", "able", "gaps", "below", "first", "least", "told", "gap"] "bounds_for" (defScope s10) f cdv A outer s H E0).A (cxOf (L2.CX P w) P w K mg base ["times", "digits", "able", "gaps", "below", "first", "least", "told", "gap"] "bounds_for" (defScope s10) f cdv A outer s H E0).env (cxOf (L2.CX P w) P w K mg base ["times", "digits", "able", "gaps", "below", "first", "least", "told", "gap"] "bounds_for" (defScope s10) f cdv A outer s H E0).xe := passes_of rfl
  have nd := c10.nd
  exact (bss_cons (bs_set (j := 2) nd rfl (Or.inr rfl) (be_comp rfl nd (bi_seqB (BB.of (be_callD E.d9 hr tk (be_cons (be_var 0) be_nil)))) (blkOk_by (N := ["times", "digits", "able", "gaps", "below", "first", "least", "told", "gap"]) (sc := defScope s10) (own := [("least", 6), ("told", 7)]) (by decide +kernel)) rfl (fun _ _ _ _ _ => (bg_tup rfl (bgs_cons (bg_slot 6 nd) (bgs_cons (bg_slot 7 nd) bgs_nil)))) (fun _ _ _ _ _ => (bts_one (bt_cmp (o_eq hr.units) (BB.of (be_var 7)) (BB.of (be_ty c_tuple rfl B.tuple bt_tuple (be_consB (BB.of (be_var 1)) be_nilB))) (nomark _)))) (fun _ _ _ _ _ => (be_var 6))))
    (bss_cons (bs_ifs (bt_cmp (o_eq hr.units) (BB.of (be_var 2)) (BB.of (be_lst be_nil)) (nomark _))
    (bss_cons (bs_ret be_non)
    bss_nil)
    bss_nil)
    (bss_cons (bs_set (j := 3) nd rfl (Or.inl rfl) (be_callD E.d8 hr tk (be_cons (be_var 0) be_nil)))
    (bss_cons (bs_setC (j := 4) rfl nd rfl rfl (sw_true rfl rfl rfl (by decide +kernel)) (bi_seqB (BB.of (be_var 3))) (blkOk_by (N := ["times", "digits", "able", "gaps", "below", "first", "least", "told", "gap"]) (sc := defScope s10) (own := [("gap", 8)]) (by decide +kernel)) rfl (fun _ _ _ _ _ => (bg_slot 8 nd)) (fun _ _ _ _ _ => (bts_one (bt_cmp (o_lt) (BB.of (be_var 8)) (BB.of (be_ix (BB.of (be_var 2)) (BB.of be_int))) (nomark _)))) (fun _ _ _ _ _ => (be_var 8)))
    (bss_cons (bs_set (j := 5) nd rfl (Or.inl rfl) (be_ite (bt_cmp (o_ne hr.units) (BB.of (be_var 4)) (BB.of (be_lst be_nil)) (nomark _)) (be_op o_add (BB.of (be_ix (BB.of (be_var 4)) (BB.of (be_un u_neg (BB.of be_int))))) (BB.of be_int)) be_int))
    (bss_cons (bs_ret (be_tup (be_cons (be_var 5) (be_cons (be_ite (PW.pt (bw_or (bt_cmp (o_eq hr.units) (BB.of (be_var 3)) (BB.of (be_tup be_nil)) (nomark _)) (bw_or1 (bt_cmp (o_gt) (BB.of (be_ix (BB.of (be_var 2)) (BB.of (be_un u_neg (BB.of be_int))))) (BB.of (be_ix (BB.of (be_var 3)) (BB.of (be_un u_neg (BB.of be_int))))) (nomark _))))) be_non (be_ix (BB.of (be_var 2)) (BB.of (be_un u_neg (BB.of be_int))))) be_nil))))
    bss_nil))))))
theorem c11 : FnScope ["times", "least", "most", "groups", "rows", "group", "longer", "lost", "row", "more", "_"] ["times", "least", "most"] (defScope s11) := ⟨rfl, rfl, rfl, by decide +kernel, rfl, by decide +kernel, by decide +kernel⟩
theorem b11 (B : Bn mg) (Gn : Cn K mg) (E : Ev P w K mg base k) (f : Addr) (cdv : Value) (A : Around) (outer : List PySem.Env) (s : Shared) (H : Hp) (E0 : XK) (hr : Room k (A.deeper (envOfC "could_be_sent" (defScope s11) s.heap.objs.size f cdv))) :
    BSs (cxOf (L2.CX P w) P w K mg base ["times", "least", "most", "groups", "rows", "group", "longer", "lost", "row", "more", "_"] "could_be_sent" (defScope s11) f cdv A outer s H E0) (pgK tab XP0 k) (fun cls d _ H' => E0 cls d H') (defBody s11) i11 := by
  have tk : Takes (cxOf (L2.CX P w) P w K mg base ["times", "least", "most", "groups", "rows", "group", "longer", "lost", "row", "more", "_"] "could_be_sent" (defScope s11) f cdv A outer s H E0) (fun cls d _ H' => E0 cls d H') := takes_of rfl rfl rfl rfl
  have hp : PassesOwn (model P w) (cxOf (L2.CX P w) P w K mg base ["times", "least", "most", "groups", "rows", "group", "longer", "lost", "row", "more", "_"] "could_be_sent" (defScope s11) f cdv A outer s H E0).A (cxOf (L2.CX P w) P w K mg base ["times", "least", "most", "groups", "rows", "group", "longer", "lost", "row", "more", "_"] "could_be_sent" (defScope s11) f cdv A outer s H E0).env (cxOf (L2.CX P w) P w K mg base ["times", "least", "most", "groups", "rows", "group", "longer", "lost", "row", "more", "_"] "could_be_sent" (defScope s11) f cdv A outer s H E0).xe := passes_of rfl
  have nd := c11.nd
  exact (bss_cons (bs_set (j := 3) nd rfl (Or.inl rfl) (be_callD E.d5 hr tk (be_cons (be_var 0) (be_cons (be_var 1) be_nil))))
    (bss_cons (bs_set (j := 4) nd rfl (Or.inl rfl) (be_lst (be_cons (be_tup (be_cons be_int (be_cons (be_tup be_nil) be_nil))) be_nil)))
    (bss_cons (bs_for hp rfl (bi_seq (be_var 3)) (bg_slot 5 nd)
    (bss_cons (bs_setO (j := 6) nd rfl (Or.inl rfl) (bf_lst be_nil))
    (bss_cons (bs_for hp rfl (bi_seq (be_var 4)) (bg_tup rfl (bgs_cons (bg_slot 7 nd) (bgs_cons (bg_slot 8 nd) bgs_nil)))
    (bss_cons (bs_for hp rfl (bi_range1 rfl B.range (be_consB (BB.of (be_op o_add (BB.of (be_op o_sub (BB.of (be_var 2)) (BB.of (be_var 7)))) (BB.of be_int))) be_nilB)) (bg_slot 9 nd)
    (bss_cons (bs_ifs (bt_cmp (o_le) (BB.of (be_op o_add (BB.of (be_var 5)) (BB.of (be_var 9)))) (BB.of be_int) (nomark _))
    (bss_cons (bs_app (j := 6) rfl (Or.inl rfl) (be_tup (be_cons (be_op o_add (BB.of (be_var 7)) (BB.of (be_var 9))) (be_cons (be_op o_add (BB.of (be_var 8)) (BB.of (be_tup (be_cons (be_op o_mod (BB.of (be_op o_add (BB.of (be_var 5)) (BB.of (be_var 9)))) (BB.of be_int)) be_nil)))) be_nil))))
    bss_nil)
    bss_nil)
    bss_nil))
    bss_nil))
    (bss_frz (bss_cons (bs_set (j := 4) nd rfl (Or.inl rfl) (be_var 6))
    bss_nil)))))
    (bss_cons (bs_ret (be_ty c_tuple rfl B.tuple bt_tuple (be_consB (BB.of (be_ssetT hr.units rfl rfl B.sorted bt_sorted rfl B.set bt_set (be_consB (BB.of (be_comp rfl nd (bi_seqB (BB.of (be_var 4))) (blkOk_by (N := ["times", "least", "most", "groups", "rows", "group", "longer", "lost", "row", "more", "_"]) (sc := defScope s11) (own := [("_", 10), ("row", 8)]) (by decide +kernel)) rfl (fun _ _ _ _ _ => (bg_tup rfl (bgs_cons (bg_slot 10 nd) (bgs_cons (bg_slot 8 nd) bgs_nil)))) (fun _ _ _ _ _ => bts_nil) (fun _ _ _ _ _ => (be_var 8)))) be_nilB))) be_nilB)))
    bss_nil))))
theorem c12 : FnScope ["digits", "digit"] ["digits"] (defScope s12) := ⟨rfl, rfl, rfl, by decide +kernel, rfl, by decide +kernel, by decide +kernel⟩
theorem b12 (B : Bn mg) (Gn : Cn K mg) (E : Ev P w K mg base k) (f : Addr) (cdv : Value) (A : Around) (outer : List PySem.Env) (s : Shared) (H : Hp) (E0 : XK) (hr : Room k (A.deeper (envOfC "count_pulses" (defScope s12) s.heap.objs.size f cdv))) :
    BSs (cxOf (L2.CX P w) P w K mg base ["digits", "digit"] "count_pulses" (defScope s12) f cdv A outer s H E0) (pgK tab XP0 k) (fun cls d _ H' => E0 cls d H') (defBody s12) i12 := by
  have tk : Takes (cxOf (L2.CX P w) P w K mg base ["digits", "digit"] "count_pulses" (defScope s12) f cdv A outer s H E0) (fun cls d _ H' => E0 cls d H') := takes_of rfl rfl rfl rfl
  have hp : PassesOwn (model P w) (cxOf (L2.CX P w) P w K mg base ["digits", "digit"] "count_pulses" (defScope s12) f cdv A outer s H E0).A (cxOf (L2.CX P w) P w K mg base ["digits", "digit"] "count_pulses" (defScope s12) f cdv A outer s H E0).env (cxOf (L2.CX P w) P w K mg base ["digits", "digit"] "count_pulses" (defScope s12) f cdv A outer s H E0).xe := passes_of rfl
  have nd := c12.nd
  exact (bss_cons (bs_ret (be_bi (c_sum rfl) rfl B.sum bt_sum (be_consB (BB.of (be_comp rfl nd (bi_seqB (BB.of (be_var 0))) (blkOk_by (N := ["digits", "digit"]) (sc := defScope s12) (own := [("digit", 1)]) (by decide +kernel)) rfl (fun _ _ _ _ _ => (bg_slot 1 nd)) (fun _ _ _ _ _ => bts_nil) (fun _ _ _ _ _ => (be_ite (bt_cmp (o_gt) (BB.of (be_var 1)) (BB.of be_int) (nomark _)) (be_var 1) be_int)))) be_nilB)))
    bss_nil)
theorem c13 : FnScope ["times", "gap", "slack", "k", "step"] ["times", "gap", "slack"] (defScope s13) := ⟨rfl, rfl, rfl, by decide +kernel, rfl, by decide +kernel, by decide +kernel⟩
theorem b13 (B : Bn mg) (Gn : Cn K mg) (E : Ev P w K mg base k) (f : Addr) (cdv : Value) (A : Around) (outer : List PySem.Env) (s : Shared) (H : Hp) (E0 : XK) (hr : Room k (A.deeper (envOfC "is_dialled" (defScope s13) s.heap.objs.size f cdv))) :
    BSs (cxOf (L2.CX P w) P w K mg base ["times", "gap", "slack", "k", "step"] "is_dialled" (defScope s13) f cdv A outer s H E0) (pgK tab XP0 k) (fun cls d _ H' => E0 cls d H') (defBody s13) i13 := by
  have tk : Takes (cxOf (L2.CX P w) P w K mg base ["times", "gap", "slack", "k", "step"] "is_dialled" (defScope s13) f cdv A outer s H E0) (fun cls d _ H' => E0 cls d H') := takes_of rfl rfl rfl rfl
  have hp : PassesOwn (model P w) (cxOf (L2.CX P w) P w K mg base ["times", "gap", "slack", "k", "step"] "is_dialled" (defScope s13) f cdv A outer s H E0).A (cxOf (L2.CX P w) P w K mg base ["times", "gap", "slack", "k", "step"] "is_dialled" (defScope s13) f cdv A outer s H E0).env (cxOf (L2.CX P w) P w K mg base ["times", "gap", "slack", "k", "step"] "is_dialled" (defScope s13) f cdv A outer s H E0).xe := passes_of rfl
  have nd := c13.nd
  exact (bss_cons (bs_for hp rfl (bi_range1 rfl B.range (be_consB (BB.of (be_op o_sub (BB.of (be_bi c_len rfl B.len bt_len (be_consB (BB.of (be_var 0)) be_nilB))) (BB.of be_int))) be_nilB)) (bg_slot 3 nd)
    (bss_cons (bs_set (j := 4) nd rfl (Or.inl rfl) (be_op o_sub (BB.of (be_ix (BB.of (be_var 0)) (BB.of (be_op o_add (BB.of (be_var 3)) (BB.of be_int))))) (BB.of (be_ix (BB.of (be_var 0)) (BB.of (be_var 3))))))
    (bss_cons (bs_ifs (PW.pt (bw_and (bt_cmp (o_gt) (BB.of (be_bi c_abs rfl B.abs bt_abs (be_consB (BB.of (be_op o_sub (BB.of (be_var 4)) (BB.of (be_var 1)))) be_nilB))) (BB.of (be_var 2)) (nomark _)) (bw_and1 (bt_cmp (o_le) (BB.of (be_var 4)) (BB.of (be_op o_mul (BB.of be_int) (BB.of (be_var 1)))) (nomark _)))))
    (bss_cons (bs_ret be_bl)
    bss_nil)
    bss_nil)
    bss_nil)))
    (bss_cons (bs_ret (be_callD E.d1 hr tk (be_cons (be_var 1) (be_cons be_int be_nil))))
    bss_nil))
theorem c14 : FnScope ["script", "many", "draws", "seed", "cell", "number", "k"] ["script", "many"] (defScope s14) := ⟨rfl, rfl, rfl, by decide +kernel, rfl, by decide +kernel, by decide +kernel⟩
theorem b14 (B : Bn mg) (Gn : Cn K mg) (E : Ev P w K mg base k) (f : Addr) (cdv : Value) (A : Around) (outer : List PySem.Env) (s : Shared) (H : Hp) (E0 : XK) (hr : Room k (A.deeper (envOfC "_law_draws" (defScope s14) s.heap.objs.size f cdv))) :
    BSs (cxOf (L2.CX P w) P w K mg base ["script", "many", "draws", "seed", "cell", "number", "k"] "_law_draws" (defScope s14) f cdv A outer s H E0) (pgK tab XP0 k) (fun cls d _ H' => E0 cls d H') (defBody s14) i14 := by
  have tk : Takes (cxOf (L2.CX P w) P w K mg base ["script", "many", "draws", "seed", "cell", "number", "k"] "_law_draws" (defScope s14) f cdv A outer s H E0) (fun cls d _ H' => E0 cls d H') := takes_of rfl rfl rfl rfl
  have hp : PassesOwn (model P w) (cxOf (L2.CX P w) P w K mg base ["script", "many", "draws", "seed", "cell", "number", "k"] "_law_draws" (defScope s14) f cdv A outer s H E0).A (cxOf (L2.CX P w) P w K mg base ["script", "many", "draws", "seed", "cell", "number", "k"] "_law_draws" (defScope s14) f cdv A outer s H E0).env (cxOf (L2.CX P w) P w K mg base ["script", "many", "draws", "seed", "cell", "number", "k"] "_law_draws" (defScope s14) f cdv A outer s H E0).xe := passes_of rfl
  have nd := c14.nd
  exact (bss_cons (bs_setO (j := 2) nd rfl (Or.inl rfl) (bf_lst be_nil))
    (bss_cons (bs_set (j := 3) nd rfl (Or.inl rfl) be_int)
    (bss_cons (bs_for hp rfl (bi_seq (be_var 0)) (bg_slot 4 nd)
    (bss_cons (bs_set (j := 5) nd rfl (Or.inl rfl) (be_bi c_abs rfl B.abs bt_abs (be_consB (BB.of (be_ty c_int rfl B.int bt_int (be_consB (BB.of (be_var 4)) be_nilB))) be_nilB)))
    (bss_cons (bs_set (j := 3) nd rfl (Or.inl rfl) (be_op o_mod (BB.of (be_ty c_int rfl B.int bt_int (be_consB (BB.of (be_op o_add (BB.of (be_op o_add (BB.of (be_op o_mul (BB.of (be_var 3)) (BB.of be_int))) (BB.of (be_var 5)))) (BB.of be_int))) be_nilB))) (BB.of be_int)))
    (bss_cons (bs_ifs (bt_cmp (o_lt) (BB.of (be_var 5)) (BB.of (be_op o_pow (BB.of be_int) (BB.of be_int))) (nomark _))
    (bss_cons (bs_app (j := 2) rfl (Or.inl rfl) (be_op o_mod (BB.of (be_ty c_int rfl B.int bt_int (be_consB (BB.of (be_var 5)) be_nilB))) (BB.of be_int)))
    (bss_cons (bs_app (j := 2) rfl (Or.inl rfl) (be_op o_mod (BB.of (be_ty c_int rfl B.int bt_int (be_consB (BB.of (be_var 3)) be_nilB))) (BB.of be_int)))
    (bss_cons (bs_set (j := 5) nd rfl (Or.inl rfl) be_int)
    bss_nil)))
    bss_nil)
    (bss_cons (bs_for hp rfl (bi_range1 rfl B.range (be_consB (BB.of be_int) be_nilB)) (bg_slot 6 nd)
    (bss_cons (bs_ifs (bt_cmp (o_gt) (BB.of (be_var 5)) (BB.of be_int) (nomark _))
    (bss_cons (bs_app (j := 2) rfl (Or.inl rfl) (be_op o_mod (BB.of (be_ty c_int rfl B.int bt_int (be_consB (BB.of (be_var 5)) be_nilB))) (BB.of be_int)))
    (bss_cons (bs_set (j := 5) nd rfl (Or.inl rfl) (be_op o_fdiv (BB.of (be_var 5)) (BB.of be_int)))
    bss_nil))
    bss_nil)
    bss_nil))
    bss_nil)))))
    (bss_cons (bs_for hp rfl (bi_range1 rfl B.range (be_consB (BB.of (be_var 1)) be_nilB)) (bg_slot 6 nd)
    (bss_cons (bs_set (j := 3) nd rfl (Or.inl rfl) (be_op o_mod (BB.of (be_ty c_int rfl B.int bt_int (be_consB (BB.of (be_op o_add (BB.of (be_op o_mul (BB.of (be_var 3)) (BB.of be_int))) (BB.of be_int))) be_nilB))) (BB.of be_int)))
    (bss_cons (bs_app (j := 2) rfl (Or.inl rfl) (be_op o_fdiv (BB.of (be_var 3)) (BB.of be_int)))
    bss_nil)))
    (bss_frz (bss_cons (bs_ret (be_var 2))
    bss_nil))))))
theorem c15 : FnScope ["w", "many"] ["w", "many"] (defScope s15) := ⟨rfl, rfl, rfl, by decide +kernel, rfl, by decide +kernel, by decide +kernel⟩
theorem b15 (B : Bn mg) (f : Addr) (cdv : Value) (A : Around) (outer : List PySem.Env) (s : Shared) (H : Hp) (E0 : XK) (hr : Room k (A.deeper (envOfC "_law_next" (defScope s15) s.heap.objs.size f cdv))) :
    BSs (cxOf (L2.CX P w) P w K mg base ["w", "many"] "_law_next" (defScope s15) f cdv A outer s H E0) (pgK tab XP0 k) (fun cls d _ H' => E0 cls d H') (defBody s15) i15 := by
  have hu := hu_of hr
  refine pssW (pss_cons (ps_daug hu (pv 0) pe_str pe_int in_add (fun _ _ _ => rfl))
    (pss_cons (ps_if (pt_cmpR op_gt (pe_dget hu (pv 0) pe_str (fun _ _ => rfl)) (pe_callB call_len (by rfl) B.len bt_len (pa_cons (pe_dget hu (pv 0) pe_str (fun _ _ => rfl)) pa_nil)) (nomark _)) (pss_one (ps_ret pe_int)) pss_nil)
    (pss_one (ps_ret (pe_op op_mod (pe_callTy call_int1 (by rfl) B.int bt_int (pa_cons (pe_ix ix_list (pe_dget hu (pv 0) pe_str (fun _ _ => rfl)) (pe_op op_sub (pe_dget hu (pv 0) pe_str (fun _ _ => rfl)) pe_int) (fun _ _ => rfl)) pa_nil)) (pv 1)))))) fun D σ H h => ?_
  obtain ⟨a, da, m, n, ds, s0, s1, h1, h2, h3, hm, q1, q2⟩ := draw_read h
  have e1 : upd H a (.dK (wD da (n + 1))) a = some (.dK (wD da (n + 1))) := upd_same
  refine ⟨_, s0, a, _, rfl, by rw [← wD_at da n]; exact DGet.k (k := Sum.inr ("at" : Str)) h1, _, _, rfl, rfl, upd H a (.dK (wD da (n + 1))), by rw [← wD_put da n]; exact DPut.k (k := Sum.inr ("at" : Str)) h1 (by show 2 < sizeLine; rw [sizeLine_eq]; decide), ?_⟩
  refine ⟨_, s0, a, _, rfl, by rw [← wD_at da (n + 1)]; exact DGet.k (k := Sum.inr ("at" : Str)) e1, ?_⟩
  refine ⟨_, s0, a, _, rfl, by rw [← wD_draws da (n + 1)]; exact DGet.k (k := Sum.inr ("draws" : Str)) e1, ?_⟩
  refine ⟨_, _, rfl, .inl ⟨_, h3, rfl⟩, ?_⟩
  refine ⟨_, _, rfl, rfl, _, rfl, ?_⟩
  rw [List.length_map]
  refine ite2 (fun c => ?_) (fun c => ?_)
  · exact q1 (by have := of_decide_eq_true c; omega)
  · have hlt : n < ds.length := by
      have : ¬ ((ds.length : Int) < ((n + 1 : Nat) : Int)) := fun z => c (decide_eq_true z)
      omega
    refine ⟨_, s0, a, _, rfl, by rw [← wD_draws da (n + 1)]; exact DGet.k (k := Sum.inr ("draws" : Str)) e1, ?_⟩
    refine ⟨_, s0, a, _, rfl, by rw [← wD_at da (n + 1)]; exact DGet.k (k := Sum.inr ("at" : Str)) e1, ?_⟩
    refine ⟨_, _, rfl, rfl, ?_⟩
    have e2 : (((n + 1 : Nat) : Int) - 1) = (n : Int) := by omega
    simp only [e2]
    refine ⟨da, _, _, V.int ds[n], rfl, rfl, h3, atI_nat (by rw [List.getElem?_map, List.getElem?_eq_getElem hlt]; rfl), ?_⟩
    refine .inl ⟨_, rfl, ?_⟩
    exact ⟨_, s1, _, _, rfl, rfl, hm, q2 _ (List.getElem?_eq_getElem hlt)⟩
theorem c16 : FnScope ["w", "some"] ["w", "some"] (defScope s16) := ⟨rfl, rfl, rfl, by decide +kernel, rfl, by decide +kernel, by decide +kernel⟩
theorem b16 (B : Bn mg) (Gn : Cn K mg) (E : Ev P w K mg base k) (f : Addr) (cdv : Value) (A : Around) (outer : List PySem.Env) (s : Shared) (H : Hp) (E0 : XK) (hr : Room k (A.deeper (envOfC "_law_pick" (defScope s16) s.heap.objs.size f cdv))) :
    BSs (cxOf (L2.CX P w) P w K mg base ["w", "some"] "_law_pick" (defScope s16) f cdv A outer s H E0) (pgK tab XP0 k) (fun cls d _ H' => E0 cls d H') (defBody s16) i16 := by
  have tk : Takes (cxOf (L2.CX P w) P w K mg base ["w", "some"] "_law_pick" (defScope s16) f cdv A outer s H E0) (fun cls d _ H' => E0 cls d H') := takes_of rfl rfl rfl rfl
  have hp : PassesOwn (model P w) (cxOf (L2.CX P w) P w K mg base ["w", "some"] "_law_pick" (defScope s16) f cdv A outer s H E0).A (cxOf (L2.CX P w) P w K mg base ["w", "some"] "_law_pick" (defScope s16) f cdv A outer s H E0).env (cxOf (L2.CX P w) P w K mg base ["w", "some"] "_law_pick" (defScope s16) f cdv A outer s H E0).xe := passes_of rfl
  have nd := c16.nd
  exact (bss_cons (bs_ret (be_ix (BB.of (be_var 1)) (BB.of (be_callD E.d15 hr tk (be_cons (be_var 0) (be_cons (be_bi c_len rfl B.len bt_len (be_consB (BB.of (be_var 1)) be_nilB)) be_nil))))))
    bss_nil)
theorem c17 : FnScope ["actual", "due", "k", "key"] ["actual", "due"] (defScope s17) := ⟨rfl, rfl, rfl, by decide +kernel, rfl, by decide +kernel, by decide +kernel⟩
theorem b17 (B : Bn mg) (Gn : Cn K mg) (E : Ev P w K mg base k) (f : Addr) (cdv : Value) (A : Around) (outer : List PySem.Env) (s : Shared) (H : Hp) (E0 : XK) (hr : Room k (A.deeper (envOfC "_law_same" (defScope s17) s.heap.objs.size f cdv))) :
    BSs (cxOf (L2.CX P w) P w K mg base ["actual", "due", "k", "key"] "_law_same" (defScope s17) f cdv A outer s H E0) (pgK tab XP0 k) (fun cls d _ H' => E0 cls d H') (defBody s17) i17 := by
  have tk : Takes (cxOf (L2.CX P w) P w K mg base ["actual", "due", "k", "key"] "_law_same" (defScope s17) f cdv A outer s H E0) (fun cls d _ H' => E0 cls d H') := takes_of rfl rfl rfl rfl
  have hp : PassesOwn (model P w) (cxOf (L2.CX P w) P w K mg base ["actual", "due", "k", "key"] "_law_same" (defScope s17) f cdv A outer s H E0).A (cxOf (L2.CX P w) P w K mg base ["actual", "due", "k", "key"] "_law_same" (defScope s17) f cdv A outer s H E0).env (cxOf (L2.CX P w) P w K mg base ["actual", "due", "k", "key"] "_law_same" (defScope s17) f cdv A outer s H E0).xe := passes_of rfl
  have nd := c17.nd
  exact (bss_cons (bs_ifs (bt_cmp (o_is) (BB.of (be_var 1)) (BB.of be_non) (nomark _))
    (bss_cons (bs_ret (be_cmp (o_is) (BB.of (be_var 0)) (BB.of be_non) (nomark _)))
    bss_nil)
    bss_nil)
    (bss_cons (bs_ifs (PW.pt (bw_or (bt_val (BB.of (be_isi (t := .tup) rfl B.isinstance bt_isinstance rfl B.tuple bt_tuple (BB.of (be_var 1))))) (bw_or1 (bt_val (BB.of (be_isi (t := .lst) rfl B.isinstance bt_isinstance rfl B.list bt_list (BB.of (be_var 1))))))))
    (bss_cons (bs_ifs (PW.pt (bw_or (bt_cmp (o_ne hr.units) (BB.of (be_isi (t := .tup) rfl B.isinstance bt_isinstance rfl B.tuple bt_tuple (BB.of (be_var 1)))) (BB.of (be_isi (t := .tup) rfl B.isinstance bt_isinstance rfl B.tuple bt_tuple (BB.of (be_var 0)))) (nomark _)) (bw_or1 (bt_cmp (o_ne hr.units) (BB.of (be_isi (t := .lst) rfl B.isinstance bt_isinstance rfl B.list bt_list (BB.of (be_var 1)))) (BB.of (be_isi (t := .lst) rfl B.isinstance bt_isinstance rfl B.list bt_list (BB.of (be_var 0)))) (nomark _)))))
    (bss_cons (bs_ret be_bl)
    bss_nil)
    bss_nil)
    (bss_cons (bs_ifs (bt_cmp (o_ne hr.units) (BB.of (be_bi c_len rfl B.len bt_len (be_consB (BB.of (be_var 0)) be_nilB))) (BB.of (be_bi c_len rfl B.len bt_len (be_consB (BB.of (be_var 1)) be_nilB))) (nomark _))
    (bss_cons (bs_ret be_bl)
    bss_nil)
    bss_nil)
    (bss_cons (bs_for hp rfl (bi_range1 rfl B.range (be_consB (BB.of (be_bi c_len rfl B.len bt_len (be_consB (BB.of (be_var 1)) be_nilB))) be_nilB)) (bg_slot 2 nd)
    (bss_cons (bs_ifs (bt_not (bt_val (BB.of (be_callD E.d17 hr tk (be_cons (be_ix (BB.of (be_var 0)) (BB.of (be_var 2))) (be_cons (be_ix (BB.of (be_var 1)) (BB.of (be_var 2))) be_nil))))))
    (bss_cons (bs_ret be_bl)
    bss_nil)
    bss_nil)
    bss_nil))
    (bss_cons (bs_ret be_bl)
    bss_nil))))
    bss_nil)
    (bss_cons (bs_ifs (bt_val (BB.of (be_isi (t := .dic) rfl B.isinstance bt_isinstance rfl B.dict bt_dict (BB.of (be_var 1)))))
    (bss_cons (bs_ifs (PW.pt (bw_or (bt_not (bt_val (BB.of (be_isi (t := .dic) rfl B.isinstance bt_isinstance rfl B.dict bt_dict (BB.of (be_var 0)))))) (bw_or1 (bt_cmp (o_ne hr.units) (BB.of (be_bi c_len rfl B.len bt_len (be_consB (BB.of (be_var 0)) be_nilB))) (BB.of (be_bi c_len rfl B.len bt_len (be_consB (BB.of (be_var 1)) be_nilB))) (nomark _)))))
    (bss_cons (bs_ret be_bl)
    bss_nil)
    bss_nil)
    (bss_cons (bs_ret (be_cmp (o_eq hr.units) (BB.of (be_comp rfl nd (bi_seqB (BB.of (be_var 1))) (blkOk_by (N := ["actual", "due", "k", "key"]) (sc := defScope s17) (own := [("key", 3)]) (by decide +kernel)) rfl (fun _ _ _ _ _ => (bg_slot 3 nd)) (fun _ _ _ _ _ => (bts_one (PW.pt (bw_or (bt_cmp (o_notIn) (BB.of (be_var 3)) (BB.of (be_var 0)) rfl) (bw_or1 (bt_not (bt_val (BB.of (be_callD E.d17 hr takes0 (be_cons (be_ix (BB.of (be_var 0)) (BB.of (be_var 3))) (be_cons (be_ix (BB.of (be_var 1)) (BB.of (be_var 3))) be_nil))))))))))) (fun _ _ _ _ _ => (be_var 3)))) (BB.of (be_lst be_nil)) (nomark _)))
    bss_nil))
    bss_nil)
    (bss_cons (bs_ifs (bt_cmp (o_ne hr.units) (BB.of (be_isi (t := .bool) rfl B.isinstance bt_isinstance rfl B.bool bt_bool (BB.of (be_var 1)))) (BB.of (be_isi (t := .bool) rfl B.isinstance bt_isinstance rfl B.bool bt_bool (BB.of (be_var 0)))) (nomark _))
    (bss_cons (bs_ret be_bl)
    bss_nil)
    bss_nil)
    (bss_cons (bs_ifs (PW.pt (bw_or (bt_cmp (o_ne hr.units) (BB.of (be_isi (t := .int) rfl B.isinstance bt_isinstance rfl B.int bt_int (BB.of (be_var 1)))) (BB.of (be_isi (t := .int) rfl B.isinstance bt_isinstance rfl B.int bt_int (BB.of (be_var 0)))) (nomark _)) (bw_or1 (bt_cmp (o_ne hr.units) (BB.of (be_isi (t := .str) rfl B.isinstance bt_isinstance rfl B.str bt_str (BB.of (be_var 1)))) (BB.of (be_isi (t := .str) rfl B.isinstance bt_isinstance rfl B.str bt_str (BB.of (be_var 0)))) (nomark _)))))
    (bss_cons (bs_ret be_bl)
    bss_nil)
    bss_nil)
    (bss_cons (bs_ret (be_cmp (o_eq hr.units) (BB.of (be_var 0)) (BB.of (be_var 1)) (nomark _)))
    bss_nil))))))
theorem c18 : FnScope ["digits", "gap", "wait", "found", "time", "digit", "many", "k"] ["digits", "gap", "wait"] (defScope s18) := ⟨rfl, rfl, rfl, by decide +kernel, rfl, by decide +kernel, by decide +kernel⟩
theorem b18 (B : Bn mg) (Gn : Cn K mg) (E : Ev P w K mg base k) (f : Addr) (cdv : Value) (A : Around) (outer : List PySem.Env) (s : Shared) (H : Hp) (E0 : XK) (hr : Room k (A.deeper (envOfC "_law_pulses" (defScope s18) s.heap.objs.size f cdv))) :
    BSs (cxOf (L2.CX P w) P w K mg base ["digits", "gap", "wait", "found", "time", "digit", "many", "k"] "_law_pulses" (defScope s18) f cdv A outer s H E0) (pgK tab XP0 k) (fun cls d _ H' => E0 cls d H') (defBody s18) i18 := by
  have tk : Takes (cxOf (L2.CX P w) P w K mg base ["digits", "gap", "wait", "found", "time", "digit", "many", "k"] "_law_pulses" (defScope s18) f cdv A outer s H E0) (fun cls d _ H' => E0 cls d H') := takes_of rfl rfl rfl rfl
  have hp : PassesOwn (model P w) (cxOf (L2.CX P w) P w K mg base ["digits", "gap", "wait", "found", "time", "digit", "many", "k"] "_law_pulses" (defScope s18) f cdv A outer s H E0).A (cxOf (L2.CX P w) P w K mg base ["digits", "gap", "wait", "found", "time", "digit", "many", "k"] "_law_pulses" (defScope s18) f cdv A outer s H E0).env (cxOf (L2.CX P w) P w K mg base ["digits", "gap", "wait", "found", "time", "digit", "many", "k"] "_law_pulses" (defScope s18) f cdv A outer s H E0).xe := passes_of rfl
  have nd := c18.nd
  exact (bss_cons (bs_parG rfl (pf_val (be_lst be_nil) (pf_val be_int pf_nil)) (pgN_cons nd rfl (Or.inl rfl) (pgN_cons nd rfl (Or.inr rfl) pgN_nil)) rfl (by decide) rfl rfl)
    (bss_cons (bs_for hp rfl (bi_seq (be_var 0)) (bg_slot 5 nd)
    (bss_cons (bs_set (j := 6) nd rfl (Or.inl rfl) (be_op o_add (BB.of (be_var 5)) (BB.of (be_op o_mul (BB.of be_int) (BB.of (be_ty c_int rfl B.int bt_int (be_consB (BB.of (be_cmp (o_eq hr.units) (BB.of (be_var 5)) (BB.of be_int) (nomark _))) be_nilB)))))))
    (bss_cons (bs_set (j := 3) nd rfl (Or.inl rfl) (be_op o_add (BB.of (be_var 3)) (BB.of (be_comp rfl nd (bi_range1 rfl B.range (be_consB (BB.of (be_var 6)) be_nilB)) (blkOk_by (N := ["digits", "gap", "wait", "found", "time", "digit", "many", "k"]) (sc := defScope s18) (own := [("k", 7)]) (by decide +kernel)) rfl (fun _ _ _ _ _ => (bg_slot 7 nd)) (fun _ _ _ _ _ => bts_nil) (fun _ _ _ _ _ => (be_op o_add (BB.of (be_var 4)) (BB.of (be_op o_mul (BB.of (be_var 7)) (BB.of (be_var 1))))))))))
    (bss_cons (bs_set (j := 4) nd rfl (Or.inr rfl) (be_op o_add (BB.of (be_op o_add (BB.of (be_var 4)) (BB.of (be_op o_mul (BB.of (be_op o_sub (BB.of (be_var 6)) (BB.of be_int))) (BB.of (be_var 1)))))) (BB.of (be_var 2))))
    bss_nil))))
    (bss_cons (bs_ret (be_ty c_tuple rfl B.tuple bt_tuple (be_consB (BB.of (be_var 3)) be_nilB)))
    bss_nil)))
theorem c19 : FnScope ["times", "least", "marks", "k"] ["times", "least"] (defScope s19) := ⟨rfl, rfl, rfl, by decide +kernel, rfl, by decide +kernel, by decide +kernel⟩
theorem b19 (B : Bn mg) (Gn : Cn K mg) (E : Ev P w K mg base k) (f : Addr) (cdv : Value) (A : Around) (outer : List PySem.Env) (s : Shared) (H : Hp) (E0 : XK) (hr : Room k (A.deeper (envOfC "_law_groups" (defScope s19) s.heap.objs.size f cdv))) :
    BSs (cxOf (L2.CX P w) P w K mg base ["times", "least", "marks", "k"] "_law_groups" (defScope s19) f cdv A outer s H E0) (pgK tab XP0 k) (fun cls d _ H' => E0 cls d H') (defBody s19) i19 := by
  have tk : Takes (cxOf (L2.CX P w) P w K mg base ["times", "least", "marks", "k"] "_law_groups" (defScope s19) f cdv A outer s H E0) (fun cls d _ H' => E0 cls d H') := takes_of rfl rfl rfl rfl
  have hp : PassesOwn (model P w) (cxOf (L2.CX P w) P w K mg base ["times", "least", "marks", "k"] "_law_groups" (defScope s19) f cdv A outer s H E0).A (cxOf (L2.CX P w) P w K mg base ["times", "least", "marks", "k"] "_law_groups" (defScope s19) f cdv A outer s H E0).env (cxOf (L2.CX P w) P w K mg base ["times", "least", "marks", "k"] "_law_groups" (defScope s19) f cdv A outer s H E0).xe := passes_of rfl
  have nd := c19.nd
  exact (bss_cons (bs_set (j := 2) nd rfl (Or.inr rfl) (be_op o_add (BB.of (be_comp rfl nd (bi_range1 rfl B.range (be_consB (BB.of (be_bi c_len rfl B.len bt_len (be_consB (BB.of (be_var 0)) be_nilB))) be_nilB)) (blkOk_by (N := ["times", "least", "marks", "k"]) (sc := defScope s19) (own := [("k", 3)]) (by decide +kernel)) rfl (fun _ _ _ _ _ => (bg_slot 3 nd)) (fun _ _ _ _ _ => (bts_one (PW.pt (bw_or (bt_cmp (o_eq hr.units) (BB.of (be_var 3)) (BB.of be_int) (nomark _)) (bw_or1 (bt_cmp (o_ge) (BB.of (be_op o_sub (BB.of (be_ix (BB.of (be_var 0)) (BB.of (be_var 3)))) (BB.of (be_ix (BB.of (be_var 0)) (BB.of (be_op o_sub (BB.of (be_var 3)) (BB.of be_int))))))) (BB.of (be_var 1)) (nomark _))))))) (fun _ _ _ _ _ => (be_var 3)))) (BB.of (be_lst (be_cons (be_bi c_len rfl B.len bt_len (be_consB (BB.of (be_var 0)) be_nilB)) be_nil)))))
    (bss_cons (bs_ret (be_ty c_tuple rfl B.tuple bt_tuple (be_consB (BB.of (be_comp rfl nd (bi_range1 rfl B.range (be_consB (BB.of (be_op o_sub (BB.of (be_bi c_len rfl B.len bt_len (be_consB (BB.of (be_var 2)) be_nilB))) (BB.of be_int))) be_nilB)) (blkOk_by (N := ["times", "least", "marks", "k"]) (sc := defScope s19) (own := [("k", 3)]) (by decide +kernel)) rfl (fun _ _ _ _ _ => (bg_slot 3 nd)) (fun _ _ _ _ _ => (bts_one (bt_cmp (o_lt) (BB.of (be_ix (BB.of (be_var 2)) (BB.of (be_var 3)))) (BB.of (be_bi c_len rfl B.len bt_len (be_consB (BB.of (be_var 0)) be_nilB))) (nomark _)))) (fun _ _ _ _ _ => (be_op o_sub (BB.of (be_ix (BB.of (be_var 2)) (BB.of (be_op o_add (BB.of (be_var 3)) (BB.of be_int))))) (BB.of (be_ix (BB.of (be_var 2)) (BB.of (be_var 3)))))))) be_nilB)))
    bss_nil))
theorem c20 : FnScope ["groups", "group"] ["groups"] (defScope s20) := ⟨rfl, rfl, rfl, by decide +kernel, rfl, by decide +kernel, by decide +kernel⟩
theorem b20 (B : Bn mg) (Gn : Cn K mg) (E : Ev P w K mg base k) (f : Addr) (cdv : Value) (A : Around) (outer : List PySem.Env) (s : Shared) (H : Hp) (E0 : XK) (hr : Room k (A.deeper (envOfC "_law_figures" (defScope s20) s.heap.objs.size f cdv))) :
    BSs (cxOf (L2.CX P w) P w K mg base ["groups", "group"] "_law_figures" (defScope s20) f cdv A outer s H E0) (pgK tab XP0 k) (fun cls d _ H' => E0 cls d H') (defBody s20) i20 := by
  have tk : Takes (cxOf (L2.CX P w) P w K mg base ["groups", "group"] "_law_figures" (defScope s20) f cdv A outer s H E0) (fun cls d _ H' => E0 cls d H') := takes_of rfl rfl rfl rfl
  have hp : PassesOwn (model P w) (cxOf (L2.CX P w) P w K mg base ["groups", "group"] "_law_figures" (defScope s20) f cdv A outer s H E0).A (cxOf (L2.CX P w) P w K mg base ["groups", "group"] "_law_figures" (defScope s20) f cdv A outer s H E0).env (cxOf (L2.CX P w) P w K mg base ["groups", "group"] "_law_figures" (defScope s20) f cdv A outer s H E0).xe := passes_of rfl
  have nd := c20.nd
  exact (bss_cons (bs_ifs (bt_cmp (o_ne hr.units) (BB.of (be_comp rfl nd (bi_seqB (BB.of (be_var 0))) (blkOk_by (N := ["groups", "group"]) (sc := defScope s20) (own := [("group", 1)]) (by decide +kernel)) rfl (fun _ _ _ _ _ => (bg_slot 1 nd)) (fun _ _ _ _ _ => (bts_one (bt_cmp (o_gt) (BB.of (be_var 1)) (BB.of be_int) (nomark _)))) (fun _ _ _ _ _ => (be_var 1)))) (BB.of (be_lst be_nil)) (nomark _))
    (bss_cons (bs_ret be_non)
    bss_nil)
    bss_nil)
    (bss_cons (bs_ret (be_ty c_tuple rfl B.tuple bt_tuple (be_consB (BB.of (be_comp rfl nd (bi_seqB (BB.of (be_var 0))) (blkOk_by (N := ["groups", "group"]) (sc := defScope s20) (own := [("group", 1)]) (by decide +kernel)) rfl (fun _ _ _ _ _ => (bg_slot 1 nd)) (fun _ _ _ _ _ => bts_nil) (fun _ _ _ _ _ => (be_op o_mod (BB.of (be_ty c_int rfl B.int bt_int (be_consB (BB.of (be_var 1)) be_nilB))) (BB.of be_int))))) be_nilB)))
    bss_nil))
theorem c21 : FnScope ["times", "k"] ["times"] (defScope s21) := ⟨rfl, rfl, rfl, by decide +kernel, rfl, by decide +kernel, by decide +kernel⟩
theorem b21 (B : Bn mg) (Gn : Cn K mg) (E : Ev P w K mg base k) (f : Addr) (cdv : Value) (A : Around) (outer : List PySem.Env) (s : Shared) (H : Hp) (E0 : XK) (hr : Room k (A.deeper (envOfC "_law_gaps" (defScope s21) s.heap.objs.size f cdv))) :
    BSs (cxOf (L2.CX P w) P w K mg base ["times", "k"] "_law_gaps" (defScope s21) f cdv A outer s H E0) (pgK tab XP0 k) (fun cls d _ H' => E0 cls d H') (defBody s21) i21 := by
  have tk : Takes (cxOf (L2.CX P w) P w K mg base ["times", "k"] "_law_gaps" (defScope s21) f cdv A outer s H E0) (fun cls d _ H' => E0 cls d H') := takes_of rfl rfl rfl rfl
  have hp : PassesOwn (model P w) (cxOf (L2.CX P w) P w K mg base ["times", "k"] "_law_gaps" (defScope s21) f cdv A outer s H E0).A (cxOf (L2.CX P w) P w K mg base ["times", "k"] "_law_gaps" (defScope s21) f cdv A outer s H E0).env (cxOf (L2.CX P w) P w K mg base ["times", "k"] "_law_gaps" (defScope s21) f cdv A outer s H E0).xe := passes_of rfl
  have nd := c21.nd
  exact (bss_cons (bs_ret (be_ty c_tuple rfl B.tuple bt_tuple (be_consB (BB.of (be_sset rfl rfl B.sorted bt_sorted rfl B.set bt_set (be_consB (BB.of (be_comp rfl nd (bi_range1 rfl B.range (be_consB (BB.of (be_op o_sub (BB.of (be_bi c_len rfl B.len bt_len (be_consB (BB.of (be_var 0)) be_nilB))) (BB.of be_int))) be_nilB)) (blkOk_by (N := ["times", "k"]) (sc := defScope s21) (own := [("k", 1)]) (by decide +kernel)) rfl (fun _ _ _ _ _ => (bg_slot 1 nd)) (fun _ _ _ _ _ => bts_nil) (fun _ _ _ _ _ => (be_op o_sub (BB.of (be_ix (BB.of (be_var 0)) (BB.of (be_op o_add (BB.of (be_var 1)) (BB.of be_int))))) (BB.of (be_ix (BB.of (be_var 0)) (BB.of (be_var 1)))))))) be_nilB))) be_nilB)))
    bss_nil)
theorem c22 : FnScope ["groups", "most", "rows", "group", "longer", "row", "more", "k"] ["groups", "most"] (defScope s22) := ⟨rfl, rfl, rfl, by decide +kernel, rfl, by decide +kernel, by decide +kernel⟩
theorem b22 (B : Bn mg) (Gn : Cn K mg) (E : Ev P w K mg base k) (f : Addr) (cdv : Value) (A : Around) (outer : List PySem.Env) (s : Shared) (H : Hp) (E0 : XK) (hr : Room k (A.deeper (envOfC "_law_sent" (defScope s22) s.heap.objs.size f cdv))) :
    BSs (cxOf (L2.CX P w) P w K mg base ["groups", "most", "rows", "group", "longer", "row", "more", "k"] "_law_sent" (defScope s22) f cdv A outer s H E0) (pgK tab XP0 k) (fun cls d _ H' => E0 cls d H') (defBody s22) i22 := by
  have tk : Takes (cxOf (L2.CX P w) P w K mg base ["groups", "most", "rows", "group", "longer", "row", "more", "k"] "_law_sent" (defScope s22) f cdv A outer s H E0) (fun cls d _ H' => E0 cls d H') := takes_of rfl rfl rfl rfl
  have hp : PassesOwn (model P w) (cxOf (L2.CX P w) P w K mg base ["groups", "most", "rows", "group", "longer", "row", "more", "k"] "_law_sent" (defScope s22) f cdv A outer s H E0).A (cxOf (L2.CX P w) P w K mg base ["groups", "most", "rows", "group", "longer", "row", "more", "k"] "_law_sent" (defScope s22) f cdv A outer s H E0).env (cxOf (L2.CX P w) P w K mg base ["groups", "most", "rows", "group", "longer", "row", "more", "k"] "_law_sent" (defScope s22) f cdv A outer s H E0).xe := passes_of rfl
  have nd := c22.nd
  exact (bss_cons (bs_set (j := 2) nd rfl (Or.inl rfl) (be_lst (be_cons (be_tup be_nil) be_nil)))
    (bss_cons (bs_for hp rfl (bi_seq (be_var 0)) (bg_slot 3 nd)
    (bss_cons (bs_set (j := 4) nd rfl (Or.inl rfl) (be_lst be_nil))
    (bss_cons (bs_for hp rfl (bi_seq (be_var 2)) (bg_slot 5 nd)
    (bss_cons (bs_set (j := 4) nd rfl (Or.inl rfl) (be_op o_add (BB.of (be_var 4)) (BB.of (be_comp rfl nd (bi_range1 rfl B.range (be_consB (BB.of (be_op o_add (BB.of (be_var 1)) (BB.of be_int))) be_nilB)) (blkOk_by (N := ["groups", "most", "rows", "group", "longer", "row", "more", "k"]) (sc := defScope s22) (own := [("more", 6)]) (by decide +kernel)) rfl (fun _ _ _ _ _ => (bg_slot 6 nd)) (fun _ _ _ _ _ => (bts_one (PW.pt (bw_and (bt_cmp (o_le) (BB.of (be_op o_add (BB.of (be_bi (c_sum rfl) rfl B.sum bt_sum (be_consB (BB.of (be_var 5)) be_nilB))) (BB.of (be_var 6)))) (BB.of (be_var 1)) (nomark _)) (bw_and1 (bt_cmp (o_le) (BB.of (be_op o_add (BB.of (be_var 3)) (BB.of (be_var 6)))) (BB.of be_int) (nomark _))))))) (fun _ _ _ _ _ => (be_op o_add (BB.of (be_var 5)) (BB.of (be_tup (be_cons (be_var 6) be_nil)))))))))
    bss_nil))
    (bss_cons (bs_set (j := 2) nd rfl (Or.inl rfl) (be_var 4))
    bss_nil))))
    (bss_cons (bs_ret (be_ty c_tuple rfl B.tuple bt_tuple (be_consB (BB.of (be_ssetT hr.units rfl rfl B.sorted bt_sorted rfl B.set bt_set (be_consB (BB.of (be_comp rfl nd (bi_seqB (BB.of (be_var 2))) (blkOk_by (N := ["groups", "most", "rows", "group", "longer", "row", "more", "k"]) (sc := defScope s22) (own := [("row", 5)]) (by decide +kernel)) rfl (fun _ _ _ _ _ => (bg_slot 5 nd)) (fun _ _ _ _ _ => bts_nil) (fun _ _ _ _ _ => (be_ty c_tuple rfl B.tuple bt_tuple (be_consB (BB.of (be_comp rfl nd (bi_range1 rfl B.range (be_consB (BB.of (be_bi c_len rfl B.len bt_len (be_consB (BB.of (be_var 5)) be_nilB))) be_nilB)) (blkOk_by (own := [("k", 7)]) (by with_unfolding_all rfl)) rfl (fun _ _ _ _ _ => (bg_slot 7 nd)) (fun _ _ _ _ _ => bts_nil) (fun _ _ _ _ _ => (be_op o_mod (BB.of (be_ty c_int rfl B.int bt_int (be_consB (BB.of (be_op o_add (BB.of (be_ix (BB.of (be_var 0)) (BB.of (be_var 7)))) (BB.of (be_ix (BB.of (be_var 5)) (BB.of (be_var 7)))))) be_nilB))) (BB.of be_int))))) be_nilB))))) be_nilB))) be_nilB)))
    bss_nil)))
theorem c23 : FnScope ["w", "found", "time", "k", "gap", "times"] ["w"] (defScope s23) := ⟨rfl, rfl, rfl, by decide +kernel, rfl, by decide +kernel, by decide +kernel⟩
theorem b23 (B : Bn mg) (Gn : Cn K mg) (E : Ev P w K mg base k) (f : Addr) (cdv : Value) (A : Around) (outer : List PySem.Env) (s : Shared) (H : Hp) (E0 : XK) (hr : Room k (A.deeper (envOfC "_law_times" (defScope s23) s.heap.objs.size f cdv))) :
    BSs (cxOf (L2.CX P w) P w K mg base ["w", "found", "time", "k", "gap", "times"] "_law_times" (defScope s23) f cdv A outer s H E0) (pgK tab XP0 k) (fun cls d _ H' => E0 cls d H') (defBody s23) i23 := by
  have tk : Takes (cxOf (L2.CX P w) P w K mg base ["w", "found", "time", "k", "gap", "times"] "_law_times" (defScope s23) f cdv A outer s H E0) (fun cls d _ H' => E0 cls d H') := takes_of rfl rfl rfl rfl
  have hp : PassesOwn (model P w) (cxOf (L2.CX P w) P w K mg base ["w", "found", "time", "k", "gap", "times"] "_law_times" (defScope s23) f cdv A outer s H E0).A (cxOf (L2.CX P w) P w K mg base ["w", "found", "time", "k", "gap", "times"] "_law_times" (defScope s23) f cdv A outer s H E0).env (cxOf (L2.CX P w) P w K mg base ["w", "found", "time", "k", "gap", "times"] "_law_times" (defScope s23) f cdv A outer s H E0).xe := passes_of rfl
  have nd := c23.nd
  exact (bss_cons (bs_ifs (bt_cmp (o_eq hr.units) (BB.of (be_callD E.d15 hr tk (be_cons (be_var 0) (be_cons be_int be_nil)))) (BB.of be_int) (nomark _))
    (bss_cons (bs_par2 rfl nd rfl rfl (by decide) rfl rfl (pf_own (bf_lst be_nil) (pf_val (be_callD E.d15 hr tk (be_cons (be_var 0) (be_cons be_int be_nil))) pf_nil)) rfl)
    (bss_cons (bs_for hp rfl (bi_range1 rfl B.range (be_consB (BB.of (be_callD E.d15 hr tk (be_cons (be_var 0) (be_cons be_int be_nil)))) be_nilB)) (bg_slot 3 nd)
    (bss_cons (bs_app (j := 1) rfl (Or.inl rfl) (be_var 2))
    (bss_cons (bs_set (j := 2) nd rfl (Or.inl rfl) (be_op o_add (BB.of (be_op o_add (BB.of (be_var 2)) (BB.of be_int))) (BB.of (be_callD E.d16 hr tk (be_cons (be_var 0) (be_cons (be_lst (be_cons be_int (be_cons be_int (be_cons be_int (be_cons (be_callD E.d15 hr tk (be_cons (be_var 0) (be_cons be_int be_nil))) be_nil))))) be_nil))))))
    bss_nil)))
    (bss_cons (bs_ret (be_ty c_tuple rfl B.tuple bt_tuple (be_consB (be_pk 1) be_nilB)))
    bss_nil)))
    bss_nil)
    (bss_cons (bs_set (j := 4) nd rfl (Or.inl rfl) (be_op o_add (BB.of be_int) (BB.of (be_callD E.d15 hr tk (be_cons (be_var 0) (be_cons be_int be_nil))))))
    (bss_cons (bs_set (j := 5) nd rfl (Or.inl rfl) (be_callD E.d18 hr tk (be_cons (be_comp rfl nd (bi_range1 rfl B.range (be_consB (BB.of (be_callD E.d15 hr tk (be_cons (be_var 0) (be_cons be_int be_nil)))) be_nilB)) (blkOk_by (N := ["w", "found", "time", "k", "gap", "times"]) (sc := defScope s23) (own := [("k", 3)]) (by decide +kernel)) rfl (fun _ _ _ _ _ => (bg_slot 3 nd)) (fun _ _ _ _ _ => bts_nil) (fun _ _ _ _ _ => (be_callD E.d15 hr takes0 (be_cons (be_var 0) (be_cons be_int be_nil))))) (be_cons (be_var 4) (be_cons (be_op o_add (BB.of (be_op o_add (BB.of (be_var 4)) (BB.of be_int))) (BB.of (be_callD E.d15 hr tk (be_cons (be_var 0) (be_cons be_int be_nil))))) be_nil)))))
    (bss_cons (bs_ret (be_ty c_tuple rfl B.tuple bt_tuple (be_consB (BB.of (be_comp rfl nd (bi_seqB (BB.of (be_var 5))) (blkOk_by (N := ["w", "found", "time", "k", "gap", "times"]) (sc := defScope s23) (own := [("time", 2)]) (by decide +kernel)) rfl (fun _ _ _ _ _ => (bg_slot 2 nd)) (fun _ _ _ _ _ => (bts_one (bt_cmp (o_gt) (BB.of (be_callD E.d15 hr takes0 (be_cons (be_var 0) (be_cons be_int be_nil)))) (BB.of be_int) (nomark _)))) (fun _ _ _ _ _ => (be_var 2)))) be_nilB)))
    bss_nil))))
theorem ev0 (T : Tx K mg) : Ev P w K mg base 0 := ⟨T.t0.zero, T.t1.zero, T.t2.zero, T.t3.zero, T.t4.zero, T.t5.zero, T.t6.zero, T.t7.zero, T.t8.zero, T.t9.zero, T.t10.zero, T.t11.zero, T.t12.zero, T.t13.zero, T.t14.zero, T.t15.zero, T.t16.zero, T.t17.zero, T.t18.zero, T.t19.zero, T.t20.zero, T.t21.zero, T.t22.zero, T.t23.zero⟩
theorem evS (B : Bn mg) (Gn : Cn K mg) (T : Tx K mg) (E : Ev P w K mg base k) : Ev P w K mg base (k + 1) where
  d0 := T.t0.succ c0 rfl rfl rfl (b0 B Gn E)
  d1 := T.t1.succ c1 rfl rfl rfl (b1 B Gn E)
  d2 := T.t2.succ c2 rfl rfl rfl (b2 B Gn E)
  d3 := T.t3.succ c3 rfl rfl rfl (b3 B Gn E)
  d4 := T.t4.succ c4 rfl rfl rfl (b4 B Gn E)
  d5 := T.t5.succ c5 rfl rfl rfl (b5 B Gn E)
  d6 := T.t6.succ c6 rfl rfl rfl (b6 B Gn E)
  d7 := T.t7.succ c7 rfl rfl rfl (b7 B Gn E)
  d8 := T.t8.succ c8 rfl rfl rfl (b8 B Gn E)
  d9 := T.t9.succ c9 rfl rfl rfl (b9 B Gn E)
  d10 := T.t10.succ c10 rfl rfl rfl (b10 B Gn E)
  d11 := T.t11.succ c11 rfl rfl rfl (b11 B Gn E)
  d12 := T.t12.succ c12 rfl rfl rfl (b12 B Gn E)
  d13 := T.t13.succ c13 rfl rfl rfl (b13 B Gn E)
  d14 := T.t14.succ c14 rfl rfl rfl (b14 B Gn E)
  d15 := T.t15.succ c15 rfl rfl rfl (b15 B)
  d16 := T.t16.succ c16 rfl rfl rfl (b16 B Gn E)
  d17 := T.t17.succ c17 rfl rfl rfl (b17 B Gn E)
  d18 := T.t18.succ c18 rfl rfl rfl (b18 B Gn E)
  d19 := T.t19.succ c19 rfl rfl rfl (b19 B Gn E)
  d20 := T.t20.succ c20 rfl rfl rfl (b20 B Gn E)
  d21 := T.t21.succ c21 rfl rfl rfl (b21 B Gn E)
  d22 := T.t22.succ c22 rfl rfl rfl (b22 B Gn E)
  d23 := T.t23.succ c23 rfl rfl rfl (b23 B Gn E)
theorem evA (B : Bn mg) (Gn : Cn K mg) (T : Tx K mg) : ∀ k, Ev P w K mg base k
  | 0 => ev0 T
  | k + 1 => evS B Gn T (evA B Gn T k)
theorem c24 : FnScope ["script", "w", "turn", "digits", "gap", "wait", "due", "times", "gaps", "least", "groups", "marks", "rows", "fits", "bounds", "most", "slack", "thing", "got", "one", "row", "k", "digit"] ["script"] (defScope s24) := ⟨rfl, rfl, rfl, by decide +kernel, rfl, by decide +kernel, by decide +kernel⟩
theorem bLaw (B : Bn mg) (Gn : Cn K mg) (E : Ev P w K mg base k) (f : Addr) (cdv : Value) (A : Around) (outer : List PySem.Env) (s : Shared) (H : Hp) (E0 : XK) (hr : Room k (A.deeper (envOfC "law" (defScope s24) s.heap.objs.size f cdv))) :
    PSs (cxOf (L2.CX P w) P w K mg base ["script", "w", "turn", "digits", "gap", "wait", "due", "times", "gaps", "least", "groups", "marks", "rows", "fits", "bounds", "most", "slack", "thing", "got", "one", "row", "k", "digit"] "law" (defScope s24) f cdv A outer s H E0) (defBody s24) (tLaw K (pgK tab XP0 k) (fun cls d _ H' => E0 cls d H') 1 iDraws i24) := by
  have tk : Takes (cxOf (L2.CX P w) P w K mg base ["script", "w", "turn", "digits", "gap", "wait", "due", "times", "gaps", "least", "groups", "marks", "rows", "fits", "bounds", "most", "slack", "thing", "got", "one", "row", "k", "digit"] "law" (defScope s24) f cdv A outer s H E0) (fun cls d _ H' => E0 cls d H') := takes_of rfl rfl rfl rfl
  have hp : PassesOwn (model P w) (cxOf (L2.CX P w) P w K mg base ["script", "w", "turn", "digits", "gap", "wait", "due", "times", "gaps", "least", "groups", "marks", "rows", "fits", "bounds", "most", "slack", "thing", "got", "one", "row", "k", "digit"] "law" (defScope s24) f cdv A outer s H E0).A (cxOf (L2.CX P w) P w K mg base ["script", "w", "turn", "digits", "gap", "wait", "due", "times", "gaps", "least", "groups", "marks", "rows", "fits", "bounds", "most", "slack", "thing", "got", "one", "row", "k", "digit"] "law" (defScope s24) f cdv A outer s H E0).env (cxOf (L2.CX P w) P w K mg base ["script", "w", "turn", "digits", "gap", "wait", "due", "times", "gaps", "least", "groups", "marks", "rows", "fits", "bounds", "most", "slack", "thing", "got", "one", "row", "k", "digit"] "law" (defScope s24) f cdv A outer s H E0).xe := passes_of rfl
  have nd := c24.nd
  exact law_read (j := 1) nd rfl (Or.inr rfl) pe_str (be_callD E.d14 hr tk (be_cons (be_var 0) (be_cons be_int be_nil))) pe_str pe_int
    (bss_cons (bs_for hp rfl (bi_range1 rfl B.range (be_consB (BB.of be_int) be_nilB)) (bg_slot 2 nd)
    (bss_cons (bs_parG rfl (pf_val (be_ty c_tuple rfl B.tuple bt_tuple (be_consB (BB.of (be_comp rfl nd (bi_range1 rfl B.range (be_consB (BB.of (be_callD E.d15 hr tk (be_cons (be_var 1) (be_cons be_int be_nil)))) be_nilB)) (blkOk_by (N := ["script", "w", "turn", "digits", "gap", "wait", "due", "times", "gaps", "least", "groups", "marks", "rows", "fits", "bounds", "most", "slack", "thing", "got", "one", "row", "k", "digit"]) (sc := defScope s24) (own := [("k", 21)]) (by decide +kernel)) rfl (fun _ _ _ _ _ => (bg_slot 21 nd)) (fun _ _ _ _ _ => bts_nil) (fun _ _ _ _ _ => (be_callD E.d15 hr takes0 (be_cons (be_var 1) (be_cons be_int be_nil)))))) be_nilB)) (pf_val (be_op o_add (BB.of be_int) (BB.of (be_callD E.d15 hr tk (be_cons (be_var 1) (be_cons be_int be_nil))))) (pf_val (be_op o_add (BB.of be_int) (BB.of (be_callD E.d15 hr tk (be_cons (be_var 1) (be_cons be_int be_nil))))) pf_nil))) (pgN_cons nd rfl (Or.inr rfl) (pgN_cons nd rfl (Or.inr rfl) (pgN_cons nd rfl (Or.inl rfl) pgN_nil))) rfl (by decide) rfl rfl)
    (bss_cons (bs_set (j := 6) nd rfl (Or.inl rfl) (be_lst (be_cons (be_callD E.d18 hr tk (be_cons (be_var 3) (be_cons (be_var 4) (be_cons (be_var 5) be_nil)))) (be_cons (be_bi (c_sum rfl) rfl B.sum bt_sum (be_consB (BB.of (be_comp rfl nd (bi_seqB (BB.of (be_var 3))) (blkOk_by (N := ["script", "w", "turn", "digits", "gap", "wait", "due", "times", "gaps", "least", "groups", "marks", "rows", "fits", "bounds", "most", "slack", "thing", "got", "one", "row", "k", "digit"]) (sc := defScope s24) (own := [("digit", 22)]) (by decide +kernel)) rfl (fun _ _ _ _ _ => (bg_slot 22 nd)) (fun _ _ _ _ _ => bts_nil) (fun _ _ _ _ _ => (be_op o_add (BB.of (be_var 22)) (BB.of (be_op o_mul (BB.of be_int) (BB.of (be_ty c_int rfl B.int bt_int (be_consB (BB.of (be_cmp (o_eq hr.units) (BB.of (be_var 22)) (BB.of be_int) (nomark _))) be_nilB))))))))) be_nilB)) be_nil))))
    (bss_cons (bs_ifs (bt_not (bt_val (BB.of (be_callD E.d17 hr tk (be_cons (be_lst (be_cons (be_callD E.d3 hr tk (be_cons (be_var 3) (be_cons (be_var 4) (be_cons (be_var 5) be_nil)))) (be_cons (be_callD E.d12 hr tk (be_cons (be_var 3) be_nil)) be_nil))) (be_cons (be_var 6) be_nil))))))
    (bss_cons (bs_ret be_bl)
    bss_nil)
    bss_nil)
    (bss_cons (bs_ifs (PW.pt (bw_and (bt_cmp (o_gt) (BB.of (be_var 5)) (BB.of (be_var 4)) (nomark _)) (bw_and1 (bt_not (bt_val (BB.of (be_callD E.d17 hr tk (be_cons (be_callD E.d7 hr tk (be_cons (be_ix (BB.of (be_var 6)) (BB.of be_int)) (be_cons (be_op o_add (BB.of (be_var 4)) (BB.of be_int)) be_nil))) (be_cons (be_var 3) be_nil)))))))))
    (bss_cons (bs_ret be_bl)
    bss_nil)
    bss_nil)
    (bss_cons (bs_set (j := 7) nd rfl (Or.inr rfl) (be_callD E.d23 hr tk (be_cons (be_var 1) be_nil)))
    (bss_cons (bs_par2 rfl nd rfl rfl (by decide) rfl rfl (pf_val (be_callD E.d21 hr tk (be_cons (be_var 7) be_nil)) (pf_val (be_op o_add (BB.of be_int) (BB.of (be_callD E.d15 hr tk (be_cons (be_var 1) (be_cons be_int be_nil))))) pf_nil)) rfl)
    (bss_cons (bs_set (j := 10) nd rfl (Or.inl rfl) (be_callD E.d19 hr tk (be_cons (be_var 7) (be_cons (be_var 9) be_nil))))
    (bss_cons (bs_ifs (bt_not (bt_val (BB.of (be_callD E.d17 hr tk (be_cons (be_lst (be_cons (be_callD E.d8 hr tk (be_cons (be_var 7) be_nil)) (be_cons (be_callD E.d5 hr tk (be_cons (be_var 7) (be_cons (be_var 9) be_nil))) (be_cons (be_callD E.d6 hr tk (be_cons (be_var 10) be_nil)) (be_cons (be_callD E.d7 hr tk (be_cons (be_var 7) (be_cons (be_var 9) be_nil))) (be_cons (be_callD E.d4 hr tk (be_cons (be_var 7) be_nil)) be_nil)))))) (be_cons (be_lst (be_cons (be_var 8) (be_cons (be_var 10) (be_cons (be_callD E.d20 hr tk (be_cons (be_var 10) be_nil)) (be_cons (be_callD E.d20 hr tk (be_cons (be_var 10) be_nil)) (be_cons be_bl be_nil)))))) be_nil))))))
    (bss_cons (bs_ret be_bl)
    bss_nil)
    bss_nil)
    (bss_cons (bs_set (j := 11) nd rfl (Or.inl rfl) (be_tup (be_cons be_int be_nil)))
    (bss_cons (bs_ifs (bt_cmp (o_ne hr.units) (BB.of (be_var 8)) (BB.of (be_tup be_nil)) (nomark _))
    (bss_cons (bs_set (j := 11) nd rfl (Or.inl rfl) (be_op o_add (BB.of (be_var 8)) (BB.of (be_tup (be_cons (be_op o_add (BB.of (be_ix (BB.of (be_var 8)) (BB.of (be_op o_sub (BB.of (be_bi c_len rfl B.len bt_len (be_consB (BB.of (be_var 8)) be_nilB))) (BB.of be_int))))) (BB.of be_int)) be_nil)))))
    bss_nil)
    bss_nil)
    (bss_cons (bs_setC (j := 12) rfl nd rfl rfl (sw_true rfl rfl rfl (by decide +kernel)) (bi_seqB (BB.of (be_var 11))) (blkOk_by (N := ["script", "w", "turn", "digits", "gap", "wait", "due", "times", "gaps", "least", "groups", "marks", "rows", "fits", "bounds", "most", "slack", "thing", "got", "one", "row", "k", "digit"]) (sc := defScope s24) (own := [("one", 19)]) (by decide +kernel)) rfl (fun _ _ _ _ _ => (bg_slot 19 nd)) (fun _ _ _ _ _ => bts_nil) (fun _ _ _ _ _ => (be_tup (be_cons (be_var 19) (be_cons (be_callD E.d20 hr takes0 (be_cons (be_callD E.d19 hr takes0 (be_cons (be_var 7) (be_cons (be_var 19) be_nil))) be_nil)) be_nil)))))
    (bss_cons (bs_setC (j := 12) rfl nd rfl rfl (sw_true rfl rfl rfl (by decide +kernel)) (bi_seqB (BB.of (be_var 12))) (blkOk_by (N := ["script", "w", "turn", "digits", "gap", "wait", "due", "times", "gaps", "least", "groups", "marks", "rows", "fits", "bounds", "most", "slack", "thing", "got", "one", "row", "k", "digit"]) (sc := defScope s24) (own := [("row", 20)]) (by decide +kernel)) rfl (fun _ _ _ _ _ => (bg_slot 20 nd)) (fun _ _ _ _ _ => (bts_one (bt_cmp (o_isNot) (BB.of (be_ix (BB.of (be_var 20)) (BB.of be_int))) (BB.of be_non) (nomark _)))) (fun _ _ _ _ _ => (be_var 20)))
    (bss_cons (bs_ifs (bt_not (bt_val (BB.of (be_callD E.d17 hr tk (be_cons (be_callD E.d9 hr tk (be_cons (be_var 7) be_nil)) (be_cons (be_ty c_tuple rfl B.tuple bt_tuple (be_consB (BB.of (be_var 12)) be_nilB)) be_nil))))))
    (bss_cons (bs_ret be_bl)
    bss_nil)
    bss_nil)
    (bss_cons (bs_set (j := 3) nd rfl (Or.inr rfl) (be_callD E.d16 hr tk (be_cons (be_var 1) (be_cons (be_op o_add (BB.of (be_lst (be_cons (be_var 3) (be_cons (be_tup be_nil) (be_cons (be_tup (be_cons (be_bi c_len rfl B.len bt_len (be_consB (BB.of (be_var 7)) be_nilB)) be_nil)) be_nil))))) (BB.of (be_comp rfl nd (bi_seqB (BB.of (be_var 12))) (blkOk_by (N := ["script", "w", "turn", "digits", "gap", "wait", "due", "times", "gaps", "least", "groups", "marks", "rows", "fits", "bounds", "most", "slack", "thing", "got", "one", "row", "k", "digit"]) (sc := defScope s24) (own := [("row", 20)]) (by decide +kernel)) rfl (fun _ _ _ _ _ => (bg_slot 20 nd)) (fun _ _ _ _ _ => bts_nil) (fun _ _ _ _ _ => (be_ix (BB.of (be_var 20)) (BB.of be_int)))))) be_nil))))
    (bss_cons (bs_setC (j := 13) rfl nd rfl rfl (sw_true rfl rfl rfl (by decide +kernel)) (bi_range2 rfl B.range (be_consB (BB.of be_int) (be_consB (BB.of (be_op o_add (BB.of (be_ix (BB.of (be_var 11)) (BB.of (be_op o_sub (BB.of (be_bi c_len rfl B.len bt_len (be_consB (BB.of (be_var 11)) be_nilB))) (BB.of be_int))))) (BB.of be_int))) be_nilB))) (blkOk_by (N := ["script", "w", "turn", "digits", "gap", "wait", "due", "times", "gaps", "least", "groups", "marks", "rows", "fits", "bounds", "most", "slack", "thing", "got", "one", "row", "k", "digit"]) (sc := defScope s24) (own := [("one", 19)]) (by decide +kernel)) rfl (fun _ _ _ _ _ => (bg_slot 19 nd)) (fun _ _ _ _ _ => (bts_one (bt_cmp (o_eq hr.units) (BB.of (be_callD E.d20 hr takes0 (be_cons (be_callD E.d19 hr takes0 (be_cons (be_var 7) (be_cons (be_var 19) be_nil))) be_nil))) (BB.of (be_var 3)) (nomark _)))) (fun _ _ _ _ _ => (be_var 19)))
    (bss_cons (bs_set (j := 14) nd rfl (Or.inl rfl) be_non)
    (bss_cons (bs_ifs (bt_cmp (o_ne hr.units) (BB.of (be_var 13)) (BB.of (be_lst be_nil)) (nomark _))
    (bss_cons (bs_set (j := 14) nd rfl (Or.inl rfl) (be_tup (be_cons (be_ix (BB.of (be_var 13)) (BB.of be_int)) (be_cons (be_ix (BB.of (be_lst (be_cons (be_ix (BB.of (be_var 13)) (BB.of (be_op o_sub (BB.of (be_bi c_len rfl B.len bt_len (be_consB (BB.of (be_var 13)) be_nilB))) (BB.of be_int)))) (be_cons be_non be_nil)))) (BB.of (be_ty c_int rfl B.int bt_int (be_consB (BB.of (be_cmp (o_gt) (BB.of (be_ix (BB.of (be_var 13)) (BB.of (be_op o_sub (BB.of (be_bi c_len rfl B.len bt_len (be_consB (BB.of (be_var 13)) be_nilB))) (BB.of be_int))))) (BB.of (be_ix (BB.of (be_var 11)) (BB.of (be_op o_sub (BB.of (be_bi c_len rfl B.len bt_len (be_consB (BB.of (be_var 11)) be_nilB))) (BB.of be_int))))) (nomark _))) be_nilB)))) be_nil))))
    bss_nil)
    bss_nil)
    (bss_cons (bs_ifs (bt_not (bt_val (BB.of (be_callD E.d17 hr tk (be_cons (be_callD E.d10 hr tk (be_cons (be_var 7) (be_cons (be_var 3) be_nil))) (be_cons (be_var 14) be_nil))))))
    (bss_cons (bs_ret be_bl)
    bss_nil)
    bss_nil)
    (bss_cons (bs_set (j := 15) nd rfl (Or.inl rfl) (be_callD E.d15 hr tk (be_cons (be_var 1) (be_cons be_int be_nil))))
    (bss_cons (bs_ifs (PW.pt (bw_and (bt_cmp (o_lt) (BB.of (be_bi c_len rfl B.len bt_len (be_consB (BB.of (be_var 10)) be_nilB))) (BB.of be_int) (nomark _)) (bw_and1 (bt_not (bt_val (BB.of (be_callD E.d17 hr tk (be_cons (be_callD E.d11 hr tk (be_cons (be_var 7) (be_cons (be_var 9) (be_cons (be_var 15) be_nil)))) (be_cons (be_callD E.d22 hr tk (be_cons (be_var 10) (be_cons (be_var 15) be_nil))) be_nil)))))))))
    (bss_cons (bs_ret be_bl)
    bss_nil)
    bss_nil)
    (bss_cons (bs_parG rfl (pf_val (be_callD E.d15 hr tk (be_cons (be_var 1) (be_cons be_int be_nil))) (pf_val (be_callD E.d15 hr tk (be_cons (be_var 1) (be_cons be_int be_nil))) pf_nil)) (pgN_cons nd rfl (Or.inr rfl) (pgN_cons nd rfl (Or.inr rfl) pgN_nil)) rfl (by decide) rfl rfl)
    (bss_cons (bs_set (j := 6) nd rfl (Or.inl rfl) (be_and (be_cmp (o_gt) (BB.of (be_var 4)) (BB.of be_int) (nomark _)) (be_and1 (be_cmp (o_eq hr.units) (BB.of (be_comp rfl nd (bi_seqB (BB.of (be_var 8))) (blkOk_by (N := ["script", "w", "turn", "digits", "gap", "wait", "due", "times", "gaps", "least", "groups", "marks", "rows", "fits", "bounds", "most", "slack", "thing", "got", "one", "row", "k", "digit"]) (sc := defScope s24) (own := [("one", 19)]) (by decide +kernel)) rfl (fun _ _ _ _ _ => (bg_slot 19 nd)) (fun _ _ _ _ _ => (bts_one (PW.pt (bw_and (bt_cmp (o_gt) (BB.of (be_bi c_abs rfl B.abs bt_abs (be_consB (BB.of (be_op o_sub (BB.of (be_var 19)) (BB.of (be_var 4)))) be_nilB))) (BB.of (be_var 16)) (nomark _)) (bw_and1 (bt_cmp (o_le) (BB.of (be_var 19)) (BB.of (be_op o_mul (BB.of be_int) (BB.of (be_var 4)))) (nomark _))))))) (fun _ _ _ _ _ => (be_var 19)))) (BB.of (be_lst be_nil)) (nomark _)))))
    (bss_cons (bs_ifs (bt_not (bt_val (BB.of (be_callD E.d17 hr tk (be_cons (be_callD E.d13 hr tk (be_cons (be_var 7) (be_cons (be_var 4) (be_cons (be_var 16) be_nil)))) (be_cons (be_var 6) be_nil))))))
    (bss_cons (bs_ret be_bl)
    bss_nil)
    bss_nil)
    (bss_cons (bs_for hp rfl (bi_seq (be_lst (be_cons (be_op o_add (BB.of (be_var 7)) (BB.of (be_slice (BB.of (be_var 7)) (bo_some (be_un u_neg (BB.of be_int))) bo_none))) (be_cons (be_rev (BB.of (be_var 7))) (be_cons (be_ty c_list rfl B.list bt_list (be_consB (BB.of (be_var 7)) be_nilB)) (be_cons be_non (be_cons (be_tup (be_cons be_int (be_cons be_bl be_nil))) (be_cons (be_tup (be_cons be_int (be_cons be_str be_nil))) (be_cons (be_tup (be_cons (be_un u_neg (BB.of be_int)) (be_cons be_int be_nil))) be_nil))))))))) (bg_slot 17 nd)
    (bss_cons (bs_set (j := 6) nd rfl (Or.inl rfl) (be_and (be_isi (t := .tup) rfl B.isinstance bt_isinstance rfl B.tuple bt_tuple (BB.of (be_var 17))) (be_and1 (be_cmp (o_eq hr.units) (BB.of (be_comp rfl nd (bi_seqB (BB.of (be_var 17))) (blkOk_by (N := ["script", "w", "turn", "digits", "gap", "wait", "due", "times", "gaps", "least", "groups", "marks", "rows", "fits", "bounds", "most", "slack", "thing", "got", "one", "row", "k", "digit"]) (sc := defScope s24) (own := [("one", 19)]) (by decide +kernel)) rfl (fun _ _ _ _ _ => (bg_slot 19 nd)) (fun _ _ _ _ _ => (bts_one (PW.pt (bw_or (bt_not (bt_val (BB.of (be_isi (t := .int) rfl B.isinstance bt_isinstance rfl B.int bt_int (BB.of (be_var 19)))))) (bw_or1 (bt_val (BB.of (be_isi (t := .bool) rfl B.isinstance bt_isinstance rfl B.bool bt_bool (BB.of (be_var 19)))))))))) (fun _ _ _ _ _ => (be_var 19)))) (BB.of (be_lst be_nil)) (nomark _)))))
    (bss_cons (bs_ifs (bt_val (BB.of (be_var 6)))
    (bss_cons (bs_set (j := 6) nd rfl (Or.inl rfl) (be_cmp (o_eq hr.units) (BB.of (be_ty c_list rfl B.list bt_list (be_consB (BB.of (be_var 17)) be_nilB))) (BB.of (be_sset rfl rfl B.sorted bt_sorted rfl B.set bt_set (be_consB (BB.of (be_var 17)) be_nilB))) (nomark _)))
    bss_nil)
    bss_nil)
    (bss_cons (bs_ifs (bt_not (bt_val (BB.of (be_callD E.d17 hr tk (be_cons (be_callD E.d4 hr tk (be_cons (be_var 17) be_nil)) (be_cons (be_var 6) be_nil))))))
    (bss_cons (bs_ret be_bl)
    bss_nil)
    bss_nil)
    bss_nil))))
    bss_nil)))))))))))))))))))))))))
    (bss_cons (bs_set (j := 18) nd rfl (Or.inl rfl) (be_lst (be_cons (be_callD E.d3 hr tk (be_cons (be_tup (be_cons be_int (be_cons be_int be_nil))) (be_cons be_int (be_cons be_int be_nil)))) (be_cons (be_callD E.d7 hr tk (be_cons (be_tup (be_cons be_int (be_cons be_int (be_cons be_int be_nil)))) (be_cons be_int be_nil))) (be_cons (be_callD E.d9 hr tk (be_cons (be_tup be_nil) be_nil)) (be_cons (be_callD E.d10 hr tk (be_cons (be_tup (be_cons be_int (be_cons be_int (be_cons be_int be_nil)))) (be_cons (be_tup (be_cons be_int (be_cons be_int be_nil))) be_nil))) (be_cons (be_callD E.d10 hr tk (be_cons (be_tup (be_cons be_int (be_cons be_int (be_cons be_int be_nil)))) (be_cons (be_tup (be_cons be_int be_nil)) be_nil))) (be_cons (be_callD E.d11 hr tk (be_cons (be_tup (be_cons be_int be_nil)) (be_cons be_int (be_cons be_int be_nil)))) be_nil))))))))
    (bss_cons (bs_ret (be_callD E.d17 hr tk (be_cons (be_var 18) (be_cons (be_lst (be_cons (be_tup (be_cons be_int (be_cons be_int (be_cons be_int be_nil)))) (be_cons (be_tup (be_cons be_int (be_cons be_int be_nil))) (be_cons (be_tup (be_cons (be_tup (be_cons be_int (be_cons (be_tup be_nil) be_nil))) be_nil)) (be_cons (be_tup (be_cons be_int (be_cons be_int be_nil))) (be_cons (be_tup (be_cons be_int (be_cons be_non be_nil))) (be_cons (be_tup (be_cons (be_tup (be_cons be_int be_nil)) (be_cons (be_tup (be_cons be_int be_nil)) be_nil))) be_nil))))))) be_nil))))
    bss_nil)))
/-- the law's promise: a list of at most 63 ints is handed in, True comes out -/
def spLaw (K : PySem.W.Frag) : Sp := fun vs H Q _ => ∃ (a : Addr) (ns : List Int), vs = [.ref a] ∧ Only H ∧ SqL K H a (ns.map V.int) ∧ ns.length ≤ 63 ∧ ∀ H', Q (.bl true) H'
theorem okLaw (B : Bn mg) (Gn : Cn K mg) (E : Ev P w K mg base k) (pl : Plain k) {f : Addr} {fd : FuncData} (F : Fun K "law" "law" s24 f fd) : FnOk P w K mg base (L2.CX P w) (k + 1) f fd ["script"] (spLaw K) := by
  refine F.okX c24 (fun vs H Q E h => ?_) (fun cdv A outer s H vs Q E0 hr h => ⟨_, bLaw B Gn E f cdv A outer s H E0 hr, ?_⟩)
  · obtain ⟨a, ns, rfl, _⟩ := h
    rfl
  · obtain ⟨a, ns, rfl, hO, hS, hl, q⟩ := h
    obtain ⟨ds, o, e1, o', e2⟩ := pl ns hl
    have hs : LsA K (fun _ => False) H a (ns.map V.int) := hS.imp (fun h => ⟨h, fun z => z⟩) id
    have rp : Reps K none (fun _ => False) H [.ref a] [.lst (ns.map D.int)] := .cons (.lst hs (reps_ints ns)) .nil
    refine ⟨fun _ => False, startS 23 [.lst (ns.map D.int)], [], H, RS.start (N := ["script", "w", "turn", "digits", "gap", "wait", "due", "times", "gaps", "least", "groups", "marks", "rows", "fits", "bounds", "most", "slack", "thing", "got", "one", "row", "k", "digit"]) rp trivial (fun _ h => by cases h) (fun _ h => h.elim) (Nat.succ_le_succ (Nat.zero_le _)), fun _ h => h, fun i d h => ?_, ds, o, e1, ?_⟩
    · unfold startS at h
      rw [getS_start] at h
      split at h <;> cases h
    · show match evSs (callN tab k) i24 (setS (startS 23 [.lst (ns.map D.int)]) 1 (.val .tok)) ds with | .rt d _ => _ | _ => False
      simp only [e2]
      intro v H' wa Av r
      cases r
      exact q H' 
end
theorem all_mk {P : Program} {w : World} {K : PySem.W.Frag} {h : Heap} {mg : Str → Option Value} {fa : Addr} (X : K.In h) (G : h.Ns mainGlobals mg) (hfa : mg "law" = some (.ref fa))
    {od0 an0 : Option Addr} {sl0 : Array (Option Value)} {oc0 kV0 dc0 pm0 cd0 ct0 : Value} {f0 : Addr}
    {od1 an1 : Option Addr} {sl1 : Array (Option Value)} {oc1 kV1 dc1 pm1 cd1 ct1 : Value} {f1 : Addr}
    {od2 an2 : Option Addr} {sl2 : Array (Option Value)} {oc2 kV2 dc2 pm2 cd2 ct2 : Value} {f2 : Addr}
    {od3 an3 : Option Addr} {sl3 : Array (Option Value)} {oc3 kV3 dc3 pm3 cd3 ct3 : Value} {f3 : Addr}
    {od4 an4 : Option Addr} {sl4 : Array (Option Value)} {oc4 kV4 dc4 pm4 cd4 ct4 : Value} {f4 : Addr}
    {od5 an5 : Option Addr} {sl5 : Array (Option Value)} {oc5 kV5 dc5 pm5 cd5 ct5 : Value} {f5 : Addr}
    {od6 an6 : Option Addr} {sl6 : Array (Option Value)} {oc6 kV6 dc6 pm6 cd6 ct6 : Value} {f6 : Addr}
    {od7 an7 : Option Addr} {sl7 : Array (Option Value)} {oc7 kV7 dc7 pm7 cd7 ct7 : Value} {f7 : Addr}
    {od8 an8 : Option Addr} {sl8 : Array (Option Value)} {oc8 kV8 dc8 pm8 cd8 ct8 : Value} {f8 : Addr}
    {od9 an9 : Option Addr} {sl9 : Array (Option Value)} {oc9 kV9 dc9 pm9 cd9 ct9 : Value} {f9 : Addr}
    {od10 an10 : Option Addr} {sl10 : Array (Option Value)} {oc10 kV10 dc10 pm10 cd10 ct10 : Value} {f10 : Addr}
    {od11 an11 : Option Addr} {sl11 : Array (Option Value)} {oc11 kV11 dc11 pm11 cd11 ct11 : Value} {f11 : Addr}
    {od12 an12 : Option Addr} {sl12 : Array (Option Value)} {oc12 kV12 dc12 pm12 cd12 ct12 : Value} {f12 : Addr}
    {od13 an13 : Option Addr} {sl13 : Array (Option Value)} {oc13 kV13 dc13 pm13 cd13 ct13 : Value} {f13 : Addr}
    {od14 an14 : Option Addr} {sl14 : Array (Option Value)} {oc14 kV14 dc14 pm14 cd14 ct14 : Value} {f14 : Addr}
    {od15 an15 : Option Addr} {sl15 : Array (Option Value)} {oc15 kV15 dc15 pm15 cd15 ct15 : Value} {f15 : Addr}
    {od16 an16 : Option Addr} {sl16 : Array (Option Value)} {oc16 kV16 dc16 pm16 cd16 ct16 : Value} {f16 : Addr}
    {od17 an17 : Option Addr} {sl17 : Array (Option Value)} {oc17 kV17 dc17 pm17 cd17 ct17 : Value} {f17 : Addr}
    {od18 an18 : Option Addr} {sl18 : Array (Option Value)} {oc18 kV18 dc18 pm18 cd18 ct18 : Value} {f18 : Addr}
    {od19 an19 : Option Addr} {sl19 : Array (Option Value)} {oc19 kV19 dc19 pm19 cd19 ct19 : Value} {f19 : Addr}
    {od20 an20 : Option Addr} {sl20 : Array (Option Value)} {oc20 kV20 dc20 pm20 cd20 ct20 : Value} {f20 : Addr}
    {od21 an21 : Option Addr} {sl21 : Array (Option Value)} {oc21 kV21 dc21 pm21 cd21 ct21 : Value} {f21 : Addr}
    {od22 an22 : Option Addr} {sl22 : Array (Option Value)} {oc22 kV22 dc22 pm22 cd22 ct22 : Value} {f22 : Addr}
    {od23 an23 : Option Addr} {sl23 : Array (Option Value)} {oc23 kV23 dc23 pm23 cd23 ct23 : Value} {f23 : Addr}
    {od24 an24 : Option Addr} {sl24 : Array (Option Value)} {oc24 kV24 dc24 pm24 cd24 ct24 : Value} {f24 : Addr}
    (a0 : PySem.W.nsIn K mainGlobals "is_number" = some (some (.ref f0))) (l0 : K.lookup f0 = some ⟨oc0, od0, .func (PySem.W.fnOf "is_number" "is_number" (defArgs s0) (defBody s0) (defScope s0) .none kV0 dc0 pm0 an0 cd0 ct0), sl0⟩) (c0 : PySem.W.codeIn K cd0 "is_number" = true) (k0 : PySem.W.keepIn K (.ref f0) = true)
    (a1 : PySem.W.nsIn K mainGlobals "is_from" = some (some (.ref f1))) (l1 : K.lookup f1 = some ⟨oc1, od1, .func (PySem.W.fnOf "is_from" "is_from" (defArgs s1) (defBody s1) (defScope s1) .none kV1 dc1 pm1 an1 cd1 ct1), sl1⟩) (c1 : PySem.W.codeIn K cd1 "is_from" = true) (k1 : PySem.W.keepIn K (.ref f1) = true)
    (a2 : PySem.W.nsIn K mainGlobals "are_numbers" = some (some (.ref f2))) (l2 : K.lookup f2 = some ⟨oc2, od2, .func (PySem.W.fnOf "are_numbers" "are_numbers" (defArgs s2) (defBody s2) (defScope s2) .none kV2 dc2 pm2 an2 cd2 ct2), sl2⟩) (c2 : PySem.W.codeIn K cd2 "are_numbers" = true) (k2 : PySem.W.keepIn K (.ref f2) = true)
    (a3 : PySem.W.nsIn K mainGlobals "pulses_of" = some (some (.ref f3))) (l3 : K.lookup f3 = some ⟨oc3, od3, .func (PySem.W.fnOf "pulses_of" "pulses_of" (defArgs s3) (defBody s3) (defScope s3) .none kV3 dc3 pm3 an3 cd3 ct3), sl3⟩) (c3 : PySem.W.codeIn K cd3 "pulses_of" = true) (k3 : PySem.W.keepIn K (.ref f3) = true)
    (a4 : PySem.W.nsIn K mainGlobals "are_pulses" = some (some (.ref f4))) (l4 : K.lookup f4 = some ⟨oc4, od4, .func (PySem.W.fnOf "are_pulses" "are_pulses" (defArgs s4) (defBody s4) (defScope s4) .none kV4 dc4 pm4 an4 cd4 ct4), sl4⟩) (c4 : PySem.W.codeIn K cd4 "are_pulses" = true) (k4 : PySem.W.keepIn K (.ref f4) = true)
    (a5 : PySem.W.nsIn K mainGlobals "groups_of" = some (some (.ref f5))) (l5 : K.lookup f5 = some ⟨oc5, od5, .func (PySem.W.fnOf "groups_of" "groups_of" (defArgs s5) (defBody s5) (defScope s5) .none kV5 dc5 pm5 an5 cd5 ct5), sl5⟩) (c5 : PySem.W.codeIn K cd5 "groups_of" = true) (k5 : PySem.W.keepIn K (.ref f5) = true)
    (a6 : PySem.W.nsIn K mainGlobals "figures_of" = some (some (.ref f6))) (l6 : K.lookup f6 = some ⟨oc6, od6, .func (PySem.W.fnOf "figures_of" "figures_of" (defArgs s6) (defBody s6) (defScope s6) .none kV6 dc6 pm6 an6 cd6 ct6), sl6⟩) (c6 : PySem.W.codeIn K cd6 "figures_of" = true) (k6 : PySem.W.keepIn K (.ref f6) = true)
    (a7 : PySem.W.nsIn K mainGlobals "read_pulses" = some (some (.ref f7))) (l7 : K.lookup f7 = some ⟨oc7, od7, .func (PySem.W.fnOf "read_pulses" "read_pulses" (defArgs s7) (defBody s7) (defScope s7) .none kV7 dc7 pm7 an7 cd7 ct7), sl7⟩) (c7 : PySem.W.codeIn K cd7 "read_pulses" = true) (k7 : PySem.W.keepIn K (.ref f7) = true)
    (a8 : PySem.W.nsIn K mainGlobals "gaps_of" = some (some (.ref f8))) (l8 : K.lookup f8 = some ⟨oc8, od8, .func (PySem.W.fnOf "gaps_of" "gaps_of" (defArgs s8) (defBody s8) (defScope s8) .none kV8 dc8 pm8 an8 cd8 ct8), sl8⟩) (c8 : PySem.W.codeIn K cd8 "gaps_of" = true) (k8 : PySem.W.keepIn K (.ref f8) = true)
    (a9 : PySem.W.nsIn K mainGlobals "readings" = some (some (.ref f9))) (l9 : K.lookup f9 = some ⟨oc9, od9, .func (PySem.W.fnOf "readings" "readings" (defArgs s9) (defBody s9) (defScope s9) .none kV9 dc9 pm9 an9 cd9 ct9), sl9⟩) (c9 : PySem.W.codeIn K cd9 "readings" = true) (k9 : PySem.W.keepIn K (.ref f9) = true)
    (a10 : PySem.W.nsIn K mainGlobals "bounds_for" = some (some (.ref f10))) (l10 : K.lookup f10 = some ⟨oc10, od10, .func (PySem.W.fnOf "bounds_for" "bounds_for" (defArgs s10) (defBody s10) (defScope s10) .none kV10 dc10 pm10 an10 cd10 ct10), sl10⟩) (c10 : PySem.W.codeIn K cd10 "bounds_for" = true) (k10 : PySem.W.keepIn K (.ref f10) = true)
    (a11 : PySem.W.nsIn K mainGlobals "could_be_sent" = some (some (.ref f11))) (l11 : K.lookup f11 = some ⟨oc11, od11, .func (PySem.W.fnOf "could_be_sent" "could_be_sent" (defArgs s11) (defBody s11) (defScope s11) .none kV11 dc11 pm11 an11 cd11 ct11), sl11⟩) (c11 : PySem.W.codeIn K cd11 "could_be_sent" = true) (k11 : PySem.W.keepIn K (.ref f11) = true)
    (a12 : PySem.W.nsIn K mainGlobals "count_pulses" = some (some (.ref f12))) (l12 : K.lookup f12 = some ⟨oc12, od12, .func (PySem.W.fnOf "count_pulses" "count_pulses" (defArgs s12) (defBody s12) (defScope s12) .none kV12 dc12 pm12 an12 cd12 ct12), sl12⟩) (c12 : PySem.W.codeIn K cd12 "count_pulses" = true) (k12 : PySem.W.keepIn K (.ref f12) = true)
    (a13 : PySem.W.nsIn K mainGlobals "is_dialled" = some (some (.ref f13))) (l13 : K.lookup f13 = some ⟨oc13, od13, .func (PySem.W.fnOf "is_dialled" "is_dialled" (defArgs s13) (defBody s13) (defScope s13) .none kV13 dc13 pm13 an13 cd13 ct13), sl13⟩) (c13 : PySem.W.codeIn K cd13 "is_dialled" = true) (k13 : PySem.W.keepIn K (.ref f13) = true)
    (a14 : PySem.W.nsIn K mainGlobals "_law_draws" = some (some (.ref f14))) (l14 : K.lookup f14 = some ⟨oc14, od14, .func (PySem.W.fnOf "_law_draws" "_law_draws" (defArgs s14) (defBody s14) (defScope s14) .none kV14 dc14 pm14 an14 cd14 ct14), sl14⟩) (c14 : PySem.W.codeIn K cd14 "_law_draws" = true) (k14 : PySem.W.keepIn K (.ref f14) = true)
    (a15 : PySem.W.nsIn K mainGlobals "_law_next" = some (some (.ref f15))) (l15 : K.lookup f15 = some ⟨oc15, od15, .func (PySem.W.fnOf "_law_next" "_law_next" (defArgs s15) (defBody s15) (defScope s15) .none kV15 dc15 pm15 an15 cd15 ct15), sl15⟩) (c15 : PySem.W.codeIn K cd15 "_law_next" = true) (k15 : PySem.W.keepIn K (.ref f15) = true)
    (a16 : PySem.W.nsIn K mainGlobals "_law_pick" = some (some (.ref f16))) (l16 : K.lookup f16 = some ⟨oc16, od16, .func (PySem.W.fnOf "_law_pick" "_law_pick" (defArgs s16) (defBody s16) (defScope s16) .none kV16 dc16 pm16 an16 cd16 ct16), sl16⟩) (c16 : PySem.W.codeIn K cd16 "_law_pick" = true) (k16 : PySem.W.keepIn K (.ref f16) = true)
    (a17 : PySem.W.nsIn K mainGlobals "_law_same" = some (some (.ref f17))) (l17 : K.lookup f17 = some ⟨oc17, od17, .func (PySem.W.fnOf "_law_same" "_law_same" (defArgs s17) (defBody s17) (defScope s17) .none kV17 dc17 pm17 an17 cd17 ct17), sl17⟩) (c17 : PySem.W.codeIn K cd17 "_law_same" = true) (k17 : PySem.W.keepIn K (.ref f17) = true)
    (a18 : PySem.W.nsIn K mainGlobals "_law_pulses" = some (some (.ref f18))) (l18 : K.lookup f18 = some ⟨oc18, od18, .func (PySem.W.fnOf "_law_pulses" "_law_pulses" (defArgs s18) (defBody s18) (defScope s18) .none kV18 dc18 pm18 an18 cd18 ct18), sl18⟩) (c18 : PySem.W.codeIn K cd18 "_law_pulses" = true) (k18 : PySem.W.keepIn K (.ref f18) = true)
    (a19 : PySem.W.nsIn K mainGlobals "_law_groups" = some (some (.ref f19))) (l19 : K.lookup f19 = some ⟨oc19, od19, .func (PySem.W.fnOf "_law_groups" "_law_groups" (defArgs s19) (defBody s19) (defScope s19) .none kV19 dc19 pm19 an19 cd19 ct19), sl19⟩) (c19 : PySem.W.codeIn K cd19 "_law_groups" = true) (k19 : PySem.W.keepIn K (.ref f19) = true)
    (a20 : PySem.W.nsIn K mainGlobals "_law_figures" = some (some (.ref f20))) (l20 : K.lookup f20 = some ⟨oc20, od20, .func (PySem.W.fnOf "_law_figures" "_law_figures" (defArgs s20) (defBody s20) (defScope s20) .none kV20 dc20 pm20 an20 cd20 ct20), sl20⟩) (c20 : PySem.W.codeIn K cd20 "_law_figures" = true) (k20 : PySem.W.keepIn K (.ref f20) = true)
    (a21 : PySem.W.nsIn K mainGlobals "_law_gaps" = some (some (.ref f21))) (l21 : K.lookup f21 = some ⟨oc21, od21, .func (PySem.W.fnOf "_law_gaps" "_law_gaps" (defArgs s21) (defBody s21) (defScope s21) .none kV21 dc21 pm21 an21 cd21 ct21), sl21⟩) (c21 : PySem.W.codeIn K cd21 "_law_gaps" = true) (k21 : PySem.W.keepIn K (.ref f21) = true)
    (a22 : PySem.W.nsIn K mainGlobals "_law_sent" = some (some (.ref f22))) (l22 : K.lookup f22 = some ⟨oc22, od22, .func (PySem.W.fnOf "_law_sent" "_law_sent" (defArgs s22) (defBody s22) (defScope s22) .none kV22 dc22 pm22 an22 cd22 ct22), sl22⟩) (c22 : PySem.W.codeIn K cd22 "_law_sent" = true) (k22 : PySem.W.keepIn K (.ref f22) = true)
    (a23 : PySem.W.nsIn K mainGlobals "_law_times" = some (some (.ref f23))) (l23 : K.lookup f23 = some ⟨oc23, od23, .func (PySem.W.fnOf "_law_times" "_law_times" (defArgs s23) (defBody s23) (defScope s23) .none kV23 dc23 pm23 an23 cd23 ct23), sl23⟩) (c23 : PySem.W.codeIn K cd23 "_law_times" = true) (k23 : PySem.W.keepIn K (.ref f23) = true)
    (a24 : PySem.W.nsIn K mainGlobals "law" = some (some (.ref f24))) (l24 : K.lookup f24 = some ⟨oc24, od24, .func (PySem.W.fnOf "law" "law" (defArgs s24) (defBody s24) (defScope s24) .none kV24 dc24 pm24 an24 cd24 ct24), sl24⟩) (c24 : PySem.W.codeIn K cd24 "law" = true) (k24 : PySem.W.keepIn K (.ref f24) = true)
    (z_abs : PySem.W.nsIn K mainGlobals "abs" = some none)
    (z_all : PySem.W.nsIn K mainGlobals "all" = some none)
    (z_any : PySem.W.nsIn K mainGlobals "any" = some none)
    (z_bool : PySem.W.nsIn K mainGlobals "bool" = some none)
    (z_dict : PySem.W.nsIn K mainGlobals "dict" = some none)
    (z_int : PySem.W.nsIn K mainGlobals "int" = some none)
    (z_isinstance : PySem.W.nsIn K mainGlobals "isinstance" = some none)
    (z_len : PySem.W.nsIn K mainGlobals "len" = some none)
    (z_list : PySem.W.nsIn K mainGlobals "list" = some none)
    (z_range : PySem.W.nsIn K mainGlobals "range" = some none)
    (z_set : PySem.W.nsIn K mainGlobals "set" = some none)
    (z_sorted : PySem.W.nsIn K mainGlobals "sorted" = some none)
    (z_str : PySem.W.nsIn K mainGlobals "str" = some none)
    (z_sum : PySem.W.nsIn K mainGlobals "sum" = some none)
    (z_tuple : PySem.W.nsIn K mainGlobals "tuple" = some none) :
    ∃ fd : FuncData, (∀ (s : Shared) (v : Value), BindsTo s fd ⟨[v], []⟩ [("script", v)]) ∧ ∀ base : Heap, K.In base → base.Ns mainGlobals mg → FnOk P w K mg base (L2.CX P w) 61 fa fd ["script"] (spLaw K) := by
  have e := hfa.symm.trans (PySem.W.mg_of X G a24)
  cases e
  have CC : Cn K mg := ⟨trivial⟩
  have B : Bn mg := ⟨PySem.W.mg_none_of X G z_abs, PySem.W.mg_none_of X G z_all, PySem.W.mg_none_of X G z_any, PySem.W.mg_none_of X G z_bool, PySem.W.mg_none_of X G z_dict, PySem.W.mg_none_of X G z_int, PySem.W.mg_none_of X G z_isinstance, PySem.W.mg_none_of X G z_len, PySem.W.mg_none_of X G z_list, PySem.W.mg_none_of X G z_range, PySem.W.mg_none_of X G z_set, PySem.W.mg_none_of X G z_sorted, PySem.W.mg_none_of X G z_str, PySem.W.mg_none_of X G z_sum, PySem.W.mg_none_of X G z_tuple⟩
  have T0 : DefF K mg "is_number" s0 ["thing"] := ⟨f0, _, PySem.W.mg_of X G a0, fun_mk (st := s0) l0 c0 k0, (fun_mk (st := s0) l0 c0 k0).binds (ps := ["thing"]) fun _ _ _ _ _ _ us hl => match us, hl with | [_], _ => rfl⟩
  have T1 : DefF K mg "is_from" s1 ["thing", "least"] := ⟨f1, _, PySem.W.mg_of X G a1, fun_mk (st := s1) l1 c1 k1, (fun_mk (st := s1) l1 c1 k1).binds (ps := ["thing", "least"]) fun _ _ _ _ _ _ us hl => match us, hl with | [_, _], _ => rfl⟩
  have T2 : DefF K mg "are_numbers" s2 ["thing"] := ⟨f2, _, PySem.W.mg_of X G a2, fun_mk (st := s2) l2 c2 k2, (fun_mk (st := s2) l2 c2 k2).binds (ps := ["thing"]) fun _ _ _ _ _ _ us hl => match us, hl with | [_], _ => rfl⟩
  have T3 : DefF K mg "pulses_of" s3 ["digits", "gap", "wait"] := ⟨f3, _, PySem.W.mg_of X G a3, fun_mk (st := s3) l3 c3 k3, (fun_mk (st := s3) l3 c3 k3).binds (ps := ["digits", "gap", "wait"]) fun _ _ _ _ _ _ us hl => match us, hl with | [_, _, _], _ => rfl⟩
  have T4 : DefF K mg "are_pulses" s4 ["thing"] := ⟨f4, _, PySem.W.mg_of X G a4, fun_mk (st := s4) l4 c4 k4, (fun_mk (st := s4) l4 c4 k4).binds (ps := ["thing"]) fun _ _ _ _ _ _ us hl => match us, hl with | [_], _ => rfl⟩
  have T5 : DefF K mg "groups_of" s5 ["times", "least"] := ⟨f5, _, PySem.W.mg_of X G a5, fun_mk (st := s5) l5 c5 k5, (fun_mk (st := s5) l5 c5 k5).binds (ps := ["times", "least"]) fun _ _ _ _ _ _ us hl => match us, hl with | [_, _], _ => rfl⟩
  have T6 : DefF K mg "figures_of" s6 ["groups"] := ⟨f6, _, PySem.W.mg_of X G a6, fun_mk (st := s6) l6 c6 k6, (fun_mk (st := s6) l6 c6 k6).binds (ps := ["groups"]) fun _ _ _ _ _ _ us hl => match us, hl with | [_], _ => rfl⟩
  have T7 : DefF K mg "read_pulses" s7 ["times", "least"] := ⟨f7, _, PySem.W.mg_of X G a7, fun_mk (st := s7) l7 c7 k7, (fun_mk (st := s7) l7 c7 k7).binds (ps := ["times", "least"]) fun _ _ _ _ _ _ us hl => match us, hl with | [_, _], _ => rfl⟩
  have T8 : DefF K mg "gaps_of" s8 ["times"] := ⟨f8, _, PySem.W.mg_of X G a8, fun_mk (st := s8) l8 c8 k8, (fun_mk (st := s8) l8 c8 k8).binds (ps := ["times"]) fun _ _ _ _ _ _ us hl => match us, hl with | [_], _ => rfl⟩
  have T9 : DefF K mg "readings" s9 ["times"] := ⟨f9, _, PySem.W.mg_of X G a9, fun_mk (st := s9) l9 c9 k9, (fun_mk (st := s9) l9 c9 k9).binds (ps := ["times"]) fun _ _ _ _ _ _ us hl => match us, hl with | [_], _ => rfl⟩
  have T10 : DefF K mg "bounds_for" s10 ["times", "digits"] := ⟨f10, _, PySem.W.mg_of X G a10, fun_mk (st := s10) l10 c10 k10, (fun_mk (st := s10) l10 c10 k10).binds (ps := ["times", "digits"]) fun _ _ _ _ _ _ us hl => match us, hl with | [_, _], _ => rfl⟩
  have T11 : DefF K mg "could_be_sent" s11 ["times", "least", "most"] := ⟨f11, _, PySem.W.mg_of X G a11, fun_mk (st := s11) l11 c11 k11, (fun_mk (st := s11) l11 c11 k11).binds (ps := ["times", "least", "most"]) fun _ _ _ _ _ _ us hl => match us, hl with | [_, _, _], _ => rfl⟩
  have T12 : DefF K mg "count_pulses" s12 ["digits"] := ⟨f12, _, PySem.W.mg_of X G a12, fun_mk (st := s12) l12 c12 k12, (fun_mk (st := s12) l12 c12 k12).binds (ps := ["digits"]) fun _ _ _ _ _ _ us hl => match us, hl with | [_], _ => rfl⟩
  have T13 : DefF K mg "is_dialled" s13 ["times", "gap", "slack"] := ⟨f13, _, PySem.W.mg_of X G a13, fun_mk (st := s13) l13 c13 k13, (fun_mk (st := s13) l13 c13 k13).binds (ps := ["times", "gap", "slack"]) fun _ _ _ _ _ _ us hl => match us, hl with | [_, _, _], _ => rfl⟩
  have T14 : DefF K mg "_law_draws" s14 ["script", "many"] := ⟨f14, _, PySem.W.mg_of X G a14, fun_mk (st := s14) l14 c14 k14, (fun_mk (st := s14) l14 c14 k14).binds (ps := ["script", "many"]) fun _ _ _ _ _ _ us hl => match us, hl with | [_, _], _ => rfl⟩
  have T15 : DefF K mg "_law_next" s15 ["w", "many"] := ⟨f15, _, PySem.W.mg_of X G a15, fun_mk (st := s15) l15 c15 k15, (fun_mk (st := s15) l15 c15 k15).binds (ps := ["w", "many"]) fun _ _ _ _ _ _ us hl => match us, hl with | [_, _], _ => rfl⟩
  have T16 : DefF K mg "_law_pick" s16 ["w", "some"] := ⟨f16, _, PySem.W.mg_of X G a16, fun_mk (st := s16) l16 c16 k16, (fun_mk (st := s16) l16 c16 k16).binds (ps := ["w", "some"]) fun _ _ _ _ _ _ us hl => match us, hl with | [_, _], _ => rfl⟩
  have T17 : DefF K mg "_law_same" s17 ["actual", "due"] := ⟨f17, _, PySem.W.mg_of X G a17, fun_mk (st := s17) l17 c17 k17, (fun_mk (st := s17) l17 c17 k17).binds (ps := ["actual", "due"]) fun _ _ _ _ _ _ us hl => match us, hl with | [_, _], _ => rfl⟩
  have T18 : DefF K mg "_law_pulses" s18 ["digits", "gap", "wait"] := ⟨f18, _, PySem.W.mg_of X G a18, fun_mk (st := s18) l18 c18 k18, (fun_mk (st := s18) l18 c18 k18).binds (ps := ["digits", "gap", "wait"]) fun _ _ _ _ _ _ us hl => match us, hl with | [_, _, _], _ => rfl⟩
  have T19 : DefF K mg "_law_groups" s19 ["times", "least"] := ⟨f19, _, PySem.W.mg_of X G a19, fun_mk (st := s19) l19 c19 k19, (fun_mk (st := s19) l19 c19 k19).binds (ps := ["times", "least"]) fun _ _ _ _ _ _ us hl => match us, hl with | [_, _], _ => rfl⟩
  have T20 : DefF K mg "_law_figures" s20 ["groups"] := ⟨f20, _, PySem.W.mg_of X G a20, fun_mk (st := s20) l20 c20 k20, (fun_mk (st := s20) l20 c20 k20).binds (ps := ["groups"]) fun _ _ _ _ _ _ us hl => match us, hl with | [_], _ => rfl⟩
  have T21 : DefF K mg "_law_gaps" s21 ["times"] := ⟨f21, _, PySem.W.mg_of X G a21, fun_mk (st := s21) l21 c21 k21, (fun_mk (st := s21) l21 c21 k21).binds (ps := ["times"]) fun _ _ _ _ _ _ us hl => match us, hl with | [_], _ => rfl⟩
  have T22 : DefF K mg "_law_sent" s22 ["groups", "most"] := ⟨f22, _, PySem.W.mg_of X G a22, fun_mk (st := s22) l22 c22 k22, (fun_mk (st := s22) l22 c22 k22).binds (ps := ["groups", "most"]) fun _ _ _ _ _ _ us hl => match us, hl with | [_, _], _ => rfl⟩
  have T23 : DefF K mg "_law_times" s23 ["w"] := ⟨f23, _, PySem.W.mg_of X G a23, fun_mk (st := s23) l23 c23 k23, (fun_mk (st := s23) l23 c23 k23).binds (ps := ["w"]) fun _ _ _ _ _ _ us hl => match us, hl with | [_], _ => rfl⟩
  have T : Tx K mg := ⟨T0, T1, T2, T3, T4, T5, T6, T7, T8, T9, T10, T11, T12, T13, T14, T15, T16, T17, T18, T19, T20, T21, T22, T23⟩
  have F := fun_mk (st := s24) l24 c24 k24
  exact ⟨PySem.W.fnOf "law" "law" (defArgs s24) (defBody s24) (defScope s24) .none kV24 dc24 pm24 an24 cd24 ct24, fun s v => .of_eq rfl, fun base _ _ => okLaw B CC (evA B CC T 60) plain F⟩
theorem walk {l : PySem.W.OpenLaw} {q : Program} {loose : List Str} {XP : (Str → Option Value) → Heap → Prop} {YP : World → Heap → Prop} {d : DefRec} {K : Params → PySem.W.Frag} (hn : l.most = some 63) (hdf : d.params.defaults = [])
    (hY : ∀ (w : World) (h : Heap), YP w h → (K w.params).In h)
    (F : ∀ (w : World) (mg : Str → Option Value) (fa : Addr) (h : Heap), (K w.params).In h → h.Ns mainGlobals mg → mg d.name = some (.ref fa) →
      ∃ fd : FuncData, (∀ (s : Shared) (u : Value), BindsTo s fd ⟨[u], []⟩ [("script", u)]) ∧ ∀ base : Heap, (K w.params).In base → base.Ns mainGlobals mg → FnOk l.prog w (K w.params) mg base (L2.CX l.prog w) 61 fa fd ["script"] (spLaw (K w.params))) :
    PySem.W.WalkO q loose XP YP l.row.toRowW d [] (fun f vs => PySem.call f vs) :=
  L2.walk_of (n := 63) (k := 61) (x := "script") (CX := fun w => L2.CX l.prog w) (sp := fun w => spLaw (K w.params)) hn (by decide) hdf ⟨rfl, by decide, by decide⟩ hY F (fun _ _ a ns hl hO hS => ⟨a, ns, rfl, hO, hS, hl, fun _ => rfl⟩) fun _ _ _ _ _ z => by
    obtain ⟨_, _, _, _, _, _, _, _, _, _, _, _, z⟩ := z
    exact z
end Wk51
open PySem PySem.W PyProof.Rows
set_option maxRecDepth 100000 in
set_option maxHeartbeats 0 in
theorem PySem.Challenge.cw_dialsread_k51_whole_pulses_of_figures_holds : PySem.Challenge.rw_dialsread_k51_whole_pulses_of_figures.Holds := by
  w_on; o_law; k_head; (case hw => w_witness2)
  k_fill
  refine Wk51.walk (l := PySem.Challenge.rw_dialsread_k51_whole_pulses_of_figures) rfl rfl (fun w h Y => PySem.W.kIn_of Y) ?F
  case F =>
    intro w mg fa h KX G hmg
    refine' Wk51.all_mk KX G hmg ?a0 ?l0 ?c0 ?k0 ?a1 ?l1 ?c1 ?k1 ?a2 ?l2 ?c2 ?k2 ?a3 ?l3 ?c3 ?k3 ?a4 ?l4 ?c4 ?k4 ?a5 ?l5 ?c5 ?k5 ?a6 ?l6 ?c6 ?k6 ?a7 ?l7 ?c7 ?k7 ?a8 ?l8 ?c8 ?k8 ?a9 ?l9 ?c9 ?k9 ?a10 ?l10 ?c10 ?k10 ?a11 ?l11 ?c11 ?k11 ?a12 ?l12 ?c12 ?k12 ?a13 ?l13 ?c13 ?k13 ?a14 ?l14 ?c14 ?k14 ?a15 ?l15 ?c15 ?k15 ?a16 ?l16 ?c16 ?k16 ?a17 ?l17 ?c17 ?k17 ?a18 ?l18 ?c18 ?k18 ?a19 ?l19 ?c19 ?k19 ?a20 ?l20 ?c20 ?k20 ?a21 ?l21 ?c21 ?k21 ?a22 ?l22 ?c22 ?k22 ?a23 ?l23 ?c23 ?k23 ?a24 ?l24 ?c24 ?k24 ?z_abs ?z_all ?z_any ?z_bool ?z_dict ?z_int ?z_isinstance ?z_len ?z_list ?z_range ?z_set ?z_sorted ?z_str ?z_sum ?z_tuple
    (case a0 => k_is)
    (case l0 => k_is)
    (case c0 => k_is)
    (case k0 => k_is)
    (case a1 => k_is)
    (case l1 => k_is)
    (case c1 => k_is)
    (case k1 => k_is)
    (case a2 => k_is)
    (case l2 => k_is)
    (case c2 => k_is)
    (case k2 => k_is)
    (case a3 => k_is)
    (case l3 => k_is)
    (case c3 => k_is)
    (case k3 => k_is)
    (case a4 => k_is)
    (case l4 => k_is)
    (case c4 => k_is)
    (case k4 => k_is)
    (case a5 => k_is)
    (case l5 => k_is)
    (case c5 => k_is)
    (case k5 => k_is)
    (case a6 => k_is)
    (case l6 => k_is)
    (case c6 => k_is)
    (case k6 => k_is)
    (case a7 => k_is)
    (case l7 => k_is)
    (case c7 => k_is)
    (case k7 => k_is)
    (case a8 => k_is)
    (case l8 => k_is)
    (case c8 => k_is)
    (case k8 => k_is)
    (case a9 => k_is)
    (case l9 => k_is)
    (case c9 => k_is)
    (case k9 => k_is)
    (case a10 => k_is)
    (case l10 => k_is)
    (case c10 => k_is)
    (case k10 => k_is)
    (case a11 => k_is)
    (case l11 => k_is)
    (case c11 => k_is)
    (case k11 => k_is)
    (case a12 => k_is)
    (case l12 => k_is)
    (case c12 => k_is)
    (case k12 => k_is)
    (case a13 => k_is)
    (case l13 => k_is)
    (case c13 => k_is)
    (case k13 => k_is)
    (case a14 => k_is)
    (case l14 => k_is)
    (case c14 => k_is)
    (case k14 => k_is)
    (case a15 => k_is)
    (case l15 => k_is)
    (case c15 => k_is)
    (case k15 => k_is)
    (case a16 => k_is)
    (case l16 => k_is)
    (case c16 => k_is)
    (case k16 => k_is)
    (case a17 => k_is)
    (case l17 => k_is)
    (case c17 => k_is)
    (case k17 => k_is)
    (case a18 => k_is)
    (case l18 => k_is)
    (case c18 => k_is)
    (case k18 => k_is)
    (case a19 => k_is)
    (case l19 => k_is)
    (case c19 => k_is)
    (case k19 => k_is)
    (case a20 => k_is)
    (case l20 => k_is)
    (case c20 => k_is)
    (case k20 => k_is)
    (case a21 => k_is)
    (case l21 => k_is)
    (case c21 => k_is)
    (case k21 => k_is)
    (case a22 => k_is)
    (case l22 => k_is)
    (case c22 => k_is)
    (case k22 => k_is)
    (case a23 => k_is)
    (case l23 => k_is)
    (case c23 => k_is)
    (case k23 => k_is)
    (case a24 => k_is)
    (case l24 => k_is)
    (case c24 => k_is)
    (case k24 => k_is)
    (case z_abs => k_is)
    (case z_all => k_is)
    (case z_any => k_is)
    (case z_bool => k_is)
    (case z_dict => k_is)
    (case z_int => k_is)
    (case z_isinstance => k_is)
    (case z_len => k_is)
    (case z_list => k_is)
    (case z_range => k_is)
    (case z_set => k_is)
    (case z_sorted => k_is)
    (case z_str => k_is)
    (case z_sum => k_is)
    (case z_tuple => k_is)

end
