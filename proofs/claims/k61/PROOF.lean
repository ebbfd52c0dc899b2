import PyProof.Rows.All
import Wide.All
import OpenK.AllK
import Wide.FinOn
import HandS.ForMost
import HandS.Exc
import HandS.ExcInit
import HandS.WordsExc
import HandS.CallSlots
import HandS.Flow
import HandS.Style
import HandS.IsInst
import HandS.Wide
import HandS.TupMul
import HandS.TupAny
import HandS.Conv
import PySem.Challenge.RW_dialsread_k61_wheels_that_count
set_option Elab.async false
set_option linter.all false
/-! text: BV1.lean -/
section
/-! BV1: data by value, a small language of resolved programs, what it evaluates to. Plain Lean. -/
namespace BV

inductive D where
  | non | bool (b : Bool) | int (i : Int) | str (s : List Nat)
  | tup (xs : List D) | lst (xs : List D) | dic (kvs : List (D × D)) | tok
  deriving Inhabited

abbrev Or := List Int
inductive R (α : Type) where
  | ok (a : α) (o : Or) | exc (c : Nat) (d : D) (o : Or) | no
  deriving Inhabited
def R.bind {α β : Type} : R α → (α → Or → R β) → R β
  | .ok a o, f => f a o
  | .exc c d o, _ => .exc c d o
  | .no, _ => .no
/-- nothing may be raised -/
def R.pure {α : Type} : R α → R α
  | .ok a o => .ok a o
  | _ => .no
@[simp] theorem R.pure_ok {α : Type} (a : α) (o : Or) : (R.ok a o).pure = .ok a o := rfl
def R.of {α : Type} : Option α → Or → R α
  | some a, o => .ok a o
  | none, _ => .no
@[simp] theorem R.bind_ok {α β : Type} (a : α) (o : Or) (f : α → Or → R β) : (R.ok a o).bind f = f a o := rfl
@[simp] theorem R.bind_exc {α β : Type} (c : Nat) (d : D) (o : Or) (f : α → Or → R β) : (R.exc c d o : R α).bind f = .exc c d o := rfl
@[simp] theorem R.bind_no {α β : Type} (f : α → Or → R β) : (R.no : R α).bind f = .no := rfl
@[simp] theorem R.of_some {α : Type} (a : α) (o : Or) : R.of (some a) o = .ok a o := rfl
@[simp] theorem R.of_none {α : Type} (o : Or) : R.of (none : Option α) o = .no := rfl

/-- a slot: without a value, a value, a list (a dict) that nobody else holds -/
inductive Sl where
  | un | val (d : D) | own (d : D)
  deriving Inhabited
abbrev Env := List Sl
def getS : Env → Nat → Sl
  | [], _ => .un
  | x :: _, 0 => x
  | _ :: r, i + 1 => getS r i
def setS : Env → Nat → Sl → Env
  | [], _, _ => []
  | _ :: r, 0, y => y :: r
  | x :: r, i + 1, y => x :: setS r i y

def cap : Nat := 16777216

/-! ### equality (as Python's ==, a bool beside an int too; dicts and the token: unlike all) -/
mutual
def eqD : D → D → Bool
  | .non, .non => true
  | .bool a, .bool b => a == b
  | .bool a, .int b => (if a then 1 else 0) == b
  | .int a, .bool b => a == (if b then 1 else 0)
  | .int a, .int b => a == b
  | .str a, .str b => a == b
  | .tup a, .tup b => eqDs a b
  | .lst a, .lst b => eqDs a b
  | _, _ => false
def eqDs : List D → List D → Bool
  | [], [] => true
  | x :: xs, y :: ys => eqD x y && eqDs xs ys
  | _, _ => false
end
/-- no dict within, not too deep -/
def okN : Nat → D → Bool
  | _, .non => true
  | _, .bool _ => true
  | _, .int _ => true
  | _, .str s => s.all (fun c => decide (c < 1114112))
  | n + 1, .tup xs => xs.all (okN n)
  | n + 1, .lst xs => xs.all (okN n)
  | _, _ => false
def flat : D → Bool
  | .non => true
  | .bool _ => true
  | .int _ => true
  | .str _ => true
  | _ => false
/-- two flat things that == tells apart as data does -/
def scalD : D → D → Bool
  | .non, .non => true | .non, .int _ => true | .int _, .non => true | .non, .bool _ => true | .bool _, .non => true | .non, .str _ => true | .str _, .non => true
  | .int _, .int _ => true | .bool _, .bool _ => true | .str _, .str _ => true
  | .int _, .str _ => true | .str _, .int _ => true | .bool _, .str _ => true | .str _, .bool _ => true
  | _, _ => false
/-- equality of two things -/
def eqO (a b : D) : Option Bool :=
  if scalD a b then some (eqD a b)
  else if okN 60 a && okN 60 b then some (eqD a b) else none
def truth : D → Option Bool
  | .non => some false
  | .bool b => some b
  | .int i => some (i != 0)
  | .str s => if s.length ≤ cap then some (!s.isEmpty) else none
  | .tup xs => some (!xs.isEmpty)
  | .lst xs => some (!xs.isEmpty)
  | .dic k => some (!k.isEmpty)
  | .tok => none

/-! ### places of sequences -/
def ixN (n : Nat) (i : Int) : Option Nat := if 0 ≤ i then (if i < n then some i.toNat else none) else if -(n : Int) ≤ i then some (i + n).toNat else none
def atI {α : Type} (xs : List α) (i : Int) : Option α := (ixN xs.length i).bind fun j => xs[j]?
def sIx (n d : Nat) : Option Int → Nat
  | none => d
  | some v => if v < 0 then (v + (n : Int)).toNat else min v.toNat n
def cut {α : Type} (xs : List α) (lo hi : Option Int) : List α := (xs.drop (sIx xs.length 0 lo)).take (sIx xs.length xs.length hi - sIx xs.length 0 lo)
def partO : D → Option (Option Int)
  | .non => some none
  | .int i => some (some i)
  | _ => none
def sliceO (a l h : D) : Option D :=
  match partO l, partO h with
  | some l, some h => match a with
    | .tup xs => some (.tup (cut xs l h))
    | .lst xs => some (.lst (cut xs l h))
    | .str s => if s.length ≤ cap then some (.str (cut s l h)) else none
    | _ => none
  | _, _ => none

/-! ### operators -/
inductive O2 where
  | add | sub | mul | fdiv | mod | pow
  | eq | ne | lt | le | gt | ge | isIn | notIn | is | isNot | ix
  deriving DecidableEq
inductive O1 where
  | neg | not | chkI
  deriving DecidableEq
def rep {α : Type} (xs : List α) (k : Nat) : List α := (List.replicate k xs).flatten
def addO : D → D → Option D
  | .int a, .int b => some (.int (a + b))
  | .str a, .str b => if a.length + b.length ≤ cap then some (.str (a ++ b)) else none
  | .tup a, .tup b => if a.length + b.length ≤ cap then some (.tup (a ++ b)) else none
  | .lst a, .lst b => if a.length + b.length ≤ cap then some (.lst (a ++ b)) else none
  | _, _ => none
def mulOk (a b : Int) : Bool := (decide (-(2 ^ 64) < a) && decide (a < 2 ^ 64)) || (decide (-(2 ^ 64) < b) && decide (b < 2 ^ 64))
def repOk (n : Nat) (k : Int) : Bool := decide (1 ≤ k) && decide (k ≤ 1000) && decide (1 ≤ n) && decide (n ≤ 1000)
def mulO : D → D → Option D
  | .int a, .int b => if mulOk a b then some (.int (a * b)) else none
  | .tup a, .int k => if repOk a.length k then some (.tup (rep a k.toNat)) else none
  | _, _ => none
def inO (x : D) : D → Option Bool
  | .tup ys => if flat x && ys.all flat then some (ys.any fun y => eqD y x) else none
  | .lst ys => if flat x && ys.all flat then some (ys.any fun y => eqD y x) else none
  | _ => none
def isNon : D → Bool
  | .non => true
  | _ => false
def op2 (b : O2) (x y : D) : Option D :=
  match b with
  | .add => addO x y
  | .sub => match x, y with | .int a, .int b => some (.int (a - b)) | _, _ => none
  | .mul => mulO x y
  | .fdiv => match x, y with | .int a, .int b => if 0 < b ∧ b < 1073741824 then some (.int (a / b)) else none | _, _ => none
  | .mod => match x, y with | .int a, .int b => if 0 < b then some (.int (a % b)) else none | _, _ => none
  | .pow => match x, y with | .int a, .int b => if 0 ≤ b ∧ b ≤ 1000 ∧ a.natAbs < 1000 then some (.int (a ^ b.toNat)) else none | _, _ => none
  | .eq => (eqO x y).map .bool
  | .ne => (eqO x y).map fun b => .bool (!b)
  | .lt => match x, y with | .int a, .int b => some (.bool (decide (a < b))) | _, _ => none
  | .le => match x, y with | .int a, .int b => some (.bool (decide (a ≤ b))) | _, _ => none
  | .gt => match x, y with | .int a, .int b => some (.bool (decide (b < a))) | _, _ => none
  | .ge => match x, y with | .int a, .int b => some (.bool (decide (b ≤ a))) | _, _ => none
  | .isIn => (inO x y).map .bool
  | .notIn => (inO x y).map fun b => .bool (!b)
  | .is => match y with | .non => some (.bool (isNon x)) | _ => none
  | .isNot => match y with | .non => some (.bool (!isNon x)) | _ => none
  | .ix => match x, y with
    | .tup xs, .int i => atI xs i
    | .lst xs, .int i => atI xs i
    | .str s, .int i => if s.length ≤ cap then (atI s i).map fun c => .str [c] else none
    | _, _ => none
def op1 (u : O1) (x : D) : Option D :=
  match u with
  | .neg => match x with | .int a => some (.int (-a)) | _ => none
  | .not => (truth x).map fun b => .bool (!b)
  | .chkI => match x with | .int a => some (.int a) | _ => none

/-! ### built-in functions by values -/
inductive Ty where
  | int | bool | str | tup | lst | dic
  deriving DecidableEq
def isTy : Ty → D → Option Bool
  | _, .tok => none
  | .int, .int _ => some true
  | .int, .bool _ => some true
  | .bool, .bool _ => some true
  | .str, .str _ => some true
  | .tup, .tup _ => some true
  | .lst, .lst _ => some true
  | .dic, .dic _ => some true
  | _, _ => some false
inductive Bi where
  | len | abs | int | min1 | max1 | min2 | max2 | sum | any | all | tuple | list | range | isT (t : Ty)
  deriving DecidableEq
def intsO : List D → Option (List Int)
  | [] => some []
  | .int i :: r => (intsO r).map (i :: ·)
  | _ => none
def boolsO : List D → Option (List Bool)
  | [] => some []
  | .bool i :: r => (boolsO r).map (i :: ·)
  | _ => none
def seqO : D → Option (List D)
  | .tup xs => some xs
  | .lst xs => some xs
  | _ => none
def lstO : D → Option (List D)
  | .lst xs => some xs
  | _ => none
def upto (lo : Int) : Nat → List D
  | 0 => []
  | n + 1 => .int lo :: upto (lo + 1) n
def rangeO (lo hi : Int) : Option D := if -(2 ^ 62) ≤ lo ∧ lo < 2 ^ 62 ∧ -(2 ^ 62) ≤ hi ∧ hi < 2 ^ 62 ∧ (hi - lo).toNat ≤ cap then some (.lst (upto lo (hi - lo).toNat)) else none
def minL : List Int → Int
  | [] => 0
  | [a] => a
  | a :: r => let m := minL r; if m < a then m else a
def maxL : List Int → Int
  | [] => 0
  | [a] => a
  | a :: r => let m := maxL r; if a < m then m else a
/-- the first place of y -/
def findD (y : D) : List D → Nat → Option Nat
  | [], _ => none
  | x :: r, k => if eqD x y then some k else findD y r (k + 1)
def un1 (f : D → Option D) : List D → Option D
  | [x] => f x
  | _ => none
def un2 (f : D → D → Option D) : List D → Option D
  | [x, y] => f x y
  | _ => none
def lenO : D → Option D
  | .tup ys => some (.int ys.length)
  | .lst ys => some (.int ys.length)
  | .str s => if s.length ≤ cap then some (.int s.length) else none
  | .dic k => some (.int k.length)
  | _ => none
def absO : D → Option D
  | .int i => some (.int (if i < 0 then -i else i))
  | _ => none
def intO : D → Option D
  | .int i => some (.int i)
  | _ => none
def min2O : D → D → Option D
  | .int a, .int b => some (.int (if b < a then b else a))
  | _, _ => none
def max2O : D → D → Option D
  | .int a, .int b => some (.int (if b > a then b else a))
  | _, _ => none
def minIs : Option (List Int) → Option D
  | some (n :: ns) => some (.int (minL (n :: ns)))
  | _ => none
def maxIs : Option (List Int) → Option D
  | some (n :: ns) => some (.int (maxL (n :: ns)))
  | _ => none
def min1O (d : D) : Option D := minIs ((lstO d).bind intsO)
def max1O (d : D) : Option D := maxIs ((lstO d).bind intsO)
def sumO (d : D) : Option D := ((seqO d).bind intsO).map fun ns => .int ns.sum
def anyO (d : D) : Option D := ((lstO d).bind boolsO).map fun bs => .bool (bs.any id)
def allO (d : D) : Option D := ((lstO d).bind boolsO).map fun bs => .bool (bs.all id)
def tupO (d : D) : Option D := (seqO d).map .tup
def listO (d : D) : Option D := (seqO d).map .lst
def range1O : D → Option D
  | .int n => rangeO 0 n
  | _ => none
def range2O : D → D → Option D
  | .int a, .int b => rangeO a b
  | _, _ => none
def indexO (x y : D) : Option D := (lstO x).bind fun ys => if flat y && ys.all flat then (findD y ys 0).map fun k => .int k else none
def biF (b : Bi) (xs : List D) : Option D :=
  match b with
  | .len => un1 lenO xs
  | .abs => un1 absO xs
  | .int => un1 intO xs
  | .min2 => un2 min2O xs
  | .max2 => un2 max2O xs
  | .min1 => un1 min1O xs
  | .max1 => un1 max1O xs
  | .sum => un1 sumO xs
  | .any => un1 anyO xs
  | .all => un1 allO xs
  | .tuple => un1 tupO xs
  | .list => un1 listO xs
  | .range => match xs with
    | [x] => range1O x
    | [x, y] => range2O x y
    | _ => none
  | .isT t => un1 (fun x => (isTy t x).map .bool) xs
/-- methods that only read -/
inductive Mt where
  | index
  deriving DecidableEq
def mtOk : Mt → D → Bool
  | .index, .lst _ => true
  | _, _ => false
def mtF (m : Mt) (x : D) (xs : List D) : Option D :=
  match m with
  | .index => un1 (indexO x) xs
def items : D → Option (List D)
  | .lst xs => some xs
  | .tup xs => some xs
  | .str s => if s.length ≤ cap then some (s.map fun c => .str [c]) else none
  | _ => none

/-! ### the language -/
inductive IP where
  | slot (i : Nat) | tup (ps : List IP)
mutual
def slotsP : IP → List Nat
  | .slot i => [i]
  | .tup ps => slotsPs ps
def slotsPs : List IP → List Nat
  | [] => []
  | p :: ps => slotsP p ++ slotsPs ps
end
def wipeS (ρ : Env) : List Nat → Env
  | [] => ρ
  | v :: vs => setS (wipeS ρ vs) v .un
inductive IE where
  | cst (d : D) | var (i : Nat) | pk (i : Nat)
  | op1 (u : O1) (a : IE) | op2 (b : O2) (x y : IE) | chn (p q : O2) (a b c : IE)
  | and (a b : IE) | or (a b : IE) | ite (c a b : IE)
  | tup (es : List IE) | lst (es : List IE) | slice (a l h : IE)
  | call (f : Nat) (es : List IE) | callS (f : Nat) (es : List IE) | bi (b : Bi) (es : List IE) | mth (m : Mt) (x : IE) (es : List IE) | draw (a m : IE)
  | comp (p : IP) (s c e : IE)
inductive IS where
  | set (p : IP) (e : IE) | setO (i : Nat) (e : IE) | par (ps : List (Nat × Bool)) (es : List IE)
  | app (i : Nat) (e : IE) | aug (i : Nat) (b : O2) (e : IE) | frz (i : Nat) | ex (e : IE)
  | ifs (c : IE) (a b : List IS) | whl (n : Nat) (c : IE) (b : List IS) | for_ (p : IP) (s : IE) (b : List IS)
  | ret (e : IE) | brk | cont | pass

mutual
def bindP : IP → D → Env → Option Env
  | .slot i, d, ρ => some (setS ρ i (.val d))
  | .tup ps, .tup xs, ρ => bindPs ps xs ρ
  | .tup _, _, _ => none
def bindPs : List IP → List D → Env → Option Env
  | [], [], ρ => some ρ
  | p :: ps, x :: xs, ρ => match bindP p x ρ with
    | some ρ' => bindPs ps xs ρ'
    | none => none
  | _, _, _ => none
end
/-- what is walked -/
def R.seq (r : R D) : R (List D) := r.bind fun x o => .of (items x) o
def compM (f : D → Or → R (Option D)) : List D → Or → R (List D)
  | [], o => .ok [] o
  | x :: xs, o => (f x o).bind fun y o => (compM f xs o).bind fun ys o => match y with
    | some y => .ok (y :: ys) o
    | none => .ok ys o
def R.test {α : Type} (r : R D) (f : Bool → D → Or → R α) : R α := r.bind fun x o => match truth x with
  | some b => f b x o
  | none => .no
def R.tst (r : R D) : R Bool := r.test fun b _ o => .ok b o
def drawF : D → Or → R D
  | .int m, o => if 0 < m then (match o with
    | [] => .ok (.int 0) []
    | x :: r => .ok (.int (x % m)) r) else .no
  | _, _ => .no
/-- holds no reference -/
def scalar : D → Bool
  | .non => true
  | .bool _ => true
  | .int _ => true
  | .str _ => true
  | _ => false

section
variable (C : Nat → List D → Or → R D)
mutual
def evE : IE → Env → Or → R D
  | .cst d, _, o => .ok d o
  | .var i, ρ, o => match getS ρ i with
    | .val d => .ok d o
    | _ => .no
  | .pk i, ρ, o => match getS ρ i with
    | .val d => .ok d o
    | .own d => .ok d o
    | _ => .no
  | .op1 u a, ρ, o => (evE a ρ o).bind fun x o => .of (op1 u x) o
  | .op2 b x y, ρ, o => (evE x ρ o).bind fun x o => (evE y ρ o).bind fun y o => .of (op2 b x y) o
  | .chn p q a b c, ρ, o => (evE a ρ o).bind fun x o => (evE b ρ o).bind fun y o => (R.of (op2 p x y) o).bind fun t o => match t with
    | .bool true => (evE c ρ o).bind fun z o => .of (op2 q y z) o
    | .bool false => .ok (.bool false) o
    | _ => .no
  | .and a b, ρ, o => (evE a ρ o).test fun t x o => if t then evE b ρ o else .ok x o
  | .or a b, ρ, o => (evE a ρ o).test fun t x o => if t then .ok x o else evE b ρ o
  | .ite c a b, ρ, o => (evE c ρ o).test fun t _ o => if t then evE a ρ o else evE b ρ o
  | .tup es, ρ, o => (evEs es ρ o).bind fun xs o => .ok (.tup xs) o
  | .lst es, ρ, o => (evEs es ρ o).bind fun xs o => .ok (.lst xs) o
  | .slice a l h, ρ, o => (evE a ρ o).bind fun x o => (evE l ρ o).bind fun l o => (evE h ρ o).bind fun h o => .of (sliceO x l h) o
  | .call f es, ρ, o => (evEs es ρ o).bind fun xs o => C f xs o
  | .callS f es, ρ, o => (evEs es ρ o).bind fun xs o => (C f xs o).bind fun y o => if scalar y then .ok y o else .no
  | .bi b es, ρ, o => (evEs es ρ o).bind fun xs o => .of (biF b xs) o
  | .mth m x es, ρ, o => (evE x ρ o).bind fun x o => if mtOk m x then (evEs es ρ o).bind fun xs o => .of (mtF m x xs) o else .no
  | .draw a m, ρ, o => (evE a ρ o).bind fun x o => match x with
    | .tok => (evE m ρ o).bind fun y o => drawF y o
    | _ => .no
  | .comp p s c e, ρ, o => (evE s ρ o).seq.bind fun xs o => (compM (fun x o => match bindP p x (wipeS ρ (slotsP p)) with
        | none => .no
        | some ρ => (evE c ρ o).test fun t _ o => if t then (evE e ρ o).bind fun y o => .ok (some y) o else .ok none o) xs o).pure.bind fun ys o => .ok (.lst ys) o
def evEs : List IE → Env → Or → R (List D)
  | [], _, o => .ok [] o
  | e :: es, ρ, o => (evE e ρ o).bind fun x o => (evEs es ρ o).bind fun xs o => .ok (x :: xs) o
end

/-! ### statements -/
end
inductive Out where
  | nx (ρ : Env) (o : Or) | rt (d : D) (o : Or) | bk (ρ : Env) (o : Or) | ct (ρ : Env) (o : Or) | xc (c : Nat) (d : D) (ρ : Env) (o : Or) | no
  deriving Inhabited
def R.out {α : Type} (ρ : Env) : R α → (α → Or → Out) → Out
  | .ok a o, f => f a o
  | .exc c d o, _ => .xc c d ρ o
  | .no, _ => .no
@[simp] theorem R.out_ok {α : Type} (ρ : Env) (a : α) (o : Or) (f : α → Or → Out) : (R.ok a o).out ρ f = f a o := rfl
@[simp] theorem R.out_exc {α : Type} (ρ : Env) (c : Nat) (d : D) (o : Or) (f : α → Or → Out) : (R.exc c d o : R α).out ρ f = .xc c d ρ o := rfl
@[simp] theorem R.out_no {α : Type} (ρ : Env) (f : α → Or → Out) : (R.no : R α).out ρ f = .no := rfl
def Out.then : Out → (Env → Or → Out) → Out
  | .nx ρ o, f => f ρ o
  | x, _ => x
@[simp] theorem Out.then_nx (ρ : Env) (o : Or) (f : Env → Or → Out) : (Out.nx ρ o).then f = f ρ o := rfl
@[simp] theorem Out.then_rt (d : D) (o : Or) (f : Env → Or → Out) : (Out.rt d o).then f = .rt d o := rfl
@[simp] theorem Out.then_bk (ρ : Env) (o : Or) (f : Env → Or → Out) : (Out.bk ρ o).then f = .bk ρ o := rfl
@[simp] theorem Out.then_ct (ρ : Env) (o : Or) (f : Env → Or → Out) : (Out.ct ρ o).then f = .ct ρ o := rfl
@[simp] theorem Out.then_xc (c : Nat) (d : D) (ρ : Env) (o : Or) (f : Env → Or → Out) : (Out.xc c d ρ o).then f = .xc c d ρ o := rfl
@[simp] theorem Out.then_no (f : Env → Or → Out) : (Out.no).then f = .no := rfl
/-- one turn of a loop, then what follows -/
def Out.turn : Out → (Env → Or → Out) → Out
  | .nx ρ o, f => f ρ o
  | .ct ρ o, f => f ρ o
  | .bk ρ o, _ => .nx ρ o
  | .rt d o, _ => .rt d o
  | .xc c d ρ o, _ => .xc c d ρ o
  | .no, _ => .no
def forM (f : D → Env → Or → Out) : List D → Env → Or → Out
  | [], ρ, o => .nx ρ o
  | x :: xs, ρ, o => (f x ρ o).turn fun ρ o => forM f xs ρ o
def whileM (c : Env → Or → R D) (f : Env → Or → Out) : Nat → Env → Or → Out
  | 0, _, _ => .no
  | n + 1, ρ, o => (c ρ o).out ρ fun x o => match truth x with
    | some true => (f ρ o).turn fun ρ o => whileM c f n ρ o
    | some false => .nx ρ o
    | none => .no
def parS : List (Nat × Bool) → List D → Env → Option Env
  | [], [], ρ => some ρ
  | (i, b) :: ps, x :: xs, ρ => if b then (match x with
      | .lst _ => parS ps xs (setS ρ i (.own x))
      | _ => none) else parS ps xs (setS ρ i (.val x))
  | _, _, _ => none
section
variable (C : Nat → List D → Or → R D)
mutual
def evS : IS → Env → Or → Out
  | .set p e, ρ, o => (evE C e ρ o).out ρ fun x o => match bindP p x ρ with
    | some ρ => .nx ρ o
    | none => .no
  | .setO i e, ρ, o => (evE C e ρ o).out ρ fun x o => match x with
    | .lst _ => .nx (setS ρ i (.own x)) o
    | _ => .no
  | .par ps es, ρ, o => (evEs C es ρ o).out ρ fun xs o => match parS ps xs ρ with
    | some ρ => .nx ρ o
    | none => .no
  | .app i e, ρ, o => match getS ρ i with
    | .own (.lst xs) => (evE C e ρ o).out ρ fun x o => if xs.length < cap then .nx (setS ρ i (.own (.lst (xs ++ [x])))) o else .no
    | _ => .no
  | .aug i b e, ρ, o => match getS ρ i with
    | .val x => if scalar x then (evE C e ρ o).out ρ fun y o => match op2 b x y with
        | some z => .nx (setS ρ i (.val z)) o
        | none => .no else .no
    | _ => .no
  | .frz i, ρ, o => match getS ρ i with
    | .own d => .nx (setS ρ i (.val d)) o
    | _ => .nx ρ o
  | .ex e, ρ, o => (evE C e ρ o).out ρ fun _ o => .nx ρ o
  | .ifs c a b, ρ, o => (evE C c ρ o).out ρ fun x o => match truth x with
    | some true => evSs a ρ o
    | some false => evSs b ρ o
    | none => .no
  | .whl n c b, ρ, o => whileM (fun ρ o => evE C c ρ o) (fun ρ o => evSs b ρ o) n ρ o
  | .for_ p s b, ρ, o => (evE C s ρ o).seq.out ρ fun xs o => forM (fun x ρ o => match bindP p x ρ with
        | none => .no
        | some ρ => evSs b ρ o) xs ρ o
  | .ret e, ρ, o => (evE C e ρ o).out ρ fun x o => .rt x o
  | .brk, ρ, o => .bk ρ o
  | .cont, ρ, o => .ct ρ o
  | .pass, ρ, o => .nx ρ o
def evSs : List IS → Env → Or → Out
  | [], ρ, o => .nx ρ o
  | s :: r, ρ, o => (evS s ρ o).then fun ρ o => evSs r ρ o
end
end

/-! ### defs -/
structure Fn where
  ar : Nat
  n : Nat
  body : List IS
  deriving Inhabited
def startS (n : Nat) (xs : List D) : Env := xs.map .val ++ List.replicate (n - xs.length) .un
def Out.fin : Out → R D
  | .rt d o => .ok d o
  | .nx _ o => .ok .non o
  | .xc c d _ o => .exc c d o
  | _ => .no
def callN (T : Nat → Fn) : Nat → Nat → List D → Or → R D
  | 0, _, _, _ => .no
  | k + 1, f, xs, o => if xs.length = (T f).ar then (evSs (callN T k) (T f).body (startS (T f).n xs) o).fin else .no
end BV

end
/-! text: BV2.lean -/
section
set_option maxRecDepth 100000
set_option autoImplicit false
set_option maxHeartbeats 4000000
namespace BV
open PySem PySem.Spec PyProof.Rows L2

/-! ### values and what they stand for -/
def cps (s : List Nat) : Str := ⟨s.toArray⟩
/-- a list that is read at a: tracked, not at Av; or a written one -/
def LsA (K : PySem.W.Frag) (Av : Addr → Prop) (H : Hp) (a : Addr) (xs : List V) : Prop :=
  (Rd H a (.lst xs) ∧ ¬ Av a) ∨
    ∃ (o : Obj) (its : Array Value) (n : Nat), K.lookup a = some o ∧ o.cls = .type "list" ∧ o.dict = none ∧ o.data = .seq its n ∧ its.size ≤ sizeLine ∧ Vals xs its.toList
def TpA (K : PySem.W.Frag) (Av : Addr → Prop) (H : Hp) (a : Addr) (xs : List V) : Prop :=
  (Rd H a (.tup xs) ∧ ¬ Av a) ∨
    ∃ (o : Obj) (its : Array Value) (n : Nat), K.lookup a = some o ∧ o.cls = .type "tuple" ∧ o.data = .seq its n ∧ its.size ≤ sizeLine ∧ Vals xs its.toList
mutual
inductive Rep (K : PySem.W.Frag) (wa : Option Addr) (Av : Addr → Prop) (H : Hp) : V → D → Prop
  | non : Rep K wa Av H .non .non
  | bl (b : Bool) : Rep K wa Av H (.bl b) (.bool b)
  | int (i : Int) : Rep K wa Av H (.int i) (.int i)
  | str (s : List Nat) : Rep K wa Av H (.str (cps s)) (.str s)
  | lst {a : Addr} {xs : List V} {ds : List D} : LsA K Av H a xs → Reps K wa Av H xs ds → Rep K wa Av H (.ref a) (.lst ds)
  | tup {a : Addr} {xs : List V} {ds : List D} : TpA K Av H a xs → Reps K wa Av H xs ds → Rep K wa Av H (.ref a) (.tup ds)
  | tok {a : Addr} : wa = some a → Rep K wa Av H (.ref a) .tok
inductive Reps (K : PySem.W.Frag) (wa : Option Addr) (Av : Addr → Prop) (H : Hp) : List V → List D → Prop
  | nil : Reps K wa Av H [] []
  | cons {v : V} {vs : List V} {d : D} {ds : List D} : Rep K wa Av H v d → Reps K wa Av H vs ds → Reps K wa Av H (v :: vs) (d :: ds)
end
section
variable {K : PySem.W.Frag} {wa : Option Addr} {Av Av' : Addr → Prop} {H H' : Hp}
/-- from one heap to another -/
def Cv (Av Av' : Addr → Prop) (H H' : Hp) : Prop := ∀ a o, H a = some o → ¬ Av a → H' a = some o ∧ ¬ Av' a
theorem Cv.rd (c : Cv Av Av' H H') {a : Addr} {u : HO} (r : Rd H a u) (n : ¬ Av a) : Rd H' a u ∧ ¬ Av' a := by
  rcases r with r | ⟨o, r⟩
  · exact ⟨.inl (c _ _ r n).1, (c _ _ r n).2⟩
  · exact ⟨.inr ⟨o, (c _ _ r n).1⟩, (c _ _ r n).2⟩
theorem LsA.cv (c : Cv Av Av' H H') {a : Addr} {xs : List V} (h : LsA K Av H a xs) : LsA K Av' H' a xs := h.imp (fun h => c.rd h.1 h.2) id
theorem TpA.cv (c : Cv Av Av' H H') {a : Addr} {xs : List V} (h : TpA K Av H a xs) : TpA K Av' H' a xs := h.imp (fun h => c.rd h.1 h.2) id
theorem LsA.sq {a : Addr} {xs : List V} (h : LsA K Av H a xs) : SqL K H a xs := h.imp (fun h => h.1) id
theorem TpA.sq {a : Addr} {xs : List V} (h : TpA K Av H a xs) : SqT K H a xs := h.imp (fun h => h.1) id
mutual
theorem Rep.cv (c : Cv Av Av' H H') : ∀ {v : V} {d : D}, Rep K wa Av H v d → Rep K wa Av' H' v d
  | _, _, .non => .non
  | _, _, .bl b => .bl b
  | _, _, .int i => .int i
  | _, _, .str s => .str s
  | _, _, .lst h r => .lst (h.cv c) (Reps.cv c r)
  | _, _, .tup h r => .tup (h.cv c) (Reps.cv c r)
  | _, _, .tok h => .tok h
theorem Reps.cv (c : Cv Av Av' H H') : ∀ {vs : List V} {ds : List D}, Reps K wa Av H vs ds → Reps K wa Av' H' vs ds
  | _, _, .nil => .nil
  | _, _, .cons h r => .cons (Rep.cv c h) (Reps.cv c r)
end
theorem Reps.length : ∀ {vs : List V} {ds : List D}, Reps K wa Av H vs ds → vs.length = ds.length
  | _, _, .nil => rfl
  | _, _, .cons _ r => congrArg (· + 1) (Reps.length r)
theorem Reps.append : ∀ {vs ws : List V} {ds es : List D}, Reps K wa Av H vs ds → Reps K wa Av H ws es → Reps K wa Av H (vs ++ ws) (ds ++ es)
  | _, _, _, _, .nil, q => q
  | _, _, _, _, .cons h r, q => .cons h (Reps.append r q)
theorem Reps.take : ∀ (n : Nat) {vs : List V} {ds : List D}, Reps K wa Av H vs ds → Reps K wa Av H (vs.take n) (ds.take n)
  | 0, _, _, _ => .nil
  | _ + 1, _, _, .nil => .nil
  | n + 1, _, _, .cons h r => .cons h (Reps.take n r)
theorem Reps.drop : ∀ (n : Nat) {vs : List V} {ds : List D}, Reps K wa Av H vs ds → Reps K wa Av H (vs.drop n) (ds.drop n)
  | 0, _, _, r => r
  | _ + 1, _, _, .nil => .nil
  | n + 1, _, _, .cons _ r => Reps.drop n r
theorem Reps.get : ∀ {vs : List V} {ds : List D} {i : Nat} {d : D}, Reps K wa Av H vs ds → ds[i]? = some d → ∃ v, vs[i]? = some v ∧ Rep K wa Av H v d
  | _, _, _, _, .nil, e => by simp at e
  | _, _, 0, _, .cons h _, e => by simp at e; subst e; exact ⟨_, rfl, h⟩
  | _, _, i + 1, d, .cons _ r, e => by
    obtain ⟨v, h1, h2⟩ := Reps.get (i := i) (d := d) r (by simpa using e)
    exact ⟨v, by simpa using h1, h2⟩
theorem Reps.getV : ∀ {vs : List V} {ds : List D} {i : Nat} {v : V}, Reps K wa Av H vs ds → vs[i]? = some v → ∃ d, ds[i]? = some d ∧ Rep K wa Av H v d
  | _, _, _, _, .nil, e => by simp at e
  | _, _, 0, _, .cons h _, e => by simp at e; subst e; exact ⟨_, rfl, h⟩
  | _, _, i + 1, d, .cons _ r, e => by
    obtain ⟨v, h1, h2⟩ := Reps.getV (i := i) (v := d) r (by simpa using e)
    exact ⟨v, by simpa using h1, h2⟩
theorem Reps.rep {vs : List V} {ds : List D} (r : Reps K wa Av H vs ds) : ∀ k : Nat, Reps K wa Av H (List.replicate k vs).flatten (List.replicate k ds).flatten
  | 0 => .nil
  | k + 1 => by
    rw [List.replicate_succ, List.replicate_succ, List.flatten_cons, List.flatten_cons]
    exact r.append (Reps.rep r k)
theorem Reps.ints : ∀ {vs : List V} {ds : List D} {ns : List Int}, Reps K wa Av H vs ds → intsO ds = some ns → vs = ns.map V.int
  | _, _, _, .nil, e => by simp only [intsO, Option.some.injEq] at e; subst e; rfl
  | _, _, ns, .cons (d := d) h r, e => by
    cases h <;> simp only [intsO, reduceCtorEq] at e
    rename_i i
    cases q : intsO _ with
    | none => rw [q] at e; simp at e
    | some ms =>
      rw [q] at e
      simp only [Option.map_some, Option.some.injEq] at e
      subst e
      rw [Reps.ints r q]; rfl
theorem Reps.bools : ∀ {vs : List V} {ds : List D} {ns : List Bool}, Reps K wa Av H vs ds → boolsO ds = some ns → vs = ns.map V.bl
  | _, _, _, .nil, e => by simp only [boolsO, Option.some.injEq] at e; subst e; rfl
  | _, _, ns, .cons (d := d) h r, e => by
    cases h <;> simp only [boolsO, reduceCtorEq] at e
    rename_i i
    cases q : boolsO _ with
    | none => rw [q] at e; simp at e
    | some ms =>
      rw [q] at e
      simp only [Option.map_some, Option.some.injEq] at e
      subst e
      rw [Reps.bools r q]; rfl
end

/-! ### a frame: its entry, the draws' object, what is not to be touched -/
structure Fr where
  H0 : Hp
  wa : Option Addr
  da : Addr × Bool
  Av0 : Addr → Prop
/-- what changes none but the draws' object -/
def Kw (wa : Option Addr) (H H' : Hp) : Prop := ∀ b o, wa ≠ some b → H b = some o → H' b = some o
theorem Kw.refl (wa : Option Addr) (H : Hp) : Kw wa H H := fun _ _ _ h => h
theorem Kw.trans {wa : Option Addr} {H H1 H2 : Hp} (a : Kw wa H H1) (b : Kw wa H1 H2) : Kw wa H H2 := fun c o n h => b c o n (a c o n h)
/-- the draws that are left -/
def DaA (K : PySem.W.Frag) (Av : Addr → Prop) (H : Hp) (da : Addr × Bool) (xs : List V) : Prop :=
  if da.2 = true then ∃ (o : Obj) (its : Array Value) (n : Nat), K.lookup da.1 = some o ∧ o.cls = .type "list" ∧ o.dict = none ∧ o.data = .seq its n ∧ its.size ≤ sizeLine ∧ Vals xs its.toList
  else Rd H da.1 (.lst xs) ∧ ¬ Av da.1
def Orc (K : PySem.W.Frag) (Av : Addr → Prop) (wa : Option Addr) (da : Addr × Bool) (o : Or) (H : Hp) : Prop := match wa with
  | none => True
  | some a => ∃ (n : Nat) (ds : List Int), H a = some (.dK [(.inr "draws", .ref da.1), (.inr "at", .int (n : Nat))]) ∧ DaA K Av H da (ds.map V.int) ∧ o = ds.drop n
/-- a list that this slot alone holds -/
def Own (K : PySem.W.Frag) (wa : Option Addr) (Av : Addr → Prop) (H : Hp) (v : V) (d : D) : Prop :=
  ∃ a vs ds, v = .ref a ∧ d = .lst ds ∧ H a = some (.lst vs) ∧ Reps K wa Av H vs ds ∧ Av a ∧ wa ≠ some a
def SlOk (K : PySem.W.Frag) (wa : Option Addr) (Av : Addr → Prop) (H : Hp) : Sl → Option (Option V) → Prop
  | .un, _ => True
  | .val d, some (some v) => Rep K wa Av H v d
  | .own d, some (some v) => Own K wa Av H v d
  | _, _ => False
structure RS (K : PySem.W.Frag) (F : Fr) (Av : Addr → Prop) (ρ : Env) (o : Or) (σ : L2.St) (H : Hp) : Prop where
  len : ρ.length = σ.length
  slot : ∀ i, SlOk K F.wa Av H (getS ρ i) σ[i]?
  inj : ∀ i j d e a, getS ρ i = .own d → getS ρ j = .own e → σ[i]? = some (some (.ref a)) → σ[j]? = some (some (.ref a)) → i = j
  orc : Orc K Av F.wa F.da o H
  keep : Kw F.wa F.H0 H
  new : ∀ i d a, getS ρ i = .own d → σ[i]? = some (some (.ref a)) → F.H0 a = none
  av0 : ∀ a, F.Av0 a → Av a
  th0 : ∀ a, F.Av0 a → F.H0 a ≠ none
  there : ∀ a, Av a → H a ≠ none
  waav : ∀ a, F.wa = some a → Av a
/-- a value that may be a list that a slot alone holds: to be read at once -/
def RepB (K : PySem.W.Frag) (wa : Option Addr) (Av : Addr → Prop) (H : Hp) (v : V) (d : D) : Prop := Rep K wa Av H v d ∨ Own K wa Av H v d

section
variable {K : PySem.W.Frag} {F : Fr} {Av Av' : Addr → Prop} {ρ : Env} {o o' : Or} {σ : L2.St} {H H' : Hp}
theorem getS_none : ∀ {ρ : Env} {i : Nat}, ρ.length ≤ i → getS ρ i = .un
  | [], _, _ => rfl
  | _ :: _, 0, h => absurd h (by simp)
  | _ :: r, i + 1, h => getS_none (ρ := r) (by simpa using h)
theorem setS_len : ∀ {ρ : Env} {i : Nat} {x : Sl}, (setS ρ i x).length = ρ.length
  | [], _, _ => rfl
  | _ :: _, 0, _ => rfl
  | _ :: r, i + 1, x => congrArg (· + 1) (setS_len (ρ := r))
theorem getS_setS : ∀ {ρ : Env} {i j : Nat} {x : Sl}, getS (setS ρ i x) j = if i = j ∧ j < ρ.length then x else getS ρ j
  | [], _, _, _ => by simp [setS, getS]
  | _ :: _, 0, 0, _ => by simp [setS, getS]
  | _ :: r, 0, j + 1, x => by simp [setS, getS]
  | _ :: r, i + 1, 0, x => by simp [setS, getS]
  | _ :: r, i + 1, j + 1, x => by
    show getS (setS r i x) j = _
    rw [getS_setS]
    simp [getS]
theorem Cv.kw (k : Kw F.wa H H') (rs : RS K F Av ρ o σ H) : Cv Av Av H H' := fun a u e n => ⟨k a u (fun z => n (rs.waav a z)) e, n⟩
theorem Cv.refl : Cv Av Av H H := fun _ _ e n => ⟨e, n⟩
theorem RS.lt_len (rs : RS K F Av ρ o σ H) {i : Nat} {d : D} (e : getS ρ i = .val d ∨ getS ρ i = .own d) : i < ρ.length := by
  by_cases h : i < ρ.length
  · exact h
  · rw [getS_none (by omega)] at e
    rcases e with e | e <;> cases e
theorem RS.val (rs : RS K F Av ρ o σ H) {i : Nat} {d : D} (e : getS ρ i = .val d) : ∃ v, σ[i]? = some (some v) ∧ Rep K F.wa Av H v d := by
  have h := rs.slot i
  rw [e] at h
  cases q : σ[i]? with
  | none => rw [q] at h; exact h.elim
  | some x =>
    cases x with
    | none => rw [q] at h; exact h.elim
    | some v => rw [q] at h; exact ⟨v, rfl, h⟩
theorem RS.own (rs : RS K F Av ρ o σ H) {i : Nat} {d : D} (e : getS ρ i = .own d) : ∃ a vs ds, σ[i]? = some (some (.ref a)) ∧ d = .lst ds ∧ H a = some (.lst vs) ∧ Reps K F.wa Av H vs ds ∧ Av a ∧ F.wa ≠ some a := by
  have h := rs.slot i
  rw [e] at h
  cases q : σ[i]? with
  | none => rw [q] at h; exact h.elim
  | some x =>
    cases x with
    | none => rw [q] at h; exact h.elim
    | some v =>
      rw [q] at h
      obtain ⟨a, vs, ds, rfl, h⟩ := h
      exact ⟨a, vs, ds, rfl, h⟩
/-- another heap, the same owned objects, all else kept -/
theorem RS.heap (rs : RS K F Av ρ o σ H) (c : Cv Av Av' H H') (ow : ∀ a vs, Av a → F.wa ≠ some a → H a = some (.lst vs) → H' a = some (.lst vs)) (hv : ∀ a, Av a → Av' a)
    (orc : Orc K Av' F.wa F.da o' H') (keep : Kw F.wa F.H0 H') (there : ∀ a, Av' a → H' a ≠ none) : RS K F Av' ρ o' σ H' where
  len := rs.len
  slot := fun i => by
    have h := rs.slot i
    cases q : getS ρ i with
    | un => trivial
    | val d =>
      obtain ⟨v, e, r⟩ := rs.val q
      rw [e]; exact r.cv c
    | own d =>
      obtain ⟨a, vs, ds, e, rfl, ha, r, av, nw⟩ := rs.own q
      rw [e]
      exact ⟨a, vs, ds, rfl, rfl, ow a vs av nw ha, r.cv c, hv a av, nw⟩
  inj := rs.inj
  orc := orc
  keep := keep
  new := rs.new
  av0 := fun a h => hv a (rs.av0 a h)
  th0 := rs.th0
  there := there
  waav := fun a h => hv a (rs.waav a h)
theorem DaA.cv {da : Addr × Bool} {xs : List V} (h : DaA K Av H da xs) (c : Cv Av Av' H H') : DaA K Av' H' da xs := by
  unfold DaA at h ⊢
  split at h
  · rename_i e; rw [if_pos e]; exact h
  · rename_i e; rw [if_neg e]; exact c.rd h.1 h.2
theorem DaA.sq {da : Addr × Bool} {xs : List V} (h : DaA K Av H da xs) : SqL K H da.1 xs := by
  unfold DaA at h
  split at h
  · exact .inr h
  · exact .inl h.1
theorem Orc.cv {wa : Option Addr} {da : Addr × Bool} (h : Orc K Av wa da o H) (c : Cv Av Av' H H') (cw : ∀ a, wa = some a → ∀ u, H a = some u → H' a = some u) : Orc K Av' wa da o H' := by
  cases wa with
  | none => trivial
  | some a =>
    obtain ⟨n', ds, h1, h2, h3⟩ := h
    exact ⟨n', ds, cw a rfl _ h1, h2.cv c, h3⟩
/-- a new object -/
theorem RS.alloc (rs : RS K F Av ρ o σ H) {p : Addr} {u : HO} (hp : H p = none) : RS K F Av ρ o σ (upd H p u) := by
  have ne : ∀ {a : Addr} {x : HO}, H a = some x → a ≠ p := fun e => ne_of_none e hp
  have c : ∀ a x, H a = some x → upd H p u a = some x := fun a x e => by rw [upd_ne (ne e)]; exact e
  exact rs.heap (fun a x e n => ⟨c a x e, n⟩) (fun a vs _ _ e => c a _ e) (fun _ h => h) (rs.orc.cv (fun a x e n => ⟨c a x e, n⟩) fun a _ x e => c a x e) (rs.keep.trans fun b x _ e => c b x e)
    fun a h z => by
      cases q : H a with
      | none => exact rs.there a h q
      | some x => rw [c a x q] at z; cases z
theorem kw_alloc {wa : Option Addr} {p : Addr} {u : HO} (hp : H p = none) : Kw wa H (upd H p u) := fun b x _ e => by rw [upd_ne (ne_of_none e hp)]; exact e
theorem cv_alloc {p : Addr} {u : HO} (hp : H p = none) : Cv Av Av H (upd H p u) := fun b x e n => ⟨by rw [upd_ne (ne_of_none e hp)]; exact e, n⟩
theorem RS.notAv (rs : RS K F Av ρ o σ H) {p : Addr} (hp : H p = none) : ¬ Av p := fun h => rs.there p h hp
theorem RepB.cv (rs : RS K F Av ρ o σ H) (k : Kw F.wa H H') {v : V} {d : D} (r : RepB K F.wa Av H v d) : RepB K F.wa Av H' v d := by
  rcases r with r | ⟨a, vs, ds, rfl, rfl, h, q, av, nw⟩
  · exact .inl (r.cv (Cv.kw k rs))
  · exact .inr ⟨a, vs, ds, rfl, rfl, k a _ (fun z => nw z) h, q.cv (Cv.kw k rs), av, nw⟩
/-- a list to be read -/
theorem RepB.lst {v : V} {ds : List D} (r : RepB K F.wa Av H v (.lst ds)) : ∃ a vs, v = .ref a ∧ SqL K H a vs ∧ Reps K F.wa Av H vs ds := by
  rcases r with r | ⟨a, vs, ds', rfl, e, h, q, _, _⟩
  · cases r with
    | lst h q => exact ⟨_, _, rfl, h.sq, q⟩
  · cases e
    exact ⟨a, vs, rfl, SqL.of h, q⟩
theorem RepB.tup {v : V} {ds : List D} (r : RepB K F.wa Av H v (.tup ds)) : ∃ a vs, v = .ref a ∧ TpA K Av H a vs ∧ Reps K F.wa Av H vs ds := by
  rcases r with r | ⟨a, vs, ds', rfl, e, h, q, _, _⟩
  · cases r with
    | tup h q => exact ⟨_, _, rfl, h, q⟩
  · cases e
theorem RepB.int {v : V} {i : Int} (r : RepB K F.wa Av H v (.int i)) : v = .int i := by
  rcases r with r | ⟨a, vs, ds', rfl, e, h, q, _, _⟩
  · cases r; rfl
  · cases e
theorem RepB.bl {v : V} {i : Bool} (r : RepB K F.wa Av H v (.bool i)) : v = .bl i := by
  rcases r with r | ⟨a, vs, ds', rfl, e, h, q, _, _⟩
  · cases r; rfl
  · cases e
theorem RepB.str {v : V} {i : List Nat} (r : RepB K F.wa Av H v (.str i)) : v = .str (cps i) := by
  rcases r with r | ⟨a, vs, ds', rfl, e, h, q, _, _⟩
  · cases r; rfl
  · cases e
theorem RepB.non {v : V} (r : RepB K F.wa Av H v .non) : v = .non := by
  rcases r with r | ⟨a, vs, ds', rfl, e, h, q, _, _⟩
  · cases r; rfl
  · cases e
/-- new lists and tuples -/
theorem Rep.newLst (rs : RS K F Av ρ o σ H) {p : Addr} (hp : H p = none) {vs : List V} {ds : List D} (r : Reps K F.wa Av H vs ds) : Rep K F.wa Av (upd H p (.lst vs)) (.ref p) (.lst ds) :=
  .lst (.inl ⟨.inl upd_same, rs.notAv hp⟩) (r.cv (cv_alloc hp))
theorem Rep.newTup (rs : RS K F Av ρ o σ H) {p : Addr} (hp : H p = none) {vs : List V} {ds : List D} (r : Reps K F.wa Av H vs ds) : Rep K F.wa Av (upd H p (.tup vs)) (.ref p) (.tup ds) :=
  .tup (.inl ⟨.inl upd_same, rs.notAv hp⟩) (r.cv (cv_alloc hp))
end
end BV

end
/-! text: BV3.lean -/
section
set_option maxRecDepth 100000
set_option autoImplicit false
set_option maxHeartbeats 4000000
namespace BV
open PySem PySem.Spec PyProof.Rows L2

/-! ### readings by the evaluator -/
structure Pg where
  C : Nat → List D → Or → R D
  XP : Nat → D → Value → Option Addr → Hp → Prop
section
variable (K : PySem.W.Frag) (g : Pg) (W : WX) (F : Fr) (Av : Addr → Prop) (ρ : Env) (σ : L2.St)
/-- what is to follow an evaluation; rep: what stands for the outcome -/
def goR {α β : Type} (rep : β → α → Hp → Prop) (H : Hp) : R α → (β → Hp → Prop) → Prop
  | .ok d o, Q => ∀ v H', RS K F Av ρ o σ H' → Kw F.wa H H' → rep v d H' → Q v H'
  | .exc c d o, _ => ∀ cls dx H', RS K F Av ρ o σ H' → Kw F.wa H H' → g.XP c d cls dx H' → W cls dx σ H'
  | .no, _ => False
end
section
variable {K : PySem.W.Frag} {g : Pg} {W : WX} {F : Fr} {Av : Addr → Prop} {ρ : Env} {σ : L2.St} {α β γ δ : Type} {rep : β → α → Hp → Prop} {rep2 : δ → γ → Hp → Prop} {H H' : Hp} {r : R α}
theorem goR.mono {Q Q' : β → Hp → Prop} (h : goR K g W F Av ρ σ rep H r Q) (m : ∀ v H', Q v H' → Q' v H') : goR K g W F Av ρ σ rep H r Q' := by
  cases r with
  | ok d o => exact fun v H' a b c => m _ _ (h v H' a b c)
  | exc c d o => exact h
  | no => exact h
theorem goR.later {Q : β → Hp → Prop} (h : goR K g W F Av ρ σ rep H r Q) (k : Kw F.wa H H') : goR K g W F Av ρ σ rep H' r Q := by
  cases r with
  | ok d o => exact fun v H'' a b c => h v H'' a (k.trans b) c
  | exc c d o => exact fun cls dx H'' a b c => h cls dx H'' a (k.trans b) c
  | no => exact h
/-- one evaluation, then another -/
theorem goR.bind {f : α → Or → R γ} {Q : δ → Hp → Prop} (h : goR K g W F Av ρ σ rep2 H (r.bind f) Q) :
    goR K g W F Av ρ σ rep H r (fun v H1 => ∃ d o1, r = .ok d o1 ∧ RS K F Av ρ o1 σ H1 ∧ Kw F.wa H H1 ∧ rep v d H1 ∧ goR K g W F Av ρ σ rep2 H1 (f d o1) Q) := by
  cases r with
  | ok d o => exact fun v H' a b c => ⟨d, o, rfl, a, b, c, goR.later h b⟩
  | exc c d o => exact h
  | no => exact h
theorem goR.imp {rep' : β → α → Hp → Prop} {Q : β → Hp → Prop} (h : goR K g W F Av ρ σ rep' H r Q) (m : ∀ v d H', rep v d H' → rep' v d H') : goR K g W F Av ρ σ rep H r Q := by
  cases r with
  | ok d o => exact fun v H' a b c => h v H' a b (m _ _ _ c)
  | exc c d o => exact h
  | no => exact h
end

/-- an expression's reading; one that may be a slot's own list; arguments; a test -/
def tI (K : PySem.W.Frag) (g : Pg) (W : WX) (e : IE) : TE := fun σ H Q => ∃ F Av ρ o, RS K F Av ρ o σ H ∧ goR K g W F Av ρ σ (fun v d H' => Rep K F.wa Av H' v d) H (evE g.C e ρ o) Q
def tIB (K : PySem.W.Frag) (g : Pg) (W : WX) (e : IE) : TE := fun σ H Q => ∃ F Av ρ o, RS K F Av ρ o σ H ∧ goR K g W F Av ρ σ (fun v d H' => RepB K F.wa Av H' v d) H (evE g.C e ρ o) Q
def tIs (K : PySem.W.Frag) (g : Pg) (W : WX) (es : List IE) : TA := fun σ H Q => ∃ F Av ρ o, RS K F Av ρ o σ H ∧ goR K g W F Av ρ σ (fun v d H' => Reps K F.wa Av H' v d) H (evEs g.C es ρ o) Q
def tIBs (K : PySem.W.Frag) (g : Pg) (W : WX) (es : List IE) : TA := fun σ H Q => ∃ F Av ρ o, RS K F Av ρ o σ H ∧ goR K g W F Av ρ σ (fun v d H' => Paired (RepB K F.wa Av H') v d) H (evEs g.C es ρ o) Q
def tIT (K : PySem.W.Frag) (g : Pg) (W : WX) (e : IE) : TT := fun σ H Q => ∃ F Av ρ o, RS K F Av ρ o σ H ∧ goR K g W F Av ρ σ (fun (b d : Bool) _ => b = d) H (evE g.C e ρ o).tst Q
abbrev BE (X : Cx) (g : Pg) (W : WX) (e : Expr) (ie : IE) : Prop := PE X e (tI X.K g W ie)
abbrev BB (X : Cx) (g : Pg) (W : WX) (e : Expr) (ie : IE) : Prop := PE X e (tIB X.K g W ie)
abbrev BA (X : Cx) (g : Pg) (W : WX) (es : List Expr) (is : List IE) : Prop := PA X es (tIs X.K g W is)
abbrev BAB (X : Cx) (g : Pg) (W : WX) (es : List Expr) (is : List IE) : Prop := PA X es (tIBs X.K g W is)
abbrev BT (X : Cx) (g : Pg) (W : WX) (e : Expr) (ie : IE) : Prop := PT X e (tIT X.K g W ie)
theorem peW {X : Cx} {e : Expr} {t t' : TE} (h : PE X e t) (w : ∀ σ H Q, t' σ H Q → t σ H Q) : PE X e t' := ⟨fun pins s σ H Q I q => h.run pins s σ H Q I (w σ H Q q)⟩
theorem paW {X : Cx} {e : List Expr} {t t' : TA} (h : PA X e t) (w : ∀ σ H Q, t' σ H Q → t σ H Q) : PA X e t' := ⟨fun pos pins s σ H Q I q => h.run pos pins s σ H Q I (w σ H Q q)⟩
theorem ptW {X : Cx} {e : Expr} {t t' : TT} (h : PT X e t) (w : ∀ σ H Q, t' σ H Q → t σ H Q) : PT X e t' := ⟨fun pins s σ H Q I q => h.run pins s σ H Q I (w σ H Q q)⟩
section
variable {X : Cx} {g : Pg} {W : WX} {e a b c : Expr} {es : List Expr} {ie ia ib ic : IE} {is : List IE} {pos : Pos}
theorem BB.of (h : BE X g W e ie) : BB X g W e ie := peW h fun σ H Q ⟨F, Av, ρ, o, rs, q⟩ => ⟨F, Av, ρ, o, rs, q.imp fun _ _ _ r => .inl r⟩
theorem be_nil : BA X g W [] [] := paW pa_nil fun σ H Q ⟨F, Av, ρ, o, rs, q⟩ => q [] H rs (Kw.refl _ _) .nil
theorem be_nilB : BAB X g W [] [] := paW pa_nil fun σ H Q ⟨F, Av, ρ, o, rs, q⟩ => q [] H rs (Kw.refl _ _) .nil
theorem be_cons (ha : BE X g W e ie) (hr : BA X g W es is) (hs : starEach (e :: es) X.env = (false, eval e X.env) :: starEach es X.env := by rfl) : BA X g W (e :: es) (ie :: is) := by
  refine paW (pa_cons ha hr hs) fun σ H Q ⟨F, Av, ρ, o, rs, q⟩ => ⟨F, Av, ρ, o, rs, ?_⟩
  rw [evEs] at q
  refine q.bind.mono fun v H1 ⟨d, o1, e1, rs1, k1, r1, q1⟩ => ⟨F, Av, ρ, o1, rs1, ?_⟩
  exact q1.bind.mono fun vs H2 ⟨ds, o2, e2, rs2, k2, r2, q2⟩ => q2 (v :: vs) H2 rs2 (Kw.refl _ _) (.cons (r1.cv (Cv.kw k2 rs1)) r2)
theorem be_consB (ha : BB X g W e ie) (hr : BAB X g W es is) (hs : starEach (e :: es) X.env = (false, eval e X.env) :: starEach es X.env := by rfl) : BAB X g W (e :: es) (ie :: is) := by
  refine paW (pa_cons ha hr hs) fun σ H Q ⟨F, Av, ρ, o, rs, q⟩ => ⟨F, Av, ρ, o, rs, ?_⟩
  rw [evEs] at q
  refine q.bind.mono fun v H1 ⟨d, o1, e1, rs1, k1, r1, q1⟩ => ⟨F, Av, ρ, o1, rs1, ?_⟩
  exact q1.bind.mono fun vs H2 ⟨ds, o2, e2, rs2, k2, r2, q2⟩ => q2 (v :: vs) H2 rs2 (Kw.refl _ _) (.cons (RepB.cv rs1 k2 r1) r2)

/-! ### names, constants -/
theorem be_var (i : Nat) {x : Str} (hN : X.N[i]? = some x := by rfl) (hv : Vis X.env.scope x := by first | exact Or.inl rfl | exact Or.inr (Or.inl rfl) | exact Or.inr (Or.inr rfl)) (hd : (x == ("__debug__" : Str)) = false := by decide)
    (hcd : (x == ("__classdict__" : Str)) = false := by decide) : BE X g W (.Name x pos) (.var i) := by
  refine peW (pe_var (i := i) hN hv hd hcd) fun σ H Q ⟨F, Av, ρ, o, rs, q⟩ => ?_
  rw [evE] at q
  cases e : getS ρ i with
  | un => rw [e] at q; exact q.elim
  | own d => rw [e] at q; exact q.elim
  | val d =>
    rw [e] at q
    obtain ⟨v, e2, r⟩ := rs.val e
    exact ⟨v, e2, q v H rs (Kw.refl _ _) r⟩
theorem be_pk (i : Nat) {x : Str} (hN : X.N[i]? = some x := by rfl) (hv : Vis X.env.scope x := by first | exact Or.inl rfl | exact Or.inr (Or.inl rfl) | exact Or.inr (Or.inr rfl)) (hd : (x == ("__debug__" : Str)) = false := by decide)
    (hcd : (x == ("__classdict__" : Str)) = false := by decide) : BB X g W (.Name x pos) (.pk i) := by
  refine peW (pe_var (i := i) hN hv hd hcd) fun σ H Q ⟨F, Av, ρ, o, rs, q⟩ => ?_
  rw [evE] at q
  cases e : getS ρ i with
  | un => rw [e] at q; exact q.elim
  | own d =>
    rw [e] at q
    obtain ⟨a, vs, ds, e2, rfl, r⟩ := rs.own e
    exact ⟨_, e2, q _ H rs (Kw.refl _ _) (.inr ⟨a, vs, ds, rfl, rfl, r⟩)⟩
  | val d =>
    rw [e] at q
    obtain ⟨v, e2, r⟩ := rs.val e
    exact ⟨v, e2, q v H rs (Kw.refl _ _) (.inl r)⟩
theorem be_cst {d : D} {v : V} (h : PE X e (tC v)) (r : ∀ K wa Av H, Rep K wa Av H v d) : BE X g W e (.cst d) :=
  peW h fun σ H Q ⟨F, Av, ρ, o, rs, q⟩ => q v H rs (Kw.refl _ _) (r _ _ _ _)
theorem be_int {i j} : BE X g W (.Constant (.int i) j pos) (.cst (.int i)) := be_cst pe_int fun _ _ _ _ => .int i
theorem be_bl {b j} : BE X g W (.Constant (.bool b) j pos) (.cst (.bool b)) := be_cst pe_bl fun _ _ _ _ => .bl b
theorem be_non {j} : BE X g W (.Constant .none j pos) (.cst .non) := be_cst pe_non fun _ _ _ _ => .non
theorem be_str {s : List Nat} {x : Str} {j} (h : x = cps s := by rfl) : BE X g W (.Constant (.str x) j pos) (.cst (.str s)) := by
  subst h
  exact be_cst pe_str fun _ _ _ _ => .str s

/-! ### operators -/
/-- an operation on values does what op does on what they stand for -/
def rB (K : PySem.W.Frag) (op : D → D → Option D) : R2 := fun x y H Q => ∃ F Av ρ o σ d e z, RS K F Av ρ o σ H ∧ RepB K F.wa Av H x d ∧ RepB K F.wa Av H y e ∧ op d e = some z ∧
  ∀ w H', RS K F Av ρ o σ H' → Kw F.wa H H' → Rep K F.wa Av H' w z → Q w H'
def rU1 (K : PySem.W.Frag) (op : D → Option D) : V → Hp → VK → Prop := fun x H Q => ∃ F Av ρ o σ d z, RS K F Av ρ o σ H ∧ RepB K F.wa Av H x d ∧ op d = some z ∧
  ∀ w H', RS K F Av ρ o σ H' → Kw F.wa H H' → Rep K F.wa Av H' w z → Q w H'
theorem goR_of {K : PySem.W.Frag} {F : Fr} {Av : Addr → Prop} {ρ : Env} {σ : L2.St} {α β : Type} {rep : β → α → Hp → Prop} {H : Hp} {z : Option α} {o : Or} {Q : β → Hp → Prop} (h : goR K g W F Av ρ σ rep H (R.of z o) Q) :
    ∃ y, z = some y ∧ ∀ w H', RS K F Av ρ o σ H' → Kw F.wa H H' → rep w y H' → Q w H' := by
  cases z with
  | none => exact h.elim
  | some y => exact ⟨y, rfl, h⟩
theorem rB_of {op : O2} (ha : BB X g W a ia) (hb : BB X g W b ib) {σ : L2.St} {H : Hp} {Q : VK} (h : tI X.K g W (.op2 op ia ib) σ H Q) : tOp (rB X.K (op2 op)) (tIB X.K g W ia) (tIB X.K g W ib) σ H Q := by
  obtain ⟨F, Av, ρ, o, rs, q⟩ := h
  rw [evE] at q
  refine ⟨F, Av, ρ, o, rs, q.bind.mono fun v H1 ⟨d, o1, e1, rs1, k1, r1, q1⟩ => ⟨F, Av, ρ, o1, rs1, q1.bind.mono fun u H2 ⟨d2, o2, e2, rs2, k2, r2, q2⟩ => ?_⟩⟩
  obtain ⟨z, hz, q3⟩ := goR_of q2
  exact ⟨F, Av, ρ, o2, σ, d, d2, z, rs2, RepB.cv rs1 k2 r1, r2, hz, q3⟩
theorem be_op {op : O2} {bop : Operator} (ho : OpR X (binaryOp bop) (rB X.K (op2 op))) (ha : BB X g W a ia) (hb : BB X g W b ib) : BE X g W (.BinOp a bop b pos) (.op2 op ia ib) :=
  peW (pe_op ho ha hb) fun _ _ _ h => rB_of ha hb h
theorem be_cmp {op : O2} {cop : CmpOp} (ho : OpR X (compareOp cop) (rB X.K (op2 op))) (ha : BB X g W a ia) (hb : BB X g W b ib) (hm : behindInMarks cop b = false) : BE X g W (.Compare a [cop] [b] pos) (.op2 op ia ib) :=
  peW (pe_cmpR ho ha hb hm) fun _ _ _ h => rB_of ha hb h
theorem be_chn {op oq : O2} {cop coq : CmpOp} (ho : OpR X (compareOp cop) (rB X.K (op2 op))) (hq : OpR X (compareOp coq) (rB X.K (op2 oq))) (ha : BB X g W a ia) (hb : BB X g W b ib) (hc : BB X g W c ic)
    (hm : lastMarks [cop, coq] [b, c] = false := by rfl) : BE X g W (.Compare a [cop, coq] [b, c] pos) (.chn op oq ia ib ic) := by
  refine peW (pe_chain ho hq ha hb hc hm) fun σ H Q ⟨F, Av, ρ, o, rs, q⟩ => ?_
  rw [evE] at q
  refine ⟨F, Av, ρ, o, rs, q.bind.mono fun v H1 ⟨d, o1, e1, rs1, k1, r1, q1⟩ => ⟨F, Av, ρ, o1, rs1, q1.bind.mono fun u H2 ⟨d2, o2, e2, rs2, k2, r2, q2⟩ => ?_⟩⟩
  cases hz : op2 op d d2 with
  | none => rw [hz] at q2; exact q2.elim
  | some z =>
    rw [hz] at q2
    simp only [R.of_some, R.bind_ok] at q2
    refine ⟨F, Av, ρ, o2, σ, d, d2, z, rs2, RepB.cv rs1 k2 r1, r2, hz, fun w H3 rs3 k3 r3 => ?_⟩
    cases z with
    | bool t =>
      cases r3
      refine ⟨t, rfl, ?_⟩
      cases t with
      | false => exact q2 _ H3 rs3 k3 (.bl false)
      | true =>
        refine ⟨F, Av, ρ, o2, rs3, (q2.later k3).bind.mono fun x H4 ⟨d4, o4, e4, rs4, k4, r4, q4⟩ => ?_⟩
        obtain ⟨z, hz, q5⟩ := goR_of q4
        exact ⟨F, Av, ρ, o4, σ, d2, d4, z, rs4, RepB.cv rs2 (k3.trans k4) r2, r4, hz, q5⟩
    | _ => exact q2.elim
theorem be_un {u : O1} {uop : UnaryOp} (ho : UnR X (unaryOp uop) (rU1 X.K (op1 u))) (ha : BB X g W a ia) : BE X g W (.UnaryOp uop a pos) (.op1 u ia) := by
  refine peW (pe_un ho ha) fun σ H Q ⟨F, Av, ρ, o, rs, q⟩ => ?_
  rw [evE] at q
  refine ⟨F, Av, ρ, o, rs, q.bind.mono fun v H1 ⟨d, o1, e1, rs1, k1, r1, q1⟩ => ?_⟩
  obtain ⟨z, hz, q3⟩ := goR_of q1
  exact ⟨F, Av, ρ, o1, σ, d, z, rs1, r1, hz, q3⟩

end
end BV

end
/-! text: BV4.lean -/
section
set_option maxRecDepth 100000
set_option autoImplicit false
set_option maxHeartbeats 4000000
namespace BV
open PySem PySem.Spec PyProof.Rows L2
section
variable {X : Cx} {g : Pg} {W : WX} {e a b c : Expr} {es rest : List Expr} {ie ia ib ic : IE} {is : List IE} {pos : Pos}

/-! ### tests -/
theorem goR.test {K : PySem.W.Frag} {F : Fr} {Av : Addr → Prop} {ρ : Env} {σ : L2.St} {γ δ : Type} {rep2 : δ → γ → Hp → Prop} {H : Hp} {r : R D} {f : Bool → D → Or → R γ} {Q : δ → Hp → Prop}
    (h : goR K g W F Av ρ σ rep2 H (r.test f) Q) :
    goR K g W F Av ρ σ (fun (b d : Bool) _ => b = d) H r.tst (fun b H1 => ∃ d o1, r = .ok d o1 ∧ RS K F Av ρ o1 σ H1 ∧ Kw F.wa H H1 ∧ truth d = some b ∧ goR K g W F Av ρ σ rep2 H1 (f b d o1) Q) := by
  cases r with
  | no => exact h
  | exc c d o => exact h
  | ok d o =>
    simp only [R.tst, R.test, R.bind_ok] at h ⊢
    cases t : truth d with
    | none => rw [t] at h; exact h.elim
    | some b =>
      rw [t] at h
      rintro v H' rs k rfl
      exact ⟨d, o, rfl, rs, k, t, goR.later h k⟩
/-- .. with what it stands for -/
theorem goR.testV {K : PySem.W.Frag} {F : Fr} {Av : Addr → Prop} {ρ : Env} {σ : L2.St} {γ δ : Type} {rep2 : δ → γ → Hp → Prop} {rep : V → D → Hp → Prop} {H : Hp} {r : R D} {f : Bool → D → Or → R γ} {Q : δ → Hp → Prop}
    (h : goR K g W F Av ρ σ rep2 H (r.test f) Q) :
    goR K g W F Av ρ σ rep H r (fun v H1 => ∃ d o1 b, r = .ok d o1 ∧ RS K F Av ρ o1 σ H1 ∧ Kw F.wa H H1 ∧ rep v d H1 ∧ truth d = some b ∧ goR K g W F Av ρ σ rep2 H1 (f b d o1) Q) := by
  refine (goR.bind (rep := rep) h).mono fun v H1 ⟨d, o1, e1, rs1, k1, rp, q⟩ => ?_
  cases t : truth d with
  | none => rw [t] at q; exact q.elim
  | some b => rw [t] at q; exact ⟨d, o1, b, e1, rs1, k1, rp, t, q⟩
theorem truth_ok {F : Fr} {Av : Addr → Prop} {ρ : Env} {o : Or} {σ : L2.St} {H : Hp} (rs : RS X.K F Av ρ o σ H) {v : V} {d : D} {k : Bool} (r : RepB X.K F.wa Av H v d) (t : truth d = some k) : TruV X.K v H k := by
  cases d with
  | non => rw [r.non]; simp only [truth, Option.some.injEq] at t; exact t.symm
  | bool b => rw [r.bl]; simp only [truth, Option.some.injEq] at t; exact t.symm
  | int i => rw [r.int]; simp only [truth, Option.some.injEq] at t; exact t.symm
  | str s =>
    rw [r.str]
    have hs : s.length ≤ cap := by
      by_cases h : s.length ≤ cap
      · exact h
      · simp [truth, h] at t
    simp only [truth, if_pos hs, Option.some.injEq] at t
    refine ⟨hs, ?_⟩
    subst t
    cases s with
    | nil => rfl
    | cons x y =>
      show true = _
      symm
      simp [cps, Str.length]
      omega
  | tup ds =>
    obtain ⟨a, vs, rfl, h, q⟩ := r.tup
    simp only [truth, Option.some.injEq] at t
    subst t
    refine .inr (.inl ⟨vs, h.sq, ?_⟩)
    cases q <;> rfl
  | lst ds =>
    obtain ⟨a, vs, rfl, h, q⟩ := r.lst
    simp only [truth, Option.some.injEq] at t
    subst t
    refine .inl ⟨vs, h, ?_⟩
    cases q <;> rfl
  | dic k =>
    rcases r with r | ⟨_, _, _, _, e, _⟩
    · cases r
    · cases e
  | tok => simp [truth] at t
/-- an expression of any kind as a test -/
theorem bt_val (ha : BB X g W a ia) (he : ∀ whole, isTrue a X.env whole = (do let v ← whole; standAt a.pos; holding [v] (truthy v)) := by intro _; rfl) : BT X g W a ia := by
  refine ptW (pt_truth ha he) fun σ H Q ⟨F, Av, ρ, o, rs, q⟩ => ⟨F, Av, ρ, o, rs, ?_⟩
  refine (goR.testV q).mono fun v H1 ⟨d, o1, b, e1, rs1, k1, rp, t, q1⟩ => ⟨b, truth_ok rs1 rp t, q1 b H1 rs1 (Kw.refl _ _) rfl⟩
def isCmp : O2 → Bool
  | .eq | .ne | .lt | .le | .gt | .ge | .isIn | .notIn | .is | .isNot => true
  | _ => false
theorem cmp_bool {op : O2} (h : isCmp op = true) {d e z : D} (q : op2 op d e = some z) : ∃ b, z = .bool b := by
  cases op <;> simp only [isCmp, reduceCtorEq, Bool.false_eq_true] at h <;> simp only [op2] at q
  case eq => cases t : eqO d e <;> rw [t] at q <;> simp at q; exact ⟨_, q.symm⟩
  case ne => cases t : eqO d e <;> rw [t] at q <;> simp at q; exact ⟨_, q.symm⟩
  case isIn => cases t : inO d e <;> rw [t] at q <;> simp at q; exact ⟨_, q.symm⟩
  case notIn => cases t : inO d e <;> rw [t] at q <;> simp at q; exact ⟨_, q.symm⟩
  all_goals
    split at q <;> first
      | (simp only [Option.some.injEq] at q; exact ⟨_, q.symm⟩)
      | cases q
theorem bt_cmp {op : O2} {cop : CmpOp} (ho : OpR X (compareOp cop) (rB X.K (op2 op))) (ha : BB X g W a ia) (hb : BB X g W b ib) (hm : behindInMarks cop b = false) (hc : isCmp op = true := by rfl) : BT X g W (.Compare a [cop] [b] pos) (.op2 op ia ib) := by
  refine ptW (pt_cmpR ho ha hb hm) fun σ H Q ⟨F, Av, ρ, o, rs, q⟩ => ?_
  refine rB_of ha hb ⟨F, Av, ρ, o, rs, (goR.testV q).mono fun v H1 ⟨d, o1, b, e1, rs1, k1, rp, t, q1⟩ => ?_⟩
  rw [evE] at e1
  have : ∃ b, d = .bool b := by
    cases q2 : evE g.C ia ρ o with
    | no => rw [q2] at e1; cases e1
    | exc _ _ _ => rw [q2] at e1; cases e1
    | ok d1 o1 =>
      rw [q2, R.bind_ok] at e1
      cases q3 : evE g.C ib ρ o1 with
      | no => rw [q3] at e1; cases e1
      | exc _ _ _ => rw [q3] at e1; cases e1
      | ok d2 o2 =>
        rw [q3, R.bind_ok] at e1
        cases q4 : op2 op d1 d2 with
        | none => rw [q4] at e1; cases e1
        | some z => rw [q4] at e1; cases e1; exact cmp_bool hc q4
  obtain ⟨b', rfl⟩ := this
  cases rp
  simp only [truth, Option.some.injEq] at t
  subst t
  exact ⟨_, rfl, q1 _ H1 rs1 (Kw.refl _ _) rfl⟩
abbrev BW (X : Cx) (g : Pg) (W : WX) (e : Expr) (ie : IE) : Prop := PW X e (tIT X.K g W ie)
theorem pwW {X : Cx} {e : Expr} {t t' : TT} (h : PW X e t) (w : ∀ σ H Q, t' σ H Q → t σ H Q) : PW X e t' := ⟨fun wh pins s σ H Q I q => h.run wh pins s σ H Q I (w σ H Q q)⟩
theorem bw_and1 (ha : BT X g W a ia) : BW X g W (.BoolOp .And [a] pos) ia := pw_and1 ha
theorem bw_or1 (ha : BT X g W a ia) : BW X g W (.BoolOp .Or [a] pos) ia := pw_or1 ha
theorem tst_and {C : Nat → List D → Or → R D} {ρ : Env} {o : Or} : (evE C (.and ia ib) ρ o).tst = (evE C ia ρ o).test fun t x o => if t then (evE C ib ρ o).tst else .ok false o := by
  rw [evE]
  cases evE C ia ρ o with
  | no => rfl
  | exc _ _ _ => rfl
  | ok d o =>
    simp only [R.tst, R.test, R.bind_ok]
    cases t : truth d with
    | none => rfl
    | some b =>
      cases b with
      | true => rfl
      | false => simp [t]
theorem tst_or {C : Nat → List D → Or → R D} {ρ : Env} {o : Or} : (evE C (.or ia ib) ρ o).tst = (evE C ia ρ o).test fun t x o => if t then .ok true o else (evE C ib ρ o).tst := by
  rw [evE]
  cases evE C ia ρ o with
  | no => rfl
  | exc _ _ _ => rfl
  | ok d o =>
    simp only [R.tst, R.test, R.bind_ok]
    cases t : truth d with
    | none => rfl
    | some b =>
      cases b with
      | false => rfl
      | true => simp [t]
theorem bw_and (ha : BT X g W a ia) (hb : BW X g W (.BoolOp .And (b :: rest) pos) ib) : BW X g W (.BoolOp .And (a :: b :: rest) pos) (.and ia ib) := by
  refine pwW (pw_and ha hb) fun σ H Q ⟨F, Av, ρ, o, rs, q⟩ => ?_
  rw [tst_and] at q
  refine ⟨F, Av, ρ, o, rs, (goR.test q).mono fun b H1 ⟨d, o1, e1, rs1, k1, t, q1⟩ => ?_⟩
  cases b with
  | true => exact ⟨F, Av, ρ, o1, rs1, q1⟩
  | false => exact q1 false H1 rs1 (Kw.refl _ _) rfl
theorem bw_or (ha : BT X g W a ia) (hb : BW X g W (.BoolOp .Or (b :: rest) pos) ib) : BW X g W (.BoolOp .Or (a :: b :: rest) pos) (.or ia ib) := by
  refine pwW (pw_or ha hb) fun σ H Q ⟨F, Av, ρ, o, rs, q⟩ => ?_
  rw [tst_or] at q
  refine ⟨F, Av, ρ, o, rs, (goR.test q).mono fun b H1 ⟨d, o1, e1, rs1, k1, t, q1⟩ => ?_⟩
  cases b with
  | false => exact ⟨F, Av, ρ, o1, rs1, q1⟩
  | true => exact q1 true H1 rs1 (Kw.refl _ _) rfl
theorem bt_not (ha : BT X g W a ia) : BT X g W (.UnaryOp .Not a pos) (.op1 .not ia) := by
  refine ptW (pt_not ha) fun σ H Q ⟨F, Av, ρ, o, rs, q⟩ => ⟨F, Av, ρ, o, rs, ?_⟩
  rw [evE] at q
  generalize evE g.C ia ρ o = r at q
  cases r with
  | no => exact q
  | exc c d o' => exact q
  | ok d o' =>
    simp only [R.bind_ok, op1, R.tst, R.test] at q ⊢
    cases t : truth d with
    | none => rw [t] at q; exact q.elim
    | some b =>
      rw [t] at q
      simp only [Option.map_some, R.of_some, R.bind_ok, truth] at q
      rintro v H' rs' k' rfl
      exact q _ H' rs' k' rfl

/-! ### and, or, not, if as values -/
theorem be_and1 (ha : BE X g W a ia) : BE X g W (.BoolOp .And [a] pos) ia := peW (pe_one ha) fun _ _ _ h => h
theorem be_or1 (ha : BE X g W a ia) : BE X g W (.BoolOp .Or [a] pos) ia := peW (pe_one ha) fun _ _ _ h => h
theorem be_and (ha : BE X g W a ia) (hb : BE X g W (.BoolOp .And (b :: rest) pos) ib) : BE X g W (.BoolOp .And (a :: b :: rest) pos) (.and ia ib) := by
  refine peW (pe_andT ha hb) fun σ H Q ⟨F, Av, ρ, o, rs, q⟩ => ?_
  rw [evE] at q
  refine ⟨F, Av, ρ, o, rs, (goR.testV q).mono fun v H1 ⟨d, o1, b, e1, rs1, k1, rp, t, q1⟩ => ⟨b, truth_ok rs1 (.inl rp) t, ?_⟩⟩
  cases b with
  | true => exact ⟨F, Av, ρ, o1, rs1, q1⟩
  | false => exact q1 v H1 rs1 (Kw.refl _ _) rp
theorem be_or (ha : BE X g W a ia) (hb : BE X g W (.BoolOp .Or (b :: rest) pos) ib) : BE X g W (.BoolOp .Or (a :: b :: rest) pos) (.or ia ib) := by
  refine peW (pe_orT ha hb) fun σ H Q ⟨F, Av, ρ, o, rs, q⟩ => ?_
  rw [evE] at q
  refine ⟨F, Av, ρ, o, rs, (goR.testV q).mono fun v H1 ⟨d, o1, b, e1, rs1, k1, rp, t, q1⟩ => ⟨b, truth_ok rs1 (.inl rp) t, ?_⟩⟩
  cases b with
  | false => exact ⟨F, Av, ρ, o1, rs1, q1⟩
  | true => exact q1 v H1 rs1 (Kw.refl _ _) rp
theorem be_not (ha : BB X g W a ia) : BE X g W (.UnaryOp .Not a pos) (.op1 .not ia) := by
  refine peW (pe_notT ha) fun σ H Q ⟨F, Av, ρ, o, rs, q⟩ => ?_
  rw [evE] at q
  refine ⟨F, Av, ρ, o, rs, q.bind.mono fun v H1 ⟨d, o1, e1, rs1, k1, rp, q1⟩ => ?_⟩
  cases t : truth d with
  | none => simp only [op1, t] at q1; exact q1.elim
  | some b =>
    simp only [op1, t, Option.map_some, R.of_some] at q1
    exact ⟨b, truth_ok rs1 rp t, q1 _ H1 rs1 (Kw.refl _ _) (.bl _)⟩
theorem be_ite (hc : BT X g W c ic) (ha : BE X g W a ia) (hb : BE X g W b ib) : BE X g W (.IfExp c a b pos) (.ite ic ia ib) := by
  refine peW (pe_ifExp hc ha hb) fun σ H Q ⟨F, Av, ρ, o, rs, q⟩ => ?_
  rw [evE] at q
  refine ⟨F, Av, ρ, o, rs, (goR.test q).mono fun b H1 ⟨d, o1, e1, rs1, k1, t, q1⟩ => ?_⟩
  cases b with
  | true => exact ⟨F, Av, ρ, o1, rs1, q1⟩
  | false => exact ⟨F, Av, ρ, o1, rs1, q1⟩

/-! ### displays -/
theorem evEs_length {C : Nat → List D → Or → R D} {ρ : Env} : ∀ {is : List IE} {o o' : Or} {ds : List D}, evEs C is ρ o = .ok ds o' → ds.length = is.length
  | [], _, _, _, h => by rw [evEs] at h; cases h; rfl
  | i :: is, o, o', ds, h => by
    rw [evEs] at h
    cases q : evE C i ρ o with
    | no => rw [q] at h; cases h
    | exc _ _ _ => rw [q] at h; cases h
    | ok d o1 =>
      rw [q, R.bind_ok] at h
      cases q2 : evEs C is ρ o1 with
      | no => rw [q2] at h; cases h
      | exc _ _ _ => rw [q2] at h; cases h
      | ok es o2 =>
        rw [q2, R.bind_ok] at h
        cases h
        rw [List.length_cons, List.length_cons, evEs_length q2]
theorem le_line {n : Nat} (h : n ≤ 1000) : n ≤ sizeLine := by rw [sizeLine_eq]; omega
theorem be_tup {x1} (h : BA X g W es is) (hl : is.length ≤ 1000 := by decide) : BE X g W (.Tuple es x1 pos) (.tup is) := by
  refine peW (pe_tup h) fun σ H Q ⟨F, Av, ρ, o, rs, q⟩ => ?_
  rw [evE] at q
  refine ⟨F, Av, ρ, o, rs, q.bind.mono fun vs H1 ⟨ds, o1, e1, rs1, k1, r1, q1⟩ => ⟨?_, fun p hp => ?_⟩⟩
  · rw [r1.length, evEs_length e1]; exact le_line hl
  · exact q1 _ _ (rs1.alloc hp) (kw_alloc hp) (Rep.newTup rs1 hp r1)
theorem be_lst (h : BA X g W es is) (hl : is.length ≤ 1000 := by decide) : BE X g W (.List es pos) (.lst is) := by
  refine peW (pe_lst h) fun σ H Q ⟨F, Av, ρ, o, rs, q⟩ => ?_
  rw [evE] at q
  refine ⟨F, Av, ρ, o, rs, q.bind.mono fun vs H1 ⟨ds, o1, e1, rs1, k1, r1, q1⟩ => ⟨?_, fun p hp => ?_⟩⟩
  · rw [r1.length, evEs_length e1]; exact le_line hl
  · exact q1 _ _ (rs1.alloc hp) (kw_alloc hp) (Rep.newLst rs1 hp r1)
end
end BV

end
/-! text: BV5.lean -/
section
set_option maxRecDepth 100000
set_option autoImplicit false
set_option maxHeartbeats 4000000
namespace BV
open PySem PySem.Spec PyProof.Rows L2

theorem cap_eq : cap = sizeLine := by rw [sizeLine_eq]; rfl
/-! ### data as the library has it -/
mutual
def toPy : D → PyData
  | .non => .none
  | .bool b => .bool b
  | .int i => .int i
  | .str s => .str (cps s)
  | .tup xs => .tuple (toPys xs)
  | .lst xs => .list (toPys xs)
  | .dic _ => .none
  | .tok => .none
def toPys : List D → List PyData
  | [] => []
  | x :: xs => toPy x :: toPys xs
end
theorem okN_dp {K : PySem.W.Frag} {wa : Option Addr} {Av : Addr → Prop} {H : Hp} : ∀ (n : Nat) {v : V} {d : D}, okN n d = true → Rep K wa Av H v d → Dp K H v (toPy d) := by
  intro n
  induction n with
  | zero =>
    intro v d h r
    cases r <;> simp only [okN, Bool.false_eq_true] at h <;> constructor
  | succ n ih =>
    have all : ∀ {ds : List D} {vs : List V}, ds.all (okN n) = true → Reps K wa Av H vs ds → DpAll K H vs (toPys ds) := by
      intro ds
      induction ds with
      | nil => intro vs _ r; cases r; exact .nil
      | cons d ds ih2 =>
        intro vs h r
        rw [List.all_cons, Bool.and_eq_true] at h
        cases r with
        | cons r1 r2 => exact .cons (ih h.1 r1) (ih2 h.2 r2)
    intro v d h r
    cases r with
    | non => exact .non
    | bl b => exact .bl b
    | int i => exact .int i
    | str s => exact .str _
    | lst h1 r1 => exact .lst h1.sq (all (by simpa [okN] using h) r1)
    | tup h1 r1 => exact .tup h1.sq (all (by simpa [okN] using h) r1)
    | tok => simp [okN] at h
theorem okN_dpAll {K : PySem.W.Frag} {wa : Option Addr} {Av : Addr → Prop} {H : Hp} (n : Nat) : ∀ {ds : List D} {vs : List V}, ds.all (okN n) = true → Reps K wa Av H vs ds → DpAll K H vs (toPys ds)
  | [], _, _, .nil => .nil
  | d :: ds, _, h, .cons r1 r2 => by
    rw [List.all_cons, Bool.and_eq_true] at h
    exact .cons (okN_dp n h.1 r1) (okN_dpAll n h.2 r2)
theorem okN_lay : ∀ (n : Nat) {d : D}, okN n d = true → (toPy d).canLay0 = true ∧ (toPy d).depth ≤ n + 1 := by
  have leaf : ∀ {s : List Nat}, (s.all fun c => decide (c < 1114112)) = true → (PyData.str (cps s)).canLay0 = true := fun {s} h => by
    simp only [PyData.canLay0, PyData.strOk, cps]
    rw [← Array.all_toList]
    simpa using h
  intro n
  induction n with
  | zero =>
    intro d h
    cases d <;> simp only [okN, Bool.false_eq_true] at h <;> refine ⟨?_, ?_⟩ <;> first
      | rfl
      | exact leaf h
      | (simp only [toPy, PyData.depth]; omega)
  | succ n ih =>
    have all : ∀ {ds : List D}, ds.all (okN n) = true → PyData.canLayAll0 (toPys ds) = true ∧ PyData.depthAll (toPys ds) ≤ n + 1 := by
      intro ds
      induction ds with
      | nil => intro _; exact ⟨rfl, Nat.zero_le _⟩
      | cons d ds ih2 =>
        intro h
        rw [List.all_cons, Bool.and_eq_true] at h
        obtain ⟨a1, a2⟩ := ih h.1
        obtain ⟨b1, b2⟩ := ih2 h.2
        simp only [toPys, PyData.canLayAll0, PyData.depthAll, a1, b1, Bool.and_self, true_and]
        omega
    intro d h
    cases d with
    | tup xs =>
      obtain ⟨a1, a2⟩ := all (ds := xs) (by simpa [okN] using h)
      refine ⟨by simp only [toPy, PyData.canLay0]; exact a1, by simp only [toPy, PyData.depth]; omega⟩
    | lst xs =>
      obtain ⟨a1, a2⟩ := all (ds := xs) (by simpa [okN] using h)
      refine ⟨by simp only [toPy, PyData.canLay0]; exact a1, by simp only [toPy, PyData.depth]; omega⟩
    | str s => exact ⟨leaf (by simpa [okN] using h), by simp only [toPy, PyData.depth]; omega⟩
    | non => exact ⟨rfl, by simp only [toPy, PyData.depth]; omega⟩
    | bool b => exact ⟨rfl, by simp only [toPy, PyData.depth]; omega⟩
    | int i => exact ⟨rfl, by simp only [toPy, PyData.depth]; omega⟩
    | dic k => simp [okN] at h
    | tok => simp [okN] at h
theorem okN_shaped {d : D} (h : okN 60 d = true) : SeqAt.shaped (toPy d) = true := by
  obtain ⟨a, b⟩ := okN_lay 60 h
  unfold SeqAt.shaped
  rw [a, Bool.true_and]
  exact decide_eq_true (by omega)
theorem cps_inj {a b : List Nat} : (cps a = cps b) ↔ a = b := by
  constructor
  · intro h
    have := congrArg (fun s : Str => s.cps.toList) h
    simpa [cps] using this
  · rintro rfl; rfl
theorem cps_beq {a b : List Nat} : (cps a == cps b) = (a == b) := by
  rw [Bool.eq_iff_iff, beq_iff_eq, beq_iff_eq, cps_inj]
mutual
theorem eqv_toPy : ∀ {n m : Nat} {a b : D}, okN n a = true → okN m b = true → PyData.eqv (toPy a) (toPy b) = eqD a b
  | n, m, a, b, ha, hb => by
    cases a <;> cases b <;> first
      | (simp [okN] at ha; done)
      | (simp [okN] at hb; done)
      | (simp only [toPy, PyData.eqv, eqD, cps_beq]; done)
      | skip
    all_goals simp only [toPy, PyData.eqv, eqD]
    all_goals
      cases n with
      | zero => simp [okN] at ha
      | succ n =>
        cases m with
        | zero => simp [okN] at hb
        | succ m => exact eqv_toPys (n := n) (m := m) (by simpa [okN] using ha) (by simpa [okN] using hb)
theorem eqv_toPys : ∀ {n m : Nat} {a b : List D}, a.all (okN n) = true → b.all (okN m) = true → PyData.eqvAll (toPys a) (toPys b) = eqDs a b
  | _, _, [], [], _, _ => by simp only [toPys, PyData.eqvAll, eqDs]
  | _, _, [], _ :: _, _, _ => by simp only [toPys, PyData.eqvAll, eqDs]
  | _, _, _ :: _, [], _, _ => by simp only [toPys, PyData.eqvAll, eqDs]
  | n, m, x :: xs, y :: ys, ha, hb => by
    rw [List.all_cons, Bool.and_eq_true] at ha hb
    simp only [toPys, PyData.eqvAll, eqDs]
    rw [eqv_toPy ha.1 hb.1, eqv_toPys ha.2 hb.2]
end

section
variable {X : Cx} {g : Pg} {W : WX}
theorem RepB.dp {F : Fr} {Av : Addr → Prop} {H : Hp} {v : V} {d : D} (r : RepB X.K F.wa Av H v d) (h : okN 60 d = true) : Dp X.K H v (toPy d) := by
  rcases r with r | ⟨a, vs, ds, rfl, rfl, ha, q, _, _⟩
  · exact okN_dp 60 h r
  · exact .lst (SqL.of ha) (okN_dpAll 59 (by simpa [okN] using h) q)
/-! ### operators by their rules -/
theorem cat_lists {prog : Program} {w : World} {A : Around} {E : Value → Shared → Prop} {s : Shared} {l b : Addr} {vs ws : List Value} {Q : Value → Shared → Prop} (hl : s.heap.IsList l vs.toArray) (hb : s.heap.IsList b ws.toArray)
    (h : Q (.ref s.heap.objs.size) { s with heap := s.heap.push { cls := .type "list", data := .seq (vs ++ ws).toArray } }) (hsz : vs.length + ws.length ≤ sizeLine) :
    wpAny (model prog w) A (binaryOp .Add (.ref l) (.ref b)) Q E s := by
  obtain ⟨⟨cls, dd, data, sl⟩, ho, hc, n, hd⟩ := id hl
  obtain ⟨⟨cls2, dd2, data2, sl2⟩, ho2, hc2, n2, hd2⟩ := id hb
  simp only at hc hd hc2 hd2
  subst hc hd hc2 hd2
  have e : vs.toArray ++ ws.toArray = (vs ++ ws).toArray := by simp
  refine concat_meets ⟨_, ho, rfl⟩ ⟨_, ho2, rfl⟩ noFill_list_add seq_list_add PySem.F.slot_list_add PySem.F.entry_list_add (PySem.F.args_list_add_2 _ _) (list_addW l b vs.toArray ws.toArray n n2 dd dd2 sl sl2 (by simpa using hsz)) ⟨ho, ho2, ?_⟩
  rw [e]
  exact h
theorem o_add : OpR X (binaryOp .Add) (rB X.K (op2 .add)) := by
  intro pins s σ H x y v u Q I rx ry ⟨F, Av, ρ, o, σ', d, e, z, rs, rd, re, hz, q⟩
  simp only [op2] at hz
  unfold addO at hz
  split at hz
  · cases hz
    rw [rd.int] at rx; rw [re.int] at ry
    exact op_add pins s σ H _ _ v u Q I rx ry ⟨_, _, rfl, rfl, q _ H rs (Kw.refl _ _) (.int _)⟩
  · rename_i s1 s2
    split at hz
    · rename_i hl
      cases hz
      rw [rd.str] at rx; rw [re.str] at ry
      refine op_add_str pins s σ H _ _ v u Q I rx ry ⟨_, _, rfl, rfl, ?_, ?_⟩
      · simp only [cps, Str.length, List.size_toArray]; rw [← cap_eq]; exact hl
      · have e1 : cps s1 ++ cps s2 = cps (s1 ++ s2) := by simp only [cps, HAppend.hAppend, Append.append]; simp [Str.append]
        rw [e1]
        exact q _ H rs (Kw.refl _ _) (.str _)
    · cases hz
  · rename_i s1 s2
    split at hz
    · rename_i hl
      cases hz
      obtain ⟨a, vs, rfl, h1, r1⟩ := rd.tup
      obtain ⟨b, ws, rfl, h2, r2⟩ := re.tup
      have l1 := r1.length
      have l2 := r2.length
      refine op_catA pins s σ H _ _ v u Q I rx ry ⟨a, b, vs, ws, rfl, rfl, h1.sq, h2.sq, by rw [l1, l2, ← cap_eq]; exact hl, fun e1 => ?_, fun e1 e2 => ?_, fun e1 e2 p hp => ?_⟩
      · subst e1
        cases r1
        exact q _ H rs (Kw.refl _ _) (.tup h2 r2)
      · subst e2
        cases r2
        rw [List.append_nil] at q
        exact q _ H rs (Kw.refl _ _) (.tup h1 r1)
      · exact q _ _ (rs.alloc hp) (kw_alloc hp) (Rep.newTup rs hp (r1.append r2))
    · cases hz
  · rename_i s1 s2
    split at hz
    · rename_i hl
      cases hz
      obtain ⟨a, vs, rfl, h1, r1⟩ := rd.lst
      obtain ⟨b, ws, rfl, h2, r2⟩ := re.lst
      have l1 := r1.length
      have l2 := r2.length
      cases rx
      cases ry
      obtain ⟨its, rv, p1, hlen⟩ := I.list h1
      obtain ⟨its2, rv2, p2, hlen2⟩ := I.list h2
      have hl1 := rv.length
      have hl2 := rv2.length
      have hz : (vs ++ ws).length ≤ sizeLine := by rw [List.length_append, l1, l2, ← cap_eq]; exact hl
      refine cat_lists p1.isList p2.isList ⟨.ref _, _, I.lnew (t' := s.toks) (rv.append rv2) hz, rfl, ?_⟩ (by rw [← hl1, ← hl2, ← List.length_append]; exact hz)
      exact q _ _ (rs.alloc I.fresh) (kw_alloc I.fresh) (Rep.newLst rs I.fresh (r1.append r2))
    · cases hz
  · cases hz
theorem o_sub : OpR X (binaryOp .Sub) (rB X.K (op2 .sub)) := by
  intro pins s σ H x y v u Q I rx ry ⟨F, Av, ρ, o, σ', d, e, z, rs, rd, re, hz, q⟩
  simp only [op2] at hz
  split at hz
  · cases hz
    rw [rd.int] at rx; rw [re.int] at ry
    exact op_sub pins s σ H _ _ v u Q I rx ry ⟨_, _, rfl, rfl, q _ H rs (Kw.refl _ _) (.int _)⟩
  · cases hz
/-- a tuple, once -/
theorem tuple_mul1 (l : Addr) (items : Array Value) (n : Nat) (dd : Option Addr) (sl : Array (Option Value)) (x : Int) (u : Tok) (c0 : (decide (x < -(2 ^ 63)) || decide (x ≥ 2 ^ 63)) = false) (c1 : (items.isEmpty || x == 1) = true) :
    Meets (Builtin.«tuple.__mul__» ⟨[.ref l, .int x u], []⟩) (fun _ R s => s.heap.get? l = some { cls := .type "tuple", dict := dd, data := .seq items n, slots := sl } ∧
      R (.ok (.ret (Value.ref l))) { s with heap := s.heap, toks := s.toks }) :=
  .of_wp fun prog w A R s h => by
    obtain ⟨hp, g, d, tk, os⟩ := s
    obtain ⟨hl, h⟩ := h
    have f1 := AutoSeq1.idx_int
    wp_walk using wpAny_loadPart' hl
    repeat (first
      | (refine wpAny_ite_false (decide_eq_false (by rw [c0]; exact Bool.false_ne_true)) ?_; wp_walk using wpAny_loadPart' hl)
      | (refine wpAny_ite_true (decide_eq_true (by rw [c1])) ?_; wp_walk using wpAny_loadPart' hl))
    exact ⟨_, rfl, h⟩
theorem o_mul : OpR X (binaryOp .Mult) (rB X.K (op2 .mul)) := by
  intro pins s σ H x y v u Q I rx ry ⟨F, Av, ρ, o, σ', d, e, z, rs, rd, re, hz, q⟩
  simp only [op2] at hz
  unfold mulO at hz
  split at hz
  · rename_i i j
    split at hz
    · rename_i hl
      cases hz
      rw [rd.int] at rx; rw [re.int] at ry
      refine op_mul pins s σ H _ _ v u Q I rx ry ⟨_, _, rfl, rfl, ?_, q _ H rs (Kw.refl _ _) (.int _)⟩
      simpa [mulOk, CMul] using hl
    · cases hz
  · rename_i ds k
    split at hz
    · rename_i hl
      cases hz
      obtain ⟨a, vs, rfl, h1, r1⟩ := rd.tup
      rw [re.int] at ry
      have l1 := r1.length
      simp only [repOk, Bool.and_eq_true, decide_eq_true_eq] at hl
      obtain ⟨⟨⟨k1, k2⟩, n1⟩, n2⟩ := hl
      by_cases hk : k = 1
      · subst hk
        cases rx
        obtain ⟨t, rfl⟩ := ry
        obtain ⟨its, r, ⟨⟨cls, dd, data, sl⟩, ho, hc, n, hd⟩, hs⟩ := I.tuple h1.sq
        simp only at hc hd
        subst hc hd
        refine wpAny_binaryOp_repeat_ref (T := "tuple") (U := "int") (by decide) ⟨_, ho, rfl⟩ (fun s' => typeIs_int s' 1 t) noFill_tuple_mul PySem.F.fills_int_mul PySem.F.slot_int_rmul repeat_tuple PySem.F.slot_int_index.lookup
          (call_meets PySem.F.slot_int_rmul (typeIs_int s 1 t) PySem.F.entry_int_rmul (PySem.F.args_int_rmul_2 _ _) (int_rmul_tuple 1 t a its.toArray n dd sl)
            ⟨ho, rfl, ⟨_, ho, rfl⟩, call_meets PySem.F.slot_tuple_mul ⟨_, ho, rfl⟩ PySem.F.entry_tuple_mul (PySem.F.args_tuple_mul_2 _ _) (tuple_mul1 a its.toArray n dd sl 1 t (by decide) (by simp)) ⟨ho, ?_⟩⟩)
        have e1 : rep ds (1 : Int).toNat = ds := by simp [rep]
        rw [e1] at q
        exact ⟨.ref a, H, I, rfl, q _ H rs (Kw.refl _ _) (.tup h1 r1)⟩
      · refine op_repT pins s σ H _ _ v u Q I rx ry ⟨a, k, vs, rfl, rfl, h1.sq, fun e1 => ?_, by omega, k2, by omega, fun p hp => ?_⟩
        · subst e1
          simp at l1
          omega
        · exact q _ _ (rs.alloc hp) (kw_alloc hp) (Rep.newTup rs hp (r1.rep _))
    · cases hz
  · cases hz
end
end BV

end
/-! text: BV6.lean -/
section
set_option maxRecDepth 100000
set_option autoImplicit false
set_option maxHeartbeats 4000000
namespace BV
open PySem PySem.Spec PyProof.Rows L2
section
variable {X : Cx} {g : Pg} {W : WX} {e a b c : Expr} {es rest : List Expr} {ie ia ib ic il ih : IE} {is : List IE} {pos : Pos}
theorem o_fdiv : OpR X (binaryOp .FloorDiv) (rB X.K (op2 .fdiv)) := by
  intro pins s σ H x y v u Q I rx ry ⟨F, Av, ρ, o, σ', d, e, z, rs, rd, re, hz, q⟩
  simp only [op2] at hz
  split at hz
  · split at hz
    · rename_i hl
      cases hz
      rw [rd.int] at rx; rw [re.int] at ry
      exact op_fdiv pins s σ H _ _ v u Q I rx ry ⟨_, _, rfl, rfl, hl, q _ H rs (Kw.refl _ _) (.int _)⟩
    · cases hz
  · cases hz
theorem o_mod : OpR X (binaryOp .Mod) (rB X.K (op2 .mod)) := by
  intro pins s σ H x y v u Q I rx ry ⟨F, Av, ρ, o, σ', d, e, z, rs, rd, re, hz, q⟩
  simp only [op2] at hz
  split at hz
  · split at hz
    · rename_i hl
      cases hz
      rw [rd.int] at rx; rw [re.int] at ry
      exact op_mod pins s σ H _ _ v u Q I rx ry ⟨_, _, rfl, rfl, hl, q _ H rs (Kw.refl _ _) (.int _)⟩
    · cases hz
  · cases hz
theorem o_pow : OpR X (binaryOp .Pow) (rB X.K (op2 .pow)) := by
  intro pins s σ H x y v u Q I rx ry ⟨F, Av, ρ, o, σ', d, e, z, rs, rd, re, hz, q⟩
  simp only [op2] at hz
  split at hz
  · split at hz
    · rename_i hl
      cases hz
      rw [rd.int] at rx; rw [re.int] at ry
      exact op_pow pins s σ H _ _ v u Q I rx ry ⟨_, _, rfl, rfl, ⟨by omega, by omega, by omega⟩, q _ H rs (Kw.refl _ _) (.int _)⟩
    · cases hz
  · cases hz
theorem scal_of {F : Fr} {Av : Addr → Prop} {H : Hp} {x y : V} {d e : D} (h : scalD d e = true) (rd : RepB X.K F.wa Av H x d) (re : RepB X.K F.wa Av H y e) : scal x y = true ∧ decide (x = y) = eqD d e := by
  cases d <;> cases e <;> first
    | (simp only [scalD, Bool.false_eq_true] at h; done)
    | skip
  all_goals first
    | rw [rd.non] | rw [rd.bl] | rw [rd.int] | rw [rd.str]
  all_goals first
    | rw [re.non] | rw [re.bl] | rw [re.int] | rw [re.str]
  all_goals refine ⟨rfl, ?_⟩
  all_goals first
    | rfl
    | (rw [Bool.eq_iff_iff]; simp [eqD]; done)
    | (rw [Bool.eq_iff_iff]; simp [eqD, cps_inj]; done)
theorem o_eq (hu : X.A.units + 64 < cLine) : OpR X (compareOp .Eq) (rB X.K (op2 .eq)) := by
  intro pins s σ H x y v u Q I rx ry ⟨F, Av, ρ, o, σ', d, e, z, rs, rd, re, hz, q⟩
  simp only [op2, eqO] at hz
  split at hz
  · rename_i hs
    obtain ⟨h1, h2⟩ := scal_of hs rd re
    simp only [Option.map_some, Option.some.injEq] at hz
    subst hz
    refine op_eq pins s σ H _ _ v u Q I rx ry ⟨h1, ?_⟩
    rw [h2]
    exact q _ H rs (Kw.refl _ _) (.bl _)
  · split at hz
    · rename_i ho
      rw [Bool.and_eq_true] at ho
      simp only [Option.map_some, Option.some.injEq] at hz
      subst hz
      refine op_eqD hu pins s σ H _ _ v u Q I rx ry ⟨_, _, rd.dp ho.1, re.dp ho.2, okN_shaped ho.1, okN_shaped ho.2, ?_⟩
      rw [eqv_toPy ho.1 ho.2]
      exact q _ H rs (Kw.refl _ _) (.bl _)
    · cases hz
theorem o_ne (hu : X.A.units + 64 < cLine) : OpR X (compareOp .NotEq) (rB X.K (op2 .ne)) := by
  intro pins s σ H x y v u Q I rx ry ⟨F, Av, ρ, o, σ', d, e, z, rs, rd, re, hz, q⟩
  simp only [op2, eqO] at hz
  split at hz
  · rename_i hs
    obtain ⟨h1, h2⟩ := scal_of hs rd re
    simp only [Option.map_some, Option.some.injEq] at hz
    subst hz
    refine op_ne pins s σ H _ _ v u Q I rx ry ⟨h1, ?_⟩
    rw [h2]
    exact q _ H rs (Kw.refl _ _) (.bl _)
  · split at hz
    · rename_i ho
      rw [Bool.and_eq_true] at ho
      simp only [Option.map_some, Option.some.injEq] at hz
      subst hz
      refine op_neD hu pins s σ H _ _ v u Q I rx ry ⟨_, _, rd.dp ho.1, re.dp ho.2, okN_shaped ho.1, okN_shaped ho.2, ?_⟩
      rw [eqv_toPy ho.1 ho.2]
      exact q _ H rs (Kw.refl _ _) (.bl _)
    · cases hz
theorem o_lt : OpR X (compareOp .Lt) (rB X.K (op2 .lt)) := by
  intro pins s σ H x y v u Q I rx ry ⟨F, Av, ρ, o, σ', d, e, z, rs, rd, re, hz, q⟩
  simp only [op2] at hz
  split at hz
  · cases hz
    rw [rd.int] at rx; rw [re.int] at ry
    exact op_lt pins s σ H _ _ v u Q I rx ry ⟨_, _, rfl, rfl, q _ H rs (Kw.refl _ _) (.bl _)⟩
  · cases hz
theorem o_le : OpR X (compareOp .LtE) (rB X.K (op2 .le)) := by
  intro pins s σ H x y v u Q I rx ry ⟨F, Av, ρ, o, σ', d, e, z, rs, rd, re, hz, q⟩
  simp only [op2] at hz
  split at hz
  · cases hz
    rw [rd.int] at rx; rw [re.int] at ry
    exact op_le pins s σ H _ _ v u Q I rx ry ⟨_, _, rfl, rfl, q _ H rs (Kw.refl _ _) (.bl _)⟩
  · cases hz
theorem o_gt : OpR X (compareOp .Gt) (rB X.K (op2 .gt)) := by
  intro pins s σ H x y v u Q I rx ry ⟨F, Av, ρ, o, σ', d, e, z, rs, rd, re, hz, q⟩
  simp only [op2] at hz
  split at hz
  · cases hz
    rw [rd.int] at rx; rw [re.int] at ry
    exact op_gt pins s σ H _ _ v u Q I rx ry ⟨_, _, rfl, rfl, q _ H rs (Kw.refl _ _) (.bl _)⟩
  · cases hz
theorem o_ge : OpR X (compareOp .GtE) (rB X.K (op2 .ge)) := by
  intro pins s σ H x y v u Q I rx ry ⟨F, Av, ρ, o, σ', d, e, z, rs, rd, re, hz, q⟩
  simp only [op2] at hz
  split at hz
  · cases hz
    rw [rd.int] at rx; rw [re.int] at ry
    exact op_ge pins s σ H _ _ v u Q I rx ry ⟨_, _, rfl, rfl, q _ H rs (Kw.refl _ _) (.bl _)⟩
  · cases hz
/-! ### in -/
theorem flat_of {F : Fr} {Av : Addr → Prop} {H : Hp} {x : V} {d : D} (h : flat d = true) (rd : RepB X.K F.wa Av H x d) : flatV x = true := by
  cases d <;> first
    | (simp only [flat, Bool.false_eq_true] at h; done)
    | skip
  all_goals first
    | rw [rd.non] | rw [rd.bl] | rw [rd.int] | rw [rd.str]
  all_goals rfl
theorem eqV_of {F : Fr} {Av : Addr → Prop} {H : Hp} {x y : V} {d e : D} (h : flat d = true) (h' : flat e = true) (rd : RepB X.K F.wa Av H x d) (re : RepB X.K F.wa Av H y e) : eqV x y = eqD d e := by
  cases d <;> first
    | (simp only [flat, Bool.false_eq_true] at h; done)
    | skip
  all_goals cases e <;> first
    | (simp only [flat, Bool.false_eq_true] at h'; done)
    | skip
  all_goals first
    | rw [rd.non] | rw [rd.bl] | rw [rd.int] | rw [rd.str]
  all_goals first
    | rw [re.non] | rw [re.bl] | rw [re.int] | rw [re.str]
  all_goals first
    | rfl
    | (simp only [eqV, eqD, cps_beq]; done)
theorem flats_of {wa : Option Addr} {Av : Addr → Prop} {H : Hp} : ∀ {vs : List V} {ds : List D}, ds.all flat = true → Reps X.K wa Av H vs ds → vs.all flatV = true
  | _, _, _, .nil => rfl
  | _, _, h, .cons r1 r2 => by
    rw [List.all_cons, Bool.and_eq_true] at h
    rw [List.all_cons, flat_of (F := ⟨H, wa, (0, false), Av⟩) h.1 (.inl r1), flats_of h.2 r2]
    rfl
theorem inV_of {wa : Option Addr} {Av : Addr → Prop} {H : Hp} {x : V} {d : D} (h : flat d = true) (rd : RepB X.K wa Av H x d) : ∀ {vs : List V} {ds : List D}, ds.all flat = true → Reps X.K wa Av H vs ds → inV x vs = ds.any fun y => eqD y d
  | _, _, _, .nil => rfl
  | _, _, h', .cons r1 r2 => by
    rw [List.all_cons, Bool.and_eq_true] at h'
    have ih := inV_of h rd h'.2 r2
    unfold inV at ih ⊢
    rw [List.any_cons, List.any_cons, ih, eqV_of (F := ⟨H, wa, (0, false), Av⟩) h'.1 h (.inl r1) rd]
theorem o_in : OpR X (compareOp .In) (rB X.K (op2 .isIn)) := by
  intro pins s σ H x y v u Q I rx ry ⟨F, Av, ρ, o, σ', d, e, z, rs, rd, re, hz, q⟩
  simp only [op2] at hz
  unfold inO at hz
  split at hz
  · split at hz
    · rename_i ys hf
      rw [Bool.and_eq_true] at hf
      simp only [Option.map_some, Option.some.injEq] at hz
      subst hz
      obtain ⟨p, vs, rfl, h1, r1⟩ := re.tup
      refine op_in_seq pins s σ H _ _ v u Q I rx ry ⟨p, vs, rfl, .inr h1.sq, flat_of hf.1 rd, flats_of hf.2 r1, ?_⟩
      rw [inV_of hf.1 rd hf.2 r1]
      exact q _ H rs (Kw.refl _ _) (.bl _)
    · simp at hz
  · split at hz
    · rename_i ys hf
      rw [Bool.and_eq_true] at hf
      simp only [Option.map_some, Option.some.injEq] at hz
      subst hz
      obtain ⟨p, vs, rfl, h1, r1⟩ := re.lst
      refine op_in_seq pins s σ H _ _ v u Q I rx ry ⟨p, vs, rfl, .inl h1, flat_of hf.1 rd, flats_of hf.2 r1, ?_⟩
      rw [inV_of hf.1 rd hf.2 r1]
      exact q _ H rs (Kw.refl _ _) (.bl _)
    · simp at hz
  · simp at hz
theorem o_notIn : OpR X (compareOp .NotIn) (rB X.K (op2 .notIn)) := by
  intro pins s σ H x y v u Q I rx ry ⟨F, Av, ρ, o, σ', d, e, z, rs, rd, re, hz, q⟩
  simp only [op2] at hz
  unfold inO at hz
  split at hz
  · split at hz
    · rename_i ys hf
      rw [Bool.and_eq_true] at hf
      simp only [Option.map_some, Option.some.injEq] at hz
      subst hz
      obtain ⟨p, vs, rfl, h1, r1⟩ := re.tup
      refine op_notIn_seq pins s σ H _ _ v u Q I rx ry ⟨p, vs, rfl, .inr h1.sq, flat_of hf.1 rd, flats_of hf.2 r1, ?_⟩
      rw [inV_of hf.1 rd hf.2 r1]
      exact q _ H rs (Kw.refl _ _) (.bl _)
    · simp at hz
  · split at hz
    · rename_i ys hf
      rw [Bool.and_eq_true] at hf
      simp only [Option.map_some, Option.some.injEq] at hz
      subst hz
      obtain ⟨p, vs, rfl, h1, r1⟩ := re.lst
      refine op_notIn_seq pins s σ H _ _ v u Q I rx ry ⟨p, vs, rfl, .inl h1, flat_of hf.1 rd, flats_of hf.2 r1, ?_⟩
      rw [inV_of hf.1 rd hf.2 r1]
      exact q _ H rs (Kw.refl _ _) (.bl _)
    · simp at hz
  · simp at hz
/-! ### is -/
theorem isn_of {F : Fr} {Av : Addr → Prop} {H : Hp} {x : V} {d : D} (rd : RepB X.K F.wa Av H x d) : decide (x = .non) = isNon d := by
  rcases rd with r | ⟨a, vs, ds, rfl, rfl, _⟩
  · cases r <;> rfl
  · rfl
theorem o_is : OpR X (compareOp .Is) (rB X.K (op2 .is)) := by
  intro pins s σ H x y v u Q I rx ry ⟨F, Av, ρ, o, σ', d, e, z, rs, rd, re, hz, q⟩
  simp only [op2] at hz
  split at hz
  · cases hz
    rw [re.non] at ry
    refine op_isN pins s σ H _ _ v u Q I rx ry ⟨rfl, ?_⟩
    rw [isn_of rd]
    exact q _ H rs (Kw.refl _ _) (.bl _)
  · cases hz
theorem o_isNot : OpR X (compareOp .IsNot) (rB X.K (op2 .isNot)) := by
  intro pins s σ H x y v u Q I rx ry ⟨F, Av, ρ, o, σ', d, e, z, rs, rd, re, hz, q⟩
  simp only [op2] at hz
  split at hz
  · cases hz
    rw [re.non] at ry
    refine op_notN pins s σ H _ _ v u Q I rx ry ⟨rfl, ?_⟩
    rw [isn_of rd]
    exact q _ H rs (Kw.refl _ _) (.bl _)
  · cases hz
theorem u_neg : UnR X (unaryOp .USub) (rU1 X.K (op1 .neg)) := by
  intro pins s σ H x v Q I rx ⟨F, Av, ρ, o, σ', d, z, rs, rd, hz, q⟩
  simp only [op1] at hz
  split at hz
  · cases hz
    rw [rd.int] at rx
    exact un_neg pins s σ H _ v Q I rx ⟨_, rfl, q _ H rs (Kw.refl _ _) (.int _)⟩
  · cases hz

/-! ### places -/
theorem ixN_lt {n : Nat} {i : Int} {j : Nat} (h : ixN n i = some j) : j < n := by
  unfold ixN at h
  split at h
  · split at h <;> simp at h
    omega
  · split at h <;> simp at h
    omega
theorem ixN_eq (n : Nat) (i : Int) : BV.ixN n i = L2.ixN n i := rfl
theorem atI_rep {K : PySem.W.Frag} {wa : Option Addr} {Av : Addr → Prop} {H : Hp} {vs : List V} {ds : List D} {i : Int} {z : D} (r : Reps K wa Av H vs ds) (h : BV.atI ds i = some z) : ∃ v, L2.atI vs i = some v ∧ Rep K wa Av H v z := by
  unfold BV.atI at h
  cases q : BV.ixN ds.length i with
  | none => rw [q] at h; cases h
  | some j =>
    rw [q] at h
    simp only [Option.bind_some] at h
    obtain ⟨v, h1, h2⟩ := r.get h
    refine ⟨v, ?_, h2⟩
    unfold L2.atI
    rw [r.length, ← ixN_eq, q]
    exact h1
theorem x_ix : IxR X (rB X.K (op2 .ix)) := by
  intro value slice pins s σ H x y v u Q I rx ry ⟨F, Av, ρ, o, σ', d, e, z, rs, rd, re, hz, q⟩ hs
  simp only [op2] at hz
  split at hz
  · obtain ⟨a, vs, rfl, h1, r1⟩ := rd.tup
    rw [re.int] at ry
    obtain ⟨w, h2, h3⟩ := atI_rep r1 hz
    exact ix_tup value slice pins s σ H _ _ v u Q I rx ry ⟨a, vs, _, w, rfl, rfl, h1.sq, h2, q _ H rs (Kw.refl _ _) h3⟩ hs
  · obtain ⟨a, vs, rfl, h1, r1⟩ := rd.lst
    rw [re.int] at ry
    obtain ⟨w, h2, h3⟩ := atI_rep r1 hz
    exact ix_list value slice pins s σ H _ _ v u Q I rx ry ⟨a, vs, _, w, rfl, rfl, h1, h2, q _ H rs (Kw.refl _ _) h3⟩ hs
  · rename_i st i
    split at hz
    · rename_i hl
      rw [rd.str] at rx
      rw [re.int] at ry
      cases q2 : BV.atI st i with
      | none => rw [q2] at hz; cases hz
      | some c =>
        rw [q2] at hz
        cases hz
        refine ix_str value slice pins s σ H _ _ v u Q I rx ry ⟨_, i, c, rfl, rfl, by simp only [cps, Str.length, List.size_toArray]; rw [← cap_eq]; exact hl, q2, q _ H rs (Kw.refl _ _) (.str [c])⟩ hs
    · cases hz
  · cases hz
theorem be_ix (ha : BB X g W a ia) (hb : BB X g W b ib) (hs : PlainIx b := by intro _ _; rfl) : BE X g W (.Subscript a b pos) (.op2 .ix ia ib) :=
  peW (pe_ix x_ix ha hb hs) fun _ _ _ h => rB_of ha hb h

/-! ### slices -/
def tIO (K : PySem.W.Frag) (g : Pg) (W : WX) (e : IE) : TO := fun σ H Q => ∃ F Av ρ o, RS K F Av ρ o σ H ∧ goR K g W F Av ρ σ (fun (l : Option Int) d _ => partO d = some l) H (evE g.C e ρ o) Q
abbrev BO (X : Cx) (g : Pg) (W : WX) (e : Option Expr) (ie : IE) : Prop := PO X e (tIO X.K g W ie)
theorem poW {X : Cx} {e : Option Expr} {t t' : TO} (h : PO X e t) (w : ∀ σ H Q, t' σ H Q → t σ H Q) : PO X e t' := ⟨fun pins s σ H Q I q => h.run pins s σ H Q I (w σ H Q q)⟩
theorem bo_none : BO X g W none (.cst .non) := poW po_none fun σ H Q ⟨F, Av, ρ, o, rs, q⟩ => q none H rs (Kw.refl _ _) rfl
theorem bo_some (ha : BE X g W a ia) : BO X g W (some a) (.op1 .chkI ia) := by
  refine poW (po_some ha) fun σ H Q ⟨F, Av, ρ, o, rs, q⟩ => ⟨F, Av, ρ, o, rs, ?_⟩
  rw [evE] at q
  refine q.bind.mono fun v H1 ⟨d, o1, e1, rs1, k1, r1, q1⟩ => ?_
  cases d <;> first
    | (exact q1.elim)
    | skip
  cases r1
  exact ⟨_, rfl, q1 _ H1 rs1 (Kw.refl _ _) rfl⟩
theorem sIx_eq (n d : Nat) (o : Option Int) : BV.sIx n d o = HT.sIx n d o := by
  cases o with
  | none => rfl
  | some v => simp only [BV.sIx]; rfl
theorem Reps.cut {K : PySem.W.Frag} {wa : Option Addr} {Av : Addr → Prop} {H : Hp} {vs : List V} {ds : List D} (r : Reps K wa Av H vs ds) (lo hi : Option Int) : Reps K wa Av H (cutV vs lo hi) (cut ds lo hi) := by
  unfold cutV BV.cut
  rw [sIx_eq, sIx_eq, r.length]
  exact (r.drop _).take _
def rSl (K : PySem.W.Frag) : V → Option Int → Option Int → Hp → VK → Prop := fun x lo hi H Q => ∃ F Av ρ o σ d z, RS K F Av ρ o σ H ∧ RepB K F.wa Av H x d ∧
  (match d with
    | .tup xs => some (.tup (cut xs lo hi))
    | .lst xs => some (.lst (cut xs lo hi))
    | .str s => if s.length ≤ cap then some (.str (cut s lo hi)) else none
    | _ => none) = some z ∧ ∀ w H', RS K F Av ρ o σ H' → Kw F.wa H H' → Rep K F.wa Av H' w z → Q w H'
theorem cut_whole {α : Type} {xs : List α} {lo hi : Option Int} (h : BV.sIx xs.length 0 lo = 0 ∧ BV.sIx xs.length xs.length hi = xs.length) : cut xs lo hi = xs := by
  unfold BV.cut
  rw [h.1, h.2]
  simp
theorem cps_cut (s : List Nat) (lo hi : Option Int) : cutS (cps s) lo hi = cps (cut s lo hi) := by
  unfold cutS BV.cut
  simp only [cps, Str.length, List.size_toArray, sIx_eq]
theorem x_sl : SlR X (rSl X.K) := by
  intro pins s σ H x v vl vu lo hi sl Q I rx hs pl pu ⟨F, Av, ρ, o, σ', d, z, rs, rd, hz, q⟩
  split at hz
  · cases hz
    obtain ⟨a, vs, rfl, h1, r1⟩ := rd.tup
    refine sl_tupA pins s σ H _ v vl vu lo hi sl Q I rx hs pl pu ⟨a, vs, rfl, h1.sq, fun hw => ?_, fun _ p hp => ?_⟩
    · have e1 : cut _ lo hi = _ := cut_whole (xs := vs) (lo := lo) (hi := hi) (by rw [sIx_eq, sIx_eq]; exact hw)
      rw [r1.length, ← sIx_eq, ← sIx_eq] at hw
      rw [cut_whole hw] at q
      exact q _ H rs (Kw.refl _ _) (.tup h1 r1)
    · exact q _ _ (rs.alloc hp) (kw_alloc hp) (Rep.newTup rs hp (r1.cut lo hi))
  · cases hz
    obtain ⟨a, vs, rfl, h1, r1⟩ := rd.lst
    exact sl_list pins s σ H _ v vl vu lo hi sl Q I rx hs pl pu ⟨a, vs, rfl, h1, fun p hp => q _ _ (rs.alloc hp) (kw_alloc hp) (Rep.newLst rs hp (r1.cut lo hi))⟩
  · split at hz
    · rename_i hl
      cases hz
      rw [rd.str] at rx
      refine sl_str pins s σ H _ v vl vu lo hi sl Q I rx hs pl pu ⟨_, rfl, by simp only [cps, Str.length, List.size_toArray]; rw [← cap_eq]; exact hl, ?_⟩
      rw [cps_cut]
      exact q _ H rs (Kw.refl _ _) (.str _)
    · cases hz
  · cases hz
theorem be_slice {lo hi : Option Expr} {p2 : Pos} (ha : BB X g W a ia) (hl : BO X g W lo il) (hh : BO X g W hi ih) : BE X g W (.Subscript a (.Slice lo hi none p2) pos) (.slice ia il ih) := by
  refine peW (pe_slice x_sl ha hl hh) fun σ H Q ⟨F, Av, ρ, o, rs, q⟩ => ⟨F, Av, ρ, o, rs, ?_⟩
  rw [evE] at q
  refine q.bind.mono fun v H1 ⟨d, o1, e1, rs1, k1, r1, q1⟩ => ⟨F, Av, ρ, o1, rs1, ?_⟩
  refine q1.bind.mono fun l H2 ⟨dl, o2, e2, rs2, k2, r2, q2⟩ => ⟨F, Av, ρ, o2, rs2, ?_⟩
  refine q2.bind.mono fun h H3 ⟨dh, o3, e3, rs3, k3, r3, q3⟩ => ?_
  obtain ⟨z, hz, q4⟩ := goR_of q3
  simp only [sliceO, r2, r3] at hz
  exact ⟨F, Av, ρ, o3, σ, d, z, rs3, RepB.cv rs1 (k2.trans k3) r1, hz, q4⟩
end
end BV

end
/-! text: BV7.lean -/
section
set_option maxRecDepth 100000
set_option autoImplicit false
set_option maxHeartbeats 4000000
namespace BV
open PySem PySem.Spec PyProof.Rows L2

/-! ### the frame behind a change -/
section
variable {K : PySem.W.Frag} {F : Fr} {Av Av' : Addr → Prop} {ρ ρ' : Env} {o o' : Or} {σ σ' : L2.St} {H H' : Hp}
theorem getV_set {σ : L2.St} {i j : Nat} {x : Option V} : (σ.set i x)[j]? = if i = j ∧ j < σ.length then some x else σ[j]? := by
  rw [List.getElem?_set]
  by_cases h : i = j
  · subst h
    by_cases h2 : i < σ.length
    · simp [h2]
    · simp [h2]
  · simp [h]
/-- a slot stored -/
theorem RS.set (rs : RS K F Av ρ o σ H) {i : Nat} {v : V} {d : D} (r : Rep K F.wa Av H v d) : RS K F Av (setS ρ i (.val d)) o (σ.set i (some v)) H where
  len := by rw [setS_len, List.length_set]; exact rs.len
  slot := fun j => by
    rw [getS_setS, getV_set, rs.len]
    split
    · exact r
    · exact rs.slot j
  inj := fun j k d' e a h1 h2 h3 h4 => by
    rw [getS_setS, rs.len] at h1 h2
    rw [getV_set] at h3 h4
    split at h1
    · cases h1
    · split at h2
      · cases h2
      · rename_i n1 n2
        rw [if_neg n1] at h3
        rw [if_neg n2] at h4
        exact rs.inj j k d' e a h1 h2 h3 h4
  orc := rs.orc
  keep := rs.keep
  new := fun j d' a h1 h2 => by
    rw [getS_setS, rs.len] at h1
    rw [getV_set] at h2
    split at h1
    · cases h1
    · rename_i n1
      rw [if_neg n1] at h2
      exact rs.new j d' a h1 h2
  av0 := rs.av0
  th0 := rs.th0
  there := rs.there
  waav := rs.waav
theorem RS.unset (rs : RS K F Av ρ o σ H) {i : Nat} {x : Option V} : RS K F Av (setS ρ i .un) o (σ.set i x) H where
  len := by rw [setS_len, List.length_set]; exact rs.len
  slot := fun j => by
    rw [getS_setS, getV_set, rs.len]
    split
    · trivial
    · exact rs.slot j
  inj := fun j k d' e a h1 h2 h3 h4 => by
    rw [getS_setS, rs.len] at h1 h2
    rw [getV_set] at h3 h4
    split at h1
    · cases h1
    · split at h2
      · cases h2
      · rename_i n1 n2
        rw [if_neg n1] at h3
        rw [if_neg n2] at h4
        exact rs.inj j k d' e a h1 h2 h3 h4
  orc := rs.orc
  keep := rs.keep
  new := fun j d' a h1 h2 => by
    rw [getS_setS, rs.len] at h1
    rw [getV_set] at h2
    split at h1
    · cases h1
    · rename_i n1
      rw [if_neg n1] at h2
      exact rs.new j d' a h1 h2
  av0 := rs.av0
  th0 := rs.th0
  there := rs.there
  waav := rs.waav
theorem RS.wipe (rs : RS K F Av ρ o σ H) : ∀ vs : List Nat, RS K F Av (wipeS ρ vs) o (wipe σ vs) H
  | [] => rs
  | v :: vs => (RS.wipe rs vs).unset
theorem orc_there {wa : Option Addr} {da : Addr × Bool} {a : Addr} (h : Orc K Av wa da o H) (e : wa = some a) : H a ≠ none := by
  subst e
  obtain ⟨n, ds, h1, _⟩ := h
  rw [h1]
  exact fun z => nomatch z
/-- behind what changed none but the draws -/
theorem RS.kw (rs : RS K F Av ρ o σ H) (k : Kw F.wa H H') (oc : Orc K Av F.wa F.da o' H') : RS K F Av ρ o' σ H' :=
  rs.heap (Cv.kw k rs) (fun a vs av nw e => k a _ (fun z => nw z) e) (fun _ h => h) oc (rs.keep.trans k) fun a h => by
    by_cases e : F.wa = some a
    · exact orc_there oc e
    · cases q : H a with
      | none => exact absurd q (rs.there a h)
      | some u => rw [k a u e q]; exact fun z => nomatch z
/-- one more address that is not to be touched: a new one -/
def Av1 (Av : Addr → Prop) (D : Addr) : Addr → Prop := fun a => Av a ∨ a = D
theorem cv_av1 {D : Addr} {u : HO} (hD : H D = none) : Cv Av (Av1 Av D) H (upd H D u) := fun a x e n => by
  have ne : a ≠ D := ne_of_none e hD
  exact ⟨by rw [upd_ne ne]; exact e, fun z => z.elim n ne⟩
theorem RS.fresh (rs : RS K F Av ρ o σ H) {D : Addr} {u : HO} (hD : H D = none) : RS K F (Av1 Av D) ρ o σ (upd H D u) :=
  rs.heap (cv_av1 hD) (fun a vs av _ e => by rw [upd_ne (ne_of_none e hD)]; exact e) (fun _ h => .inl h)
    (rs.orc.cv (cv_av1 hD) fun a _ x e => by rw [upd_ne (ne_of_none e hD)]; exact e)
    (rs.keep.trans (kw_alloc hD)) fun a h => by
      rcases h with h | rfl
      · cases q : H a with
        | none => exact absurd q (rs.there a h)
        | some x => rw [upd_ne (ne_of_none q hD), q]; exact fun z => nomatch z
      · rw [upd_same]; exact fun z => nomatch z
/-- an object of ours is written -/
theorem cv_upd {D : Addr} {u : HO} (hD : Av D) : Cv Av Av H (upd H D u) := fun a x e n => ⟨by rw [upd_ne (fun z => n (by rw [z]; exact hD))]; exact e, n⟩
end

/-! ### targets -/
mutual
def gI (K : PySem.W.Frag) : IP → TG
  | .slot i => gName i
  | .tup ps => gTup K (lenP ps) (gIs K ps)
def gIs (K : PySem.W.Frag) : List IP → TGs
  | [] => gNil
  | p :: ps => gCons (gI K p) (gIs K ps)
def lenP : List IP → Nat
  | [] => 0
  | _ :: ps => lenP ps + 1
end
section
variable {K : PySem.W.Frag} {F : Fr} {Av : Addr → Prop} {o : Or} {H : Hp}
theorem wipe_set {σ : L2.St} {i : Nat} {x : Option V} : ∀ {vs : List Nat}, i ∈ vs → wipe (σ.set i x) vs = wipe σ vs
  | v :: vs, h => by
    unfold wipe
    by_cases e : i ∈ vs
    · rw [wipe_set e]
    · have : i = v := by
        rcases List.mem_cons.mp h with h | h
        · exact h
        · exact absurd h e
      subst this
      have : ∀ (ws : List Nat), i ∉ ws → wipe (σ.set i x) ws = (wipe σ ws).set i x := by
        intro ws
        induction ws with
        | nil => intro _; rfl
        | cons w ws ih =>
          intro hn
          unfold wipe
          rw [ih (fun z => hn (List.mem_cons_of_mem _ z)), List.set_comm _ _ (fun z => hn (by rw [z]; exact List.mem_cons_self))]
      rw [this vs e, List.set_set]
theorem bindPs_len : ∀ {ps : List IP} {ds : List D} {ρ ρ' : Env}, bindPs ps ds ρ = some ρ' → ds.length = lenP ps
  | [], [], _, _, _ => rfl
  | [], _ :: _, _, _, h => by simp [bindPs] at h
  | _ :: _, [], _, _, h => by simp [bindPs] at h
  | p :: ps, d :: ds, ρ, ρ', h => by
    rw [bindPs] at h
    cases q : bindP p d ρ with
    | none => rw [q] at h; cases h
    | some ρ1 =>
      rw [q] at h
      show ds.length + 1 = lenP ps + 1
      rw [bindPs_len h]
mutual
theorem gI_ok : ∀ (p : IP) {ρ ρ' : Env} {σ : L2.St} {v : V} {d : D} {Q : L2.St → Hp → Prop}, RS K F Av ρ o σ H → Rep K F.wa Av H v d → bindP p d ρ = some ρ' →
    (∀ σ', RS K F Av ρ' o σ' H → (∀ vs, (∀ i ∈ slotsP p, i ∈ vs) → wipe σ' vs = wipe σ vs) → Q σ' H) → gI K p v σ H Q
  | .slot i, ρ, ρ', σ, v, d, Q, rs, r, h, q => by
    rw [bindP] at h
    cases h
    exact q _ (rs.set r) fun vs hv => wipe_set (hv i (by simp [slotsP]))
  | .tup ps, ρ, ρ', σ, v, d, Q, rs, r, h, q => by
    cases d <;> simp only [bindP, reduceCtorEq] at h
    cases r with
    | tup h1 r1 =>
      rw [gI]
      refine ⟨_, _, rfl, h1.sq, ?_, ?_⟩
      · rw [r1.length]; exact bindPs_len h
      · exact gIs_ok ps rs r1 h fun σ' rs' w => q σ' rs' fun vs hv => w vs (by simpa [slotsP] using hv)
theorem gIs_ok : ∀ (ps : List IP) {ρ ρ' : Env} {σ : L2.St} {vs : List V} {ds : List D} {Q : L2.St → Hp → Prop}, RS K F Av ρ o σ H → Reps K F.wa Av H vs ds → bindPs ps ds ρ = some ρ' →
    (∀ σ', RS K F Av ρ' o σ' H → (∀ ws, (∀ i ∈ slotsPs ps, i ∈ ws) → wipe σ' ws = wipe σ ws) → Q σ' H) → gIs K ps vs σ H Q
  | [], ρ, ρ', σ, vs, ds, Q, rs, r, h, q => by
    cases ds with
    | nil =>
      cases r
      rw [bindPs] at h
      cases h
      exact ⟨rfl, q σ rs fun _ _ => rfl⟩
    | cons d ds => simp [bindPs] at h
  | p :: ps, ρ, ρ', σ, vs, ds, Q, rs, r, h, q => by
    cases ds with
    | nil => simp [bindPs] at h
    | cons d ds =>
      cases r with
      | cons r1 r2 =>
        rw [bindPs] at h
        cases e : bindP p d ρ with
        | none => rw [e] at h; cases h
        | some ρ1 =>
          rw [e] at h
          rw [gIs]
          refine ⟨_, _, rfl, gI_ok p rs r1 e fun σ1 rs1 w1 => gIs_ok ps rs1 r2 h fun σ2 rs2 w2 => q σ2 rs2 fun ws hw => ?_⟩
          rw [w2 ws fun i hi => hw i (by simp [slotsPs, hi]), w1 ws fun i hi => hw i (by simp [slotsPs, hi])]
end
end
section
variable {X : Cx} {pos : Pos}
abbrev BG (X : Cx) (tg : Expr) (p : IP) : Prop := PG X tg (gI X.K p)
theorem bg_slot (i : Nat) {x : Str} (hN : X.N.Nodup) (hi : X.N[i]? = some x := by rfl) (hx : Loc X.env.scope x := by first | exact Or.inl rfl | exact Or.inr rfl) (hf : X.fn x = true ∨ X.env.scope.names.lookup x = some .local := by first | exact .inl rfl | exact .inr rfl | assumption) : BG X (.Name x pos) (.slot i) :=
  pg_name hN hi hx hf
theorem bgs_nil : PGs X [] (gIs X.K []) := pgs_nil
theorem bgs_cons {e : Expr} {es : List Expr} {p : IP} {ps : List IP} (h1 : BG X e p) (h2 : PGs X es (gIs X.K ps))
    (hs : (assignEach (e :: es) X.env).map (·.2) = assign e X.env :: (assignEach es X.env).map (·.2) := by rfl) : PGs X (e :: es) (gIs X.K (p :: ps)) := pgs_cons h1 h2 hs
theorem bg_tup {es : List Expr} {k : Nat} {ps : List IP} (hc : X.calm = true) (h : PGs X es (gIs X.K ps))
    (hn : (assignEach es X.env).length = lenP ps := by rfl) (hst : (assignEach es X.env).findIdx? (·.1) = none := by rfl) : BG X (.Tuple es k pos) (.tup ps) := pg_tup hc h hn hst
end

/-! ### what is walked -/
/-- J yields what xs stands for, whatever changes but what must not -/
def ItOk (K : PySem.W.Frag) (b : Bool) (wa : Option Addr) (Av : Addr → Prop) (J : It) (xs : List D) (H : Hp) : Prop :=
  xs.length ≤ sizeLine ∧ ∀ (Av' : Addr → Prop) (H' : Hp), Cv Av Av' H H' → (b = true → Kw wa H H') → (∀ a, Av' a → H' a ≠ none) →
    J.stop xs.length H' ∧ ∀ i, i < xs.length → J.go i H' ∧ ∀ x H'', J.yld i H' x H'' → (H'' = H' ∨ ∃ p u, H' p = none ∧ H'' = upd H' p u) ∧ ∃ d, xs[i]? = some d ∧ Rep K wa Av' H'' x d
def tII (K : PySem.W.Frag) (g : Pg) (W : WX) (b : Bool) (e : IE) : TI := fun σ H R => ∃ F Av ρ o, RS K F Av ρ o σ H ∧ goR K g W F Av ρ σ (fun (J : It) xs H1 => ItOk K b F.wa Av J xs H1) H (evE g.C e ρ o).seq R
abbrev BI (X : Cx) (g : Pg) (W : WX) (b : Bool) (tg e : Expr) (ie : IE) : Prop := PI X tg e (tII X.K g W b ie)
theorem ItOk.list {K : PySem.W.Frag} {b : Bool} {wa : Option Addr} {Av : Addr → Prop} {H : Hp} {a : Addr} {vs : List V} {ds : List D} (r : Reps K wa Av H vs ds)
    (h : ∀ (Av' : Addr → Prop) (H' : Hp), Cv Av Av' H H' → (b = true → Kw wa H H') → SqL K H' a vs) (hz : vs.length ≤ sizeLine) : ItOk K b wa Av (Itl K a) ds H := ⟨by rw [← r.length]; exact hz, fun Av' H' c k th => by
  have hq := h Av' H' c k
  have hl := r.length
  refine ⟨⟨vs, hq, by omega⟩, fun i hi => ?_⟩
  obtain ⟨d, hd⟩ : ∃ d, ds[i]? = some d := ⟨_, List.getElem?_eq_getElem hi⟩
  obtain ⟨v, hv, rv⟩ := r.get hd
  refine ⟨⟨vs, v, hq, hv⟩, fun x H'' hy => ⟨.inl hy.1, d, hd, ?_⟩⟩
  have e := hy.2 vs hq
  rw [hv] at e
  cases e
  rw [hy.1]
  exact rv.cv c⟩
theorem ItOk.tup {K : PySem.W.Frag} {b : Bool} {wa : Option Addr} {Av : Addr → Prop} {H : Hp} {a : Addr} {vs : List V} {ds : List D} (r : Reps K wa Av H vs ds)
    (h : TpA K Av H a vs) (hz : vs.length ≤ sizeLine) : ItOk K b wa Av (Itt K a) ds H := ⟨by rw [← r.length]; exact hz, fun Av' H' c k th => by
  have hq := (h.cv c).sq
  have hl := r.length
  refine ⟨⟨vs, hq, by omega⟩, fun i hi => ?_⟩
  obtain ⟨d, hd⟩ : ∃ d, ds[i]? = some d := ⟨_, List.getElem?_eq_getElem hi⟩
  obtain ⟨v, hv, rv⟩ := r.get hd
  refine ⟨⟨vs, v, hq, hv⟩, fun x H'' hy => ⟨.inl hy.1, d, hd, ?_⟩⟩
  have e := hy.2 vs hq
  rw [hv] at e
  cases e
  rw [hy.1]
  exact rv.cv c⟩
theorem upto_len : ∀ (n : Nat) (lo : Int), (upto lo n).length = n
  | 0, _ => rfl
  | n + 1, lo => by simp [upto, upto_len n]
theorem upto_get : ∀ (n : Nat) (lo : Int) (i : Nat), i < n → (upto lo n)[i]? = some (.int (lo + i))
  | n + 1, lo, 0, _ => by simp [upto]
  | n + 1, lo, i + 1, h => by
    simp only [upto, List.getElem?_cons_succ]
    rw [upto_get n (lo + 1) i (by omega)]
    congr 2
    omega
theorem ItOk.range {K : PySem.W.Frag} {b : Bool} {wa : Option Addr} {Av : Addr → Prop} {H : Hp} (lo : Int) (n : Nat) (hn : n ≤ cap) : ItOk K b wa Av (Itr lo n) (upto lo n) H := ⟨by rw [upto_len, ← cap_eq]; exact hn, fun Av' H' c k th => by
  refine ⟨by show n ≤ (upto lo n).length; rw [upto_len]; exact Nat.le_refl _, fun i hi => ⟨by rw [upto_len] at hi; exact hi, fun x H'' hy => ?_⟩⟩
  rw [upto_len] at hi
  exact ⟨.inl hy.1, _, upto_get n lo i hi, by rw [hy.2]; exact .int _⟩⟩
theorem ItOk.str {K : PySem.W.Frag} {b : Bool} {wa : Option Addr} {Av : Addr → Prop} {H : Hp} (s : List Nat) (hn : s.length ≤ cap) : ItOk K b wa Av (Its (cps s)) (s.map fun c => .str [c]) H := ⟨by rw [List.length_map, ← cap_eq]; exact hn, fun Av' H' c k th => by
  refine ⟨by show (cps s).cps.size ≤ _; simp [cps], fun i hi => ?_⟩
  rw [List.length_map] at hi
  refine ⟨by show i < (cps s).cps.size; simpa [cps] using hi, fun x H'' hy => ⟨.inl hy.1, .str [s[i]], by simp [hi], ?_⟩⟩
  obtain ⟨c, e1, e2⟩ := hy.2
  have : s[i] = c := by
    simp [cps, hi] at e1
    exact e1
  rw [e2, this]
  exact .str [c]⟩
section
variable {X : Cx} {g : Pg} {W : WX} {tg l a b : Expr} {ie ia ib : IE} {pos p : Pos}
/-- as pi_list, pi_tup: with the bound of the length -/
def iListB (K : PySem.W.Frag) (tl : TE) : TI := fun σ H R => tl σ H fun x H1 => ∃ a, x = .ref a ∧ (∃ xs, SqL K H1 a xs) ∧ ((∀ xs, SqL K H1 a xs → xs.length ≤ sizeLine) → R (Itl K a) H1)
def iTupB (K : PySem.W.Frag) (tl : TE) : TI := fun σ H R => tl σ H fun x H1 => ∃ a, x = .ref a ∧ (∃ xs, SqT K H1 a xs) ∧ ((∀ xs, SqT K H1 a xs → xs.length ≤ sizeLine) → R (Itt K a) H1)
theorem pi_listB {tl : TE} (hl : PE X l tl) : PI X tg l (iListB X.K tl) := by
  refine ⟨fun pins s σ H R I h => ?_⟩
  refine thn (hl.run pins s σ H _ I h) fun v s1 ⟨x, H1, I1, r1, q1⟩ => ?_
  obtain ⟨a, e, ⟨xs, hq⟩, q⟩ := q1
  subst e
  cases r1
  obtain ⟨its, rv, p, hz⟩ := I1.list hq
  refine wpAny_pyIter_list p.isList ?_
  refine ⟨s1.heap.objs.size, [s1.heap.objs.size], _, _, H1, rfl, I1.kept (t' := s1.toks) fun b o e => Heap.get?_push_of_some _ e, turn_list a _, ⟨_, Heap.get?_push_size _ rfl, rfl, rfl⟩, fun b hb => ?_, q fun ys hy => by rw [I1.list_inj hy hq]; exact hz⟩
  have e : b = s1.heap.objs.size := by simpa using hb
  subst e
  exact I1.fpOk (Nat.le_refl _) (I1.hok.fresh (Nat.le_refl _))
theorem pi_tupB {tl : TE} (hl : PE X l tl) : PI X tg l (iTupB X.K tl) := by
  refine ⟨fun pins s σ H R I h => ?_⟩
  refine thn (hl.run pins s σ H _ I h) fun v s1 ⟨x, H1, I1, r1, q1⟩ => ?_
  obtain ⟨a, e, ⟨xs, hq⟩, q⟩ := q1
  subst e
  cases r1
  obtain ⟨its, rv, p, hz⟩ := I1.tuple hq
  refine wpAny_pyIter_tuple (show s1.heap.IsTuple a its.toArray from p) ?_
  refine ⟨s1.heap.objs.size, [s1.heap.objs.size], _, _, H1, rfl, I1.kept (t' := s1.toks) fun b o e => Heap.get?_push_of_some _ e, turn_tuple a _, ⟨_, Heap.get?_push_size _ rfl, rfl, rfl⟩, fun b hb => ?_, q fun ys hy => by rw [I1.tuple_inj hy hq]; exact hz⟩
  have e : b = s1.heap.objs.size := by simpa using hb
  subst e
  exact I1.fpOk (Nat.le_refl _) (I1.hok.fresh (Nat.le_refl _))
/-- a list, a tuple, a text -/
theorem bi_seq (hl : BE X g W l ie) : BI X g W false tg l ie := by
  refine ⟨fun pins s σ H R I ⟨F, Av, ρ, o, rs, q⟩ => ?_⟩
  cases e : evE g.C ie ρ o with
  | no => rw [e] at q; exact q.elim
  | exc c d o' =>
    refine (pi_listB hl).run pins s σ H R I ⟨F, Av, ρ, o, rs, ?_⟩
    rw [e] at q ⊢
    exact q
  | ok d o' =>
    cases d with
    | lst xs =>
      refine (pi_listB hl).run pins s σ H R I ⟨F, Av, ρ, o, rs, ?_⟩
      rw [e] at q ⊢
      intro v H' rs' k' r
      cases r with
      | lst h1 r1 => exact ⟨_, rfl, ⟨_, h1.sq⟩, fun hz => q _ H' rs' k' (ItOk.list r1 (fun _ _ c _ => (h1.cv c).sq) (hz _ h1.sq))⟩
    | tup xs =>
      refine (pi_tupB hl).run pins s σ H R I ⟨F, Av, ρ, o, rs, ?_⟩
      rw [e] at q ⊢
      intro v H' rs' k' r
      cases r with
      | tup h1 r1 => exact ⟨_, rfl, ⟨_, h1.sq⟩, fun hz => q _ H' rs' k' (ItOk.tup r1 h1 (hz _ h1.sq))⟩
    | str st =>
      refine (pi_str hl).run pins s σ H R I ⟨F, Av, ρ, o, rs, ?_⟩
      rw [e] at q ⊢
      intro v H' rs' k' r
      have hs : st.length ≤ cap := by
        by_cases h : st.length ≤ cap
        · exact h
        · simp [BV.R.seq, items, h] at q
          exact q.elim
      simp only [BV.R.seq, items, if_pos hs, BV.R.bind_ok, BV.R.of_some] at q
      cases r
      exact ⟨_, rfl, q _ H' rs' k' (ItOk.str st hs)⟩
    | _ => rw [e] at q; exact q.elim
/-- .. in a comprehension: a slot's own list too -/
theorem bi_seqB (hl : BB X g W l ie) : BI X g W true tg l ie := by
  refine ⟨fun pins s σ H R I ⟨F, Av, ρ, o, rs, q⟩ => ?_⟩
  cases e : evE g.C ie ρ o with
  | no => rw [e] at q; exact q.elim
  | exc c d o' =>
    refine (pi_listB hl).run pins s σ H R I ⟨F, Av, ρ, o, rs, ?_⟩
    rw [e] at q ⊢
    exact q
  | ok d o' =>
    cases d with
    | lst xs =>
      refine (pi_listB hl).run pins s σ H R I ⟨F, Av, ρ, o, rs, ?_⟩
      rw [e] at q ⊢
      rintro v H' rs' k' (r | ⟨a, vs, ds, rfl, hd, ha, r1, av, nw⟩)
      · cases r with
        | lst h1 r1 => exact ⟨_, rfl, ⟨_, h1.sq⟩, fun hz => q _ H' rs' k' (ItOk.list r1 (fun _ _ c _ => (h1.cv c).sq) (hz _ h1.sq))⟩
      · cases hd
        exact ⟨a, rfl, ⟨_, SqL.of ha⟩, fun hz => q _ H' rs' k' (ItOk.list r1 (fun _ _ _ k => SqL.of (k rfl a _ (fun z => nw z) ha)) (hz _ (SqL.of ha)))⟩
    | tup xs =>
      refine (pi_tupB hl).run pins s σ H R I ⟨F, Av, ρ, o, rs, ?_⟩
      rw [e] at q ⊢
      rintro v H' rs' k' (r | ⟨a, vs, ds, rfl, hd, ha, r1, av, nw⟩)
      · cases r with
        | tup h1 r1 => exact ⟨_, rfl, ⟨_, h1.sq⟩, fun hz => q _ H' rs' k' (ItOk.tup r1 h1 (hz _ h1.sq))⟩
      · cases hd
    | str st =>
      refine (pi_str hl).run pins s σ H R I ⟨F, Av, ρ, o, rs, ?_⟩
      rw [e] at q ⊢
      intro v H' rs' k' r
      have hs : st.length ≤ cap := by
        by_cases h : st.length ≤ cap
        · exact h
        · simp [BV.R.seq, items, h] at q
          exact q.elim
      simp only [BV.R.seq, items, if_pos hs, BV.R.bind_ok, BV.R.of_some] at q
      rw [r.str]
      exact ⟨_, rfl, q _ H' rs' k' (ItOk.str st hs)⟩
    | _ => rw [e] at q; exact q.elim
theorem piW {tg e : Expr} {t t' : TI} (h : PI X tg e t) (w : ∀ σ H R, t' σ H R → t σ H R) : PI X tg e t' := ⟨fun pins s σ H R I q => h.run pins s σ H R I (w σ H R q)⟩
end
end BV

end
/-! text: BV8.lean -/
section
set_option maxRecDepth 100000
set_option autoImplicit false
set_option maxHeartbeats 4000000
namespace BV
open PySem PySem.Spec PyProof.Rows L2
section
variable {X : Cx} {g : Pg} {W : WX} {tg l a b elt iter : Expr} {ie ia ib ic il : IE} {pos p : Pos} {es : List Expr} {is : List IE} {kb : Bool}
theorem rangeO_some {lo hi : Int} {z : D} (h : rangeO lo hi = some z) : (-(2 ^ 62) ≤ lo ∧ lo < 2 ^ 62 ∧ -(2 ^ 62) ≤ hi ∧ hi < 2 ^ 62 ∧ (hi - lo).toNat ≤ cap) ∧ z = .lst (upto lo (hi - lo).toNat) := by
  unfold rangeO at h
  split at h
  · cases h; exact ⟨by assumption, rfl⟩
  · cases h
/-- the reading of a walk over what a built-in makes of arguments -/
theorem seq_bi {F : Fr} {Av : Addr → Prop} {ρ : Env} {o : Or} {σ : L2.St} {H : Hp} {b : Bi} {R : It → Hp → Prop}
    (q : goR X.K g W F Av ρ σ (fun (J : It) xs H1 => ItOk X.K kb F.wa Av J xs H1) H (evE g.C (.bi b is) ρ o).seq R) :
    goR X.K g W F Av ρ σ (fun v d H' => Paired (RepB X.K F.wa Av H') v d) H (evEs g.C is ρ o) (fun vs H1 => ∃ ds o1, ds.length = is.length ∧ RS X.K F Av ρ o1 σ H1 ∧ Kw F.wa H H1 ∧ Paired (RepB X.K F.wa Av H1) vs ds ∧
      ∃ z xs, biF b ds = some z ∧ items z = some xs ∧ ∀ J H', RS X.K F Av ρ o1 σ H' → Kw F.wa H1 H' → ItOk X.K kb F.wa Av J xs H' → R J H') := by
  rw [evE] at q
  unfold BV.R.seq at q
  cases e : evEs g.C is ρ o with
  | no => rw [e] at q; exact q.elim
  | exc c d o' => rw [e] at q; exact q
  | ok ds o1 =>
    rw [e] at q
    simp only [BV.R.bind_ok] at q
    intro vs H1 rs1 k1 rp
    cases hz : biF b ds with
    | none => rw [hz] at q; exact q.elim
    | some z =>
      rw [hz] at q
      simp only [BV.R.of_some, BV.R.bind_ok] at q
      cases hx : items z with
      | none => rw [hx] at q; exact q.elim
      | some xs =>
        rw [hx] at q
        exact ⟨ds, o1, evEs_length e, rs1, k1, rp, z, xs, hz, hx, fun J H' rs' k' i => q J H' rs' (k1.trans k') i⟩
theorem pair1 {α β : Type} {P : α → β → Prop} {vs : List α} {ds : List β} (h : Paired P vs ds) (hl : ds.length = 1) : ∃ v d, vs = [v] ∧ ds = [d] ∧ P v d := by
  cases h with
  | nil => simp at hl
  | cons r1 r2 =>
    cases r2 with
    | nil => exact ⟨_, _, rfl, rfl, r1⟩
    | cons _ _ => simp at hl
theorem pair2 {α β : Type} {P : α → β → Prop} {vs : List α} {ds : List β} (h : Paired P vs ds) (hl : ds.length = 2) : ∃ v d w e, vs = [v, w] ∧ ds = [d, e] ∧ P v d ∧ P w e := by
  cases h with
  | nil => simp at hl
  | cons r1 r2 =>
    obtain ⟨w, e, rfl, rfl, r3⟩ := pair1 r2 (by simpa using hl)
    exact ⟨_, _, _, _, rfl, rfl, r1, r3⟩
theorem bi_range1 (hg : Gl X "range") (hm : X.mg "range" = none) (ha : BAB X g W [a] [ia]) (hs : starEach [a] X.env = [(false, eval a X.env)] := by rfl) : BI X g W kb tg (.Call (.Name "range" p) [a] [] pos) (.bi .range [ia]) := by
  refine piW (pi_range1 hg hm ha hs) fun σ H R ⟨F, Av, ρ, o, rs, q⟩ => ⟨F, Av, ρ, o, rs, (seq_bi q).mono fun vs H1 ⟨ds, o1, hl, rs1, k1, rp, z, xs, hz, hx, q1⟩ => ?_⟩
  obtain ⟨v, d, rfl, rfl, r1⟩ := pair1 rp hl
  cases d <;> simp only [biF, range1O, reduceCtorEq] at hz
  rename_i j
  obtain ⟨⟨h1, h2, h3, h4, h5⟩, rfl⟩ := rangeO_some hz
  refine ⟨j, by rw [r1.int], h3, h4, ?_⟩
  cases hx
  have := q1 (Itr 0 (j - 0).toNat) H1 rs1 (Kw.refl _ _) (ItOk.range 0 _ h5)
  simpa using this
theorem bi_range2 (hg : Gl X "range") (hm : X.mg "range" = none) (ha : BAB X g W [a, b] [ia, ib]) (hs : starEach [a, b] X.env = [(false, eval a X.env), (false, eval b X.env)] := by rfl) (hs2 : starEach [b] X.env = [(false, eval b X.env)] := by rfl) :
    BI X g W kb tg (.Call (.Name "range" p) [a, b] [] pos) (.bi .range [ia, ib]) := by
  refine piW (pi_range2 hg hm ha hs hs2) fun σ H R ⟨F, Av, ρ, o, rs, q⟩ => ⟨F, Av, ρ, o, rs, (seq_bi q).mono fun vs H1 ⟨ds, o1, hl, rs1, k1, rp, z, xs, hz, hx, q1⟩ => ?_⟩
  obtain ⟨v, d, v2, d2, rfl, rfl, r1, r2⟩ := pair2 rp hl
  cases d <;> cases d2 <;> simp only [biF, range2O, reduceCtorEq] at hz
  rename_i i j
  obtain ⟨⟨h1, h2, h3, h4, h5⟩, rfl⟩ := rangeO_some hz
  refine ⟨i, j, by rw [r1.int, r2.int], ⟨h1, h2, h3, h4⟩, ?_⟩
  cases hx
  exact q1 (Itr i (j - i).toNat) H1 rs1 (Kw.refl _ _) (ItOk.range i _ h5)

/-! ### comprehensions -/
/-- what a turn of a comprehension does -/
def turnC (C : Nat → List D → Or → R D) (p : IP) (c e : IE) (ρ : Env) : D → Or → R (Option D) := fun x o => match bindP p x (wipeS ρ (slotsP p)) with
  | none => .no
  | some ρ => (evE C c ρ o).test fun t _ o => if t then (evE C e ρ o).bind fun y o => .ok (some y) o else .ok none o
theorem evE_comp {C : Nat → List D → Or → R D} {p : IP} {s c e : IE} {ρ : Env} {o : Or} : evE C (.comp p s c e) ρ o = (evE C s ρ o).seq.bind fun xs o => (compM (turnC C p c e ρ) xs o).pure.bind fun ys o => .ok (.lst ys) o := by
  rw [evE]; rfl
/-- a test that holds always -/
def tYesI (K : PySem.W.Frag) (g : Pg) (W : WX) : TT := fun σ H Q => ∃ F Av ρ o, RS K F Av ρ o σ H ∧ (∀ H', RS K F Av ρ o σ H' → Kw F.wa H H' → Q true H')
abbrev W0 : WX := fun _ _ _ _ => False
abbrev BTs (X : Cx) (g : Pg) (ifs : List Expr) (ic : IE) : Prop := PTs X ifs (tIT X.K g W0 ic)
theorem bts_nil : BTs X g [] (.cst (.bool true)) := ⟨fun pins s σ H Q I ⟨F, Av, ρ, o, rs, q⟩ => pts_nil.run pins s σ H Q I (q true H rs (Kw.refl _ _) rfl)⟩
theorem bts_one {c : Expr} (h : BT X g W0 c ic) : BTs X g [c] ic := pts_one h
theorem wipe_wipe (σ : L2.St) : ∀ vs : List Nat, wipe (wipe σ vs) vs = wipe σ vs := by
  have h : ∀ (vs ws : List Nat), (∀ v ∈ ws, v ∈ vs) → wipe (wipe σ ws) vs = wipe σ vs := by
    intro vs ws
    induction ws with
    | nil => intro _; rfl
    | cons w ws ih =>
      intro hw
      show wipe ((wipe σ ws).set w none) vs = _
      rw [wipe_set (hw w List.mem_cons_self), ih fun v hv => hw v (List.mem_cons_of_mem _ hv)]
  exact fun vs => h vs vs fun _ h => h
/-- a turn yields RS for the element's frame -/
theorem RS.upd_own {K : PySem.W.Frag} {F : Fr} {Av : Addr → Prop} {ρ : Env} {o : Or} {σ : L2.St} {H : Hp} {D : Addr} {u : HO} (rs : RS K F Av ρ o σ H) (hD : Av D) (nw : F.wa ≠ some D) (h0 : F.H0 D = none)
    (ho : ∀ i d, getS ρ i = .own d → σ[i]? ≠ some (some (.ref D))) : RS K F Av ρ o σ (upd H D u) where
  len := rs.len
  slot := fun i => by
    have h := rs.slot i
    cases q : getS ρ i with
    | un => trivial
    | val d =>
      obtain ⟨v, e, r⟩ := rs.val q
      rw [e]; exact r.cv (cv_upd hD)
    | own d =>
      obtain ⟨a, vs, ds, e, rfl, ha, r, av, nw⟩ := rs.own q
      rw [e]
      exact ⟨a, vs, ds, rfl, rfl, by rw [upd_ne (fun z => ho i _ q (by rw [e, z]))]; exact ha, r.cv (cv_upd hD), av, nw⟩
  inj := rs.inj
  orc := rs.orc.cv (cv_upd hD) fun a ha x e => by rw [upd_ne (fun z => nw (by rw [ha, z]))]; exact e
  keep := fun b x n e => by rw [upd_ne (fun z => by rw [z, h0] at e; cases e)]; exact rs.keep b x n e
  new := rs.new
  av0 := rs.av0
  th0 := rs.th0
  there := fun a h => by
    by_cases e : a = D
    · rw [e, upd_same]; exact fun z => nomatch z
    · rw [upd_ne e]; exact rs.there a h
  waav := rs.waav
theorem compM_cons {f : D → Or → R (Option D)} {x : D} {xs ys : List D} {o oN : Or} (h : compM f (x :: xs) o = .ok ys oN) :
    ∃ y o1 zs, f x o = .ok y o1 ∧ compM f xs o1 = .ok zs oN ∧ ys = (match y with | some y => y :: zs | none => zs) := by
  rw [compM] at h
  cases e : f x o with
  | no => rw [e] at h; cases h
  | exc _ _ _ => rw [e] at h; cases h
  | ok y o1 =>
    rw [e, BV.R.bind_ok] at h
    cases e2 : compM f xs o1 with
    | no => rw [e2] at h; cases h
    | exc _ _ _ => rw [e2] at h; cases h
    | ok zs o2 =>
      rw [e2, BV.R.bind_ok] at h
      cases y with
      | none => cases h; exact ⟨none, o1, _, rfl, e2, rfl⟩
      | some y => cases h; exact ⟨some y, o1, _, rfl, e2, rfl⟩
/-- the reading of a comprehension -/
theorem lc_read {K : PySem.W.Frag} {p : IP} {F : Fr} {Av : Addr → Prop} {ρ : Env} {σ : L2.St} {vs : List Nat} (hv : vs = slotsP p) {J : It} {H1 : Hp} {xs ys : List D} {o1 oN : Or} {Q : VK}
    (rs1 : RS K F Av ρ o1 σ H1) (it : ItOk K true F.wa Av J xs H1) (hc : compM (turnC g.C p ic ie ρ) xs o1 = .ok ys oN)
    (q : ∀ v H', RS K F Av ρ oN σ H' → Kw F.wa H1 H' → Rep K F.wa Av H' v (.lst ys) → (∃ a, v = .ref a ∧ H1 a = none ∧ ∃ vs, H' a = some (.lst vs) ∧ Reps K F.wa (Av1 Av a) H' vs ys ∧ RS K F (Av1 Av a) ρ oN σ H') → Q v H') :
    ∀ D, H1 D = none → ∃ W : Nat → Nat → Hp → Prop, (∃ m, W 0 m (upd H1 D (.lst []))) ∧ ∀ i m H, W i m H →
      (J.stop i H ∧ Q (.ref D) H) ∨ (J.go i H ∧ ∃ Nx : Hp → Prop, (∀ H', Nx H' → ∃ m', m' < m ∧ W (i + 1) m' H') ∧ ∀ x H', J.yld i H x H' → gI K p x (wipe σ vs) H' fun σ2 H2 => wipe σ2 vs = wipe σ vs ∧ tIT K g W0 ic σ2 H2 fun b H3 =>
        if b = true then tI K g W0 ie σ2 H3 fun y H4 => ∃ acc, H4 D = some (.lst acc) ∧ acc.length < sizeLine ∧ Nx (upd H4 D (.lst (acc ++ [y]))) else Nx H3) := by
  intro D hD
  have fr := rs1.fresh (u := .lst []) hD
  have h0D : F.H0 D = none := by
    cases e : F.H0 D with
    | none => rfl
    | some u =>
      by_cases w : F.wa = some D
      · exact absurd hD (rs1.there D (rs1.waav D w))
      · rw [rs1.keep D u w e] at hD; cases hD
  have nwD : F.wa ≠ some D := fun w => rs1.there D (rs1.waav D w) hD
  have avD : Av1 Av D D := .inr rfl
  -- the invariant
  refine ⟨fun i m H => m = xs.length - i ∧ i ≤ xs.length ∧ ∃ o' acc ds zs, RS K F (Av1 Av D) ρ o' σ H ∧ Kw F.wa H1 H ∧ H D = some (.lst acc) ∧ Reps K F.wa (Av1 Av D) H acc ds ∧ acc.length ≤ i ∧ compM (turnC g.C p ic ie ρ) (xs.drop i) o' = .ok zs oN ∧ ys = ds ++ zs,
    ⟨xs.length, rfl, Nat.zero_le _, o1, [], [], ys, fr, kw_alloc hD, upd_same, .nil, Nat.le_refl _, hc, rfl⟩, ?_⟩
  rintro i m H ⟨rfl, hi, o', acc, ds, zs, rs, k, hacc, rp, hal, hcm, rfl⟩
  have cvD : Cv Av (Av1 Av D) H1 H := fun a u e n => by
    have na : a ≠ D := ne_of_none e hD
    exact ⟨k a u (fun w => n (rs1.waav a w)) e, fun z => z.elim n na⟩
  have hx := it.1
  obtain ⟨hst, hgo⟩ := it.2 (Av1 Av D) H cvD (fun _ => k) rs.there
  by_cases hlt : i < xs.length
  · obtain ⟨hg1, hy1⟩ := hgo i hlt
    have hdrop : xs.drop i = xs[i] :: xs.drop (i + 1) := List.drop_eq_getElem_cons hlt
    rw [hdrop] at hcm
    obtain ⟨y, o2, zs', hf, hcm', hzs⟩ := compM_cons hcm
    refine .inr ⟨hg1, fun H' => ∃ o' acc ds zs, RS K F (Av1 Av D) ρ o' σ H' ∧ Kw F.wa H1 H' ∧ H' D = some (.lst acc) ∧ Reps K F.wa (Av1 Av D) H' acc ds ∧ acc.length ≤ i + 1 ∧ compM (turnC g.C p ic ie ρ) (xs.drop (i + 1)) o' = .ok zs oN ∧ (ds : List BV.D) ++ zs = _,
      fun H' ⟨o', acc, ds, zs, a1, a2, a3, a4, a5, a6, a7⟩ => ⟨xs.length - (i + 1), by omega, rfl, hlt, o', acc, ds, zs, a1, a2, a3, a4, a5, a6, a7.symm⟩, fun x H' hy => ?_⟩
    obtain ⟨hgrow, d, hd, rx⟩ := hy1 x H' hy
    have hxd : xs[i] = d := by
      rw [List.getElem?_eq_getElem hlt] at hd
      exact Option.some.inj hd
    have kH : Kw F.wa H H' := by
      rcases hgrow with rfl | ⟨p', u, hp, rfl⟩
      · exact Kw.refl _ _
      · exact kw_alloc hp
    have rs' : RS K F (Av1 Av D) ρ o' σ H' := by
      rcases hgrow with rfl | ⟨p', u, hp, rfl⟩
      · exact rs
      · exact rs.alloc hp
    have hD' : H' D = some (.lst acc) := kH D _ nwD hacc
    have rp' : Reps K F.wa (Av1 Av D) H' acc ds := rp.cv (Cv.kw kH rs)
    rw [hxd] at hf
    unfold turnC at hf
    cases hb : bindP p d (wipeS ρ (slotsP p)) with
    | none => rw [hb] at hf; cases hf
    | some ρ' =>
      rw [hb] at hf
      subst hv
      refine gI_ok p (rs'.wipe (slotsP p)) rx hb fun σ' rsb hw => ⟨?_, ?_⟩
      · rw [hw _ fun _ h => h, wipe_wipe]
      · simp only at hf
        cases e1 : evE g.C ic ρ' o' with
        | no => rw [e1] at hf; cases hf
        | exc _ _ _ => rw [e1] at hf; cases hf
        | ok t o3 =>
          rw [e1] at hf
          simp only [BV.R.test, BV.R.bind_ok] at hf
          cases e2 : truth t with
          | none => rw [e2] at hf; cases hf
          | some b =>
            rw [e2] at hf
            refine ⟨F, Av1 Av D, ρ', o', rsb, ?_⟩
            rw [e1]
            simp only [BV.R.tst, BV.R.test, BV.R.bind_ok, e2]
            rintro b' H3 rs3 k3 rfl
            have kk : Kw F.wa H H3 := kH.trans k3
            have rso : RS K F (Av1 Av D) ρ o3 σ H3 := rs.kw kk rs3.orc
            cases b' with
            | false =>
              simp only [Bool.false_eq_true, if_false] at hf ⊢
              cases hf
              exact ⟨o2, acc, ds, zs', rso, k.trans kk, kk D _ nwD hacc, rp.cv (Cv.kw kk rs), by omega, hcm', by rw [hzs]⟩
            | true =>
              simp only [if_true] at hf ⊢
              cases e3 : evE g.C ie ρ' o3 with
              | no => rw [e3] at hf; cases hf
              | exc _ _ _ => rw [e3] at hf; cases hf
              | ok y' o4 =>
                rw [e3] at hf
                cases hf
                refine ⟨F, Av1 Av D, ρ', o3, rs3, ?_⟩
                rw [e3]
                intro w H4 rs4 k4 r4
                have kk4 : Kw F.wa H H4 := kk.trans k4
                have hacc4 : H4 D = some (.lst acc) := kk4 D _ nwD hacc
                have rso4 : RS K F (Av1 Av D) ρ o2 σ H4 := rs.kw kk4 rs4.orc
                refine ⟨acc, hacc4, by omega, o2, acc ++ [w], ds ++ [y'], zs', ?_, ?_, upd_same, ?_, by simp; omega, hcm', by rw [hzs]; simp⟩
                · exact rso4.upd_own avD nwD h0D fun i' d' e e' => by
                    obtain ⟨a, vs', ds', e5, _, ha, _, av, _⟩ := rs1.own e
                    rw [e'] at e5
                    cases e5
                    rw [hD] at ha
                    cases ha
                · intro a u n e
                  rw [upd_ne (ne_of_none e hD)]
                  exact kk4 a u n (k a u n e)
                · exact (rp.cv (Cv.kw kk4 rs)).append (.cons r4 .nil) |>.cv (cv_upd avD)
  · have hie : i = xs.length := by omega
    subst hie
    rw [List.drop_length] at hcm
    simp only [compM] at hcm
    cases hcm
    refine .inl ⟨hst, ?_⟩
    rw [List.append_nil] at q
    have rsA : RS K F Av ρ oN σ H := rs1.kw k (by
      have := rs.orc
      exact this.cv (fun a u e n => ⟨e, fun z => n (.inl z)⟩) fun _ _ _ e => e)
    refine q _ _ rsA k ?_ ⟨D, rfl, hD, acc, hacc, rp, rs⟩
    exact .lst (.inl ⟨.inl hacc, rs1.notAv hD⟩) (rp.cv fun a u e n => ⟨e, fun z => n (.inl z)⟩)
end
end BV

end
/-! text: BV9.lean -/
section
set_option maxRecDepth 100000
set_option autoImplicit false
set_option maxHeartbeats 4000000
namespace BV
open PySem PySem.Spec PyProof.Rows L2

/-! ### comprehensions as values; new lists -/
/-- a reading whose outcome is a new list -/
def tIF (K : PySem.W.Frag) (g : Pg) (W : WX) (e : IE) : TE := fun σ H Q => ∃ F Av ρ o, RS K F Av ρ o σ H ∧ (match evE g.C e ρ o with
  | .ok d o' => ∀ v H' a vs ds, RS K F Av ρ o' σ H' → Kw F.wa H H' → v = .ref a → d = .lst ds → H a = none → H' a = some (.lst vs) → Reps K F.wa (Av1 Av a) H' vs ds → RS K F (Av1 Av a) ρ o' σ H' → Q v H'
  | .exc c d o' => ∀ cls dx H', RS K F Av ρ o' σ H' → Kw F.wa H H' → g.XP c d cls dx H' → W cls dx σ H'
  | .no => False)
abbrev BF (X : Cx) (g : Pg) (W : WX) (e : Expr) (ie : IE) : Prop := PE X e (tIF X.K g W ie)
section
variable {X : Cx} {g : Pg} {W : WX} {tg elt iter e : Expr} {ifs : List Expr} {ie ic il : IE} {p : IP} {pos : Pos} {es : List Expr} {is : List IE} {scope : Scope} {own : List (Str × Nat)}
/-- from a comprehension's reading to the rule's -/
theorem comp_read {σ : L2.St} {H : Hp} {Q : VK} {F : Fr} {Av : Addr → Prop} {ρ : Env} {o : Or} (rs : RS X.K F Av ρ o σ H)
    (q : match evE g.C (.comp p il ic ie) ρ o with
      | .ok d o' => ∀ v H' a vs ds, RS X.K F Av ρ o' σ H' → Kw F.wa H H' → v = .ref a → d = .lst ds → H a = none → H' a = some (.lst vs) → Reps X.K F.wa (Av1 Av a) H' vs ds → RS X.K F (Av1 Av a) ρ o' σ H' → Q v H'
      | .exc c d o' => ∀ cls dx H', RS X.K F Av ρ o' σ H' → Kw F.wa H H' → g.XP c d cls dx H' → W cls dx σ H'
      | .no => False) : tLc (tII X.K g W true il) (gI X.K p) (tIT X.K g W0 ic) (tI X.K g W0 ie) (slotsP p) σ H Q := by
  refine ⟨F, Av, ρ, o, rs, ?_⟩
  rw [evE_comp] at q
  cases e1 : (evE g.C il ρ o).seq with
  | no => rw [e1] at q; exact q.elim
  | exc c d o' => rw [e1] at q; exact q
  | ok xs o1 =>
    rw [e1] at q
    simp only [BV.R.bind_ok] at q
    intro J H1 rs1 k1 it
    cases e2 : compM (turnC g.C p ic ie ρ) xs o1 with
    | no => rw [e2] at q; exact q.elim
    | exc c d o' => rw [e2] at q; exact q.elim
    | ok ys oN =>
      rw [e2] at q
      simp only [BV.R.pure_ok, BV.R.bind_ok] at q
      refine lc_read (Av := Av) rfl rs1 it e2 fun v H' rs' k' r' ⟨a, ea, ha, vs, hv, rp, rsa⟩ => q v H' a vs ys rs' (k1.trans k') ea rfl ?_ hv rp rsa
      by_cases n : F.wa = some a
      · exact absurd ha (rs1.there a (rs1.waav a n))
      · cases z : H a with
        | none => rfl
        | some u => rw [k1 a u n z] at ha; cases ha
theorem BE.ofF (h : BF X g W e ie) (hq : ∀ σ H Q F Av ρ o, RS X.K F Av ρ o σ H → goR X.K g W F Av ρ σ (fun v d H' => Rep X.K F.wa Av H' v d) H (evE g.C ie ρ o) Q → goR X.K g W F Av ρ σ (fun v d H' => Rep X.K F.wa Av H' v d) H (evE g.C ie ρ o) Q := by intros; assumption) : BE X g W e ie := by
  refine peW h fun σ H Q ⟨F, Av, ρ, o, rs, q⟩ => ⟨F, Av, ρ, o, rs, ?_⟩
  cases e1 : evE g.C ie ρ o with
  | no => rw [e1] at q; exact q
  | exc c d o' => rw [e1] at q; exact q
  | ok d o' =>
    rw [e1] at q
    rintro v H' a vs ds rs' k' rfl rfl ha hv rp rsa
    refine q _ H' rs' k' (.lst (.inl ⟨.inl hv, fun av => rs.there a av ha⟩) (rp.cv fun b u e n => ⟨e, fun z => n (.inl z)⟩))
theorem bf_comp (hc : X.calm = true) (hN : X.N.Nodup) (hi : BI X g W true tg iter il) (ok : BlkOk X.N X.env.scope scope own) (hv : own.map (·.2) = slotsP p)
    (hg : ∀ (s : Shared) (H : Hp) (C : Addr) (cl : List (Str × Addr)) (fp : List Addr), BG (X.blk s H scope (compEnvC scope cl C X.env) fp) tg p) (ht : ∀ (s : Shared) (H : Hp) (C : Addr) (cl : List (Str × Addr)) (fp : List Addr), BTs (X.blk s H scope (compEnvC scope cl C X.env) fp) g ifs ic)
    (he : ∀ (s : Shared) (H : Hp) (C : Addr) (cl : List (Str × Addr)) (fp : List Addr), BE (X.blk s H scope (compEnvC scope cl C X.env) fp) g W0 elt ie) (hs : ∀ x, foldedSetIterable iter X.env x = pure x := by intro _; rfl) :
    BF X g W (.ListComp elt [⟨tg, iter, ifs, 0⟩] scope pos) (.comp p il ic ie) := by
  refine peW (pe_lc (g := gI X.K p) (tt := tIT X.K g W0 ic) (te := tI X.K g W0 ie) hc hN hi ok hg ht he hs) fun σ H Q ⟨F, Av, ρ, o, rs, q⟩ => ?_
  rw [hv]
  exact comp_read rs q
theorem be_comp (hc : X.calm = true) (hN : X.N.Nodup) (hi : BI X g W true tg iter il) (ok : BlkOk X.N X.env.scope scope own) (hv : own.map (·.2) = slotsP p)
    (hg : ∀ (s : Shared) (H : Hp) (C : Addr) (cl : List (Str × Addr)) (fp : List Addr), BG (X.blk s H scope (compEnvC scope cl C X.env) fp) tg p) (ht : ∀ (s : Shared) (H : Hp) (C : Addr) (cl : List (Str × Addr)) (fp : List Addr), BTs (X.blk s H scope (compEnvC scope cl C X.env) fp) g ifs ic)
    (he : ∀ (s : Shared) (H : Hp) (C : Addr) (cl : List (Str × Addr)) (fp : List Addr), BE (X.blk s H scope (compEnvC scope cl C X.env) fp) g W0 elt ie) (hs : ∀ x, foldedSetIterable iter X.env x = pure x := by intro _; rfl) :
    BE X g W (.ListComp elt [⟨tg, iter, ifs, 0⟩] scope pos) (.comp p il ic ie) := BE.ofF (bf_comp hc hN hi ok hv hg ht he hs)
theorem bf_lst (h : BA X g W es is) (hl : is.length ≤ 1000 := by decide) : BF X g W (.List es pos) (.lst is) := by
  refine peW (pe_lst h) fun σ H Q ⟨F, Av, ρ, o, rs, q⟩ => ⟨F, Av, ρ, o, rs, ?_⟩
  rw [evE] at q
  cases e1 : evEs g.C is ρ o with
  | no => rw [e1] at q; exact q
  | exc c d o' => rw [e1] at q; exact q
  | ok ds o' =>
    rw [e1] at q
    simp only [BV.R.bind_ok] at q
    intro vs H1 rs1 k1 r1
    refine ⟨by rw [r1.length, evEs_length e1]; exact le_line hl, fun p hp => ?_⟩
    refine q _ _ p vs ds (rs1.alloc hp) (k1.trans (kw_alloc hp)) rfl rfl ?_ upd_same (r1.cv (cv_av1 hp)) (rs1.fresh hp)
    by_cases n : F.wa = some p
    · exact absurd hp (rs1.there p (rs1.waav p n))
    · cases z : H p with
      | none => rfl
      | some u => rw [k1 p u n z] at hp; cases hp
end

/-! ### statements -/
section
variable (K : PySem.W.Frag) (g : Pg) (W : WX) (F : Fr) (Av : Addr → Prop) (H : Hp)
def goS (D : Ends) : Out → Prop
  | .nx ρ o => ∀ Av' σ' H', RS K F Av' ρ o σ' H' → Cv Av Av' H H' → D.nx σ' H'
  | .bk ρ o => ∀ Av' σ' H', RS K F Av' ρ o σ' H' → Cv Av Av' H H' → D.bk σ' H'
  | .ct ρ o => ∀ Av' σ' H', RS K F Av' ρ o σ' H' → Cv Av Av' H H' → D.ct σ' H'
  | .rt d o => ∀ v H', Kw F.wa F.H0 H' → Orc K F.Av0 F.wa F.da o H' → Rep K F.wa F.Av0 H' v d → D.rt v H'
  | .xc c d ρ o => ∀ Av' cls dx σ' H', RS K F Av' ρ o σ' H' → Cv Av Av' H H' → g.XP c d cls dx H' → W cls dx σ' H'
  | .no => False
end
def tS (K : PySem.W.Frag) (g : Pg) (W : WX) (is : List IS) : TS := fun D σ H => ∃ F Av ρ o, RS K F Av ρ o σ H ∧ goS K g W F Av H D (evSs g.C is ρ o)
abbrev BS (X : Cx) (g : Pg) (W : WX) (st : Stmt) (is : IS) : Prop := PS X st (tS X.K g W [is])
abbrev BSs (X : Cx) (g : Pg) (W : WX) (st : List Stmt) (is : List IS) : Prop := PSs X st (tS X.K g W is)
theorem psW {X : Cx} {e : Stmt} {t t' : TS} (h : PS X e t) (w : ∀ D σ H, t' D σ H → t D σ H) : PS X e t' := ⟨fun pins s σ H D I q => h.run pins s σ H D I (w D σ H q)⟩
theorem pssW {X : Cx} {e : List Stmt} {t t' : TS} (h : PSs X e t) (w : ∀ D σ H, t' D σ H → t D σ H) : PSs X e t' := ⟨fun pins s σ H D I q => h.run pins s σ H D I (w D σ H q)⟩
theorem Cv.trans {Av Av1 Av2 : Addr → Prop} {H H1 H2 : Hp} (a : Cv Av Av1 H H1) (b : Cv Av1 Av2 H1 H2) : Cv Av Av2 H H2 := fun x u e n => b x u (a x u e n).1 (a x u e n).2
section
variable {K : PySem.W.Frag} {g : Pg} {W : WX} {F : Fr} {Av Av' : Addr → Prop} {H H' : Hp} {D D' : Ends}
theorem goS.later {r : Out} (h : goS K g W F Av H D r) (c : Cv Av Av' H H') : goS K g W F Av' H' D r := by
  cases r with
  | nx ρ o => exact fun A σ H2 a b => h A σ H2 a (c.trans b)
  | bk ρ o => exact fun A σ H2 a b => h A σ H2 a (c.trans b)
  | ct ρ o => exact fun A σ H2 a b => h A σ H2 a (c.trans b)
  | rt d o => exact h
  | xc k d ρ o => exact fun A cls dx σ H2 a b => h A cls dx σ H2 a (c.trans b)
  | no => exact h
/-- one block, then another -/
theorem goS.seq {r : Out} {f : Env → Or → Out} (h : goS K g W F Av H D (r.then f)) :
    goS K g W F Av H { D with nx := fun σ' H' => ∃ F Av' ρ o, RS K F Av' ρ o σ' H' ∧ goS K g W F Av' H' D (f ρ o) } r := by
  cases r with
  | nx ρ o => exact fun A σ H2 a b => ⟨F, A, ρ, o, a, goS.later h b⟩
  | bk ρ o => exact h
  | ct ρ o => exact h
  | rt d o => exact h
  | xc k d ρ o => exact h
  | no => exact h
/-- an expression, then a statement's work -/
theorem goR.out {α β : Type} {rep : β → α → Hp → Prop} {ρ : Env} {o : Or} {σ : L2.St} {r : R α} {f : α → Or → Out} (rs : RS K F Av ρ o σ H) (h : goS K g W F Av H D (r.out ρ f)) :
    goR K g W F Av ρ σ rep H r (fun v H1 => ∃ d o1, r = .ok d o1 ∧ RS K F Av ρ o1 σ H1 ∧ Kw F.wa H H1 ∧ rep v d H1 ∧ goS K g W F Av H1 D (f d o1)) := by
  cases r with
  | ok d o1 => exact fun v H1 a b c => ⟨d, o1, rfl, a, b, c, goS.later h (Cv.kw b rs)⟩
  | exc c d o1 => exact fun cls dx H1 a b x => h Av cls dx σ H1 a (Cv.kw b rs) x
  | no => exact h
end
theorem evSs_one {C : Nat → List D → Or → R D} {i : IS} {ρ : Env} {o : Or} : evSs C [i] ρ o = evS C i ρ o := by
  rw [evSs]
  cases evS C i ρ o <;> simp [evSs, Out.then]
section
variable {X : Cx} {g : Pg} {W : WX} {st : Stmt} {sts : List Stmt} {e a b c : Expr} {ie ia ib ic : IE} {is js : List IS} {i : IS} {pos : Pos}
theorem bss_nil : BSs X g W [] [] := by
  refine pssW pss_nil fun D σ H ⟨F, Av, ρ, o, rs, q⟩ => ?_
  rw [evSs] at q
  exact q Av σ H rs Cv.refl
theorem bss_cons (h1 : BS X g W st i) (h2 : BSs X g W sts is) : BSs X g W (st :: sts) (i :: is) := by
  refine pssW (pss_cons h1 h2) fun D σ H ⟨F, Av, ρ, o, rs, q⟩ => ⟨F, Av, ρ, o, rs, ?_⟩
  rw [evSs] at q
  rw [evSs_one]
  exact q.seq
theorem bss_one (h1 : BS X g W st i) : BSs X g W [st] [i] := pssW (pss_one h1) fun _ _ _ h => h
/-- a list of a slot's own is let go: others may hold it from here on -/
theorem RS.frz {K : PySem.W.Frag} {F : Fr} {Av : Addr → Prop} {ρ : Env} {o : Or} {σ : L2.St} {H : Hp} (rs : RS K F Av ρ o σ H) {i : Nat} {d : D} (e : getS ρ i = .own d) : ∃ Av', RS K F Av' (setS ρ i (.val d)) o σ H ∧ Cv Av Av' H H := by
  obtain ⟨a, vs, ds, ea, rfl, ha, r, av, nw⟩ := rs.own e
  have hi := rs.lt_len (.inr e)
  have c : Cv Av (fun b => Av b ∧ b ≠ a) H H := fun b u h n => ⟨h, fun z => n z.1⟩
  refine ⟨fun b => Av b ∧ b ≠ a, ⟨by rw [setS_len]; exact rs.len, fun j => ?_, fun j k d' e' b h1 h2 h3 h4 => ?_, ?_, rs.keep, fun j d' b h1 h2 => ?_, fun b h => ⟨rs.av0 b h, fun z => ?_⟩, rs.th0, fun b h => rs.there b h.1, fun b h => ⟨rs.waav b h, fun z => nw (by rw [h, z])⟩⟩, c⟩
  · rw [getS_setS]
    by_cases hj : i = j ∧ j < ρ.length
    · rw [if_pos hj]
      obtain ⟨rfl, _⟩ := hj
      rw [ea]
      exact .lst (.inl ⟨.inl ha, fun z => z.2 rfl⟩) (r.cv c)
    · rw [if_neg hj]
      cases q : getS ρ j with
      | un => trivial
      | val d' =>
        obtain ⟨v, e1, r1⟩ := rs.val q
        rw [e1]; exact r1.cv c
      | own d' =>
        obtain ⟨b, ws, es, e1, rfl, hb, r1, av1, nw1⟩ := rs.own q
        rw [e1]
        have hne : i ≠ j := fun z => hj ⟨z, by rw [← z]; exact hi⟩
        exact ⟨b, ws, es, rfl, rfl, hb, r1.cv c, ⟨av1, fun z => hne (rs.inj i j _ _ a e q ea (by rw [e1, z]))⟩, nw1⟩
  · rw [getS_setS] at h1 h2
    split at h1
    · cases h1
    · split at h2
      · cases h2
      · exact rs.inj j k d' e' b h1 h2 h3 h4
  · exact rs.orc.cv c fun _ _ _ e => e
  · rw [getS_setS] at h1
    split at h1
    · cases h1
    · exact rs.new j d' b h1 h2
  · rw [z] at h
    exact rs.th0 a h (rs.new i _ a e ea)
theorem bss_frz {j : Nat} (h : BSs X g W sts is) : BSs X g W sts (.frz j :: is) := by
  refine pssW h fun D σ H ⟨F, Av, ρ, o, rs, q⟩ => ?_
  rw [evSs, evS] at q
  cases e : getS ρ j with
  | own d =>
    rw [e] at q
    obtain ⟨Av', rs', c⟩ := rs.frz e
    exact ⟨F, Av', _, o, rs', goS.later q c⟩
  | un => rw [e] at q; exact ⟨F, Av, ρ, o, rs, q⟩
  | val d => rw [e] at q; exact ⟨F, Av, ρ, o, rs, q⟩

/-! ### assignments -/
/-- name = value -/
theorem bs_set {j : Nat} {x : Str} {pos' : Pos} (hN : X.N.Nodup) (hi : X.N[j]? = some x) (hx : Loc X.env.scope x) (he : BE X g W e ie) (hs : swapsWith e (some (.Name x pos')) pos.line X.env = pure false := by rfl) (hf : X.fn x = true ∨ X.env.scope.names.lookup x = some .local := by first | exact .inl rfl | exact .inr rfl | assumption) :
    BS X g W (.Assign [.Name x pos'] e pos) (.set (.slot j) ie) := by
  refine psW (ps_set (i := j) hN hi hx he hs hf) fun D σ H ⟨F, Av, ρ, o, rs, q⟩ => ⟨F, Av, ρ, o, rs, ?_⟩
  rw [evSs_one, evS] at q
  refine (goR.out rs q).mono fun v H1 ⟨d, o1, e1, rs1, k1, r1, q1⟩ => ?_
  simp only [bindP] at q1
  exact q1 Av _ H1 (rs1.set r1) Cv.refl
/-- a slot's own list stored -/
theorem RS.setOwn {K : PySem.W.Frag} {F : Fr} {Av : Addr → Prop} {ρ : Env} {o : Or} {σ : L2.St} {H : Hp} (rs : RS K F Av ρ o σ H) {i : Nat} {a : Addr} {vs : List V} {ds : List D} (ha : H a = some (.lst vs)) (r : Reps K F.wa Av H vs ds) (av : Av a) (nw : F.wa ≠ some a) (h0 : F.H0 a = none)
    (nh : ∀ j d, getS ρ j = .own d → σ[j]? = some (some (.ref a)) → j = i) : RS K F Av (setS ρ i (.own (.lst ds))) o (σ.set i (some (.ref a))) H where
  len := by rw [setS_len, List.length_set]; exact rs.len
  slot := fun j => by
    rw [getS_setS, getV_set, rs.len]
    split
    · exact ⟨a, vs, ds, rfl, rfl, ha, r, av, nw⟩
    · exact rs.slot j
  inj := fun j k d' e b h1 h2 h3 h4 => by
    rw [getS_setS, rs.len] at h1 h2
    rw [getV_set] at h3 h4
    split at h1
    · rename_i c1
      rw [if_pos c1] at h3
      split at h2
      · rename_i c2
        exact c1.1.symm.trans c2.1
      · rename_i c2
        rw [if_neg c2] at h4
        have : a = b := by simpa using h3
        subst this
        exact absurd ⟨(nh k e h2 h4).symm, by have := rs.lt_len (.inr h2); rw [← rs.len]; exact this⟩ c2
    · rename_i c1
      rw [if_neg c1] at h3
      split at h2
      · rename_i c2
        rw [if_pos c2] at h4
        have : a = b := by simpa using h4
        subst this
        exact absurd ⟨(nh j d' h1 h3).symm, by have := rs.lt_len (.inr h1); rw [← rs.len]; exact this⟩ c1
      · rename_i c2
        rw [if_neg c2] at h4
        exact rs.inj j k d' e b h1 h2 h3 h4
  orc := rs.orc
  keep := rs.keep
  new := fun j d' b h1 h2 => by
    rw [getS_setS, rs.len] at h1
    rw [getV_set] at h2
    split at h1
    · rename_i c1
      rw [if_pos c1] at h2
      have : a = b := by simpa using h2
      rw [← this]; exact h0
    · rename_i c1
      rw [if_neg c1] at h2
      exact rs.new j d' b h1 h2
  av0 := rs.av0
  th0 := rs.th0
  there := rs.there
  waav := rs.waav
theorem RS.h0 {K : PySem.W.Frag} {F : Fr} {Av : Addr → Prop} {ρ : Env} {o : Or} {σ : L2.St} {H : Hp} (rs : RS K F Av ρ o σ H) {a : Addr} (h : H a = none) : F.H0 a = none ∧ F.wa ≠ some a := by
  have nw : F.wa ≠ some a := fun z => rs.there a (rs.waav a z) h
  refine ⟨?_, nw⟩
  cases e : F.H0 a with
  | none => rfl
  | some u => rw [rs.keep a u nw e] at h; cases h
theorem RS.nh {K : PySem.W.Frag} {F : Fr} {Av : Addr → Prop} {ρ : Env} {o : Or} {σ : L2.St} {H : Hp} (rs : RS K F Av ρ o σ H) {a : Addr} (h : H a = none) (j : Nat) (d : D) (e : getS ρ j = .own d) : σ[j]? ≠ some (some (.ref a)) := fun z => by
  obtain ⟨b, vs, ds, e1, _, hb, _⟩ := rs.own e
  rw [e1] at z
  have : b = a := by simpa using z
  rw [this, h] at hb
  cases hb
/-- name = a new list of the slot's own -/
theorem bs_setO {j : Nat} {x : Str} {pos' : Pos} (hN : X.N.Nodup) (hi : X.N[j]? = some x) (hx : Loc X.env.scope x) (he : BF X g W e ie) (hs : swapsWith e (some (.Name x pos')) pos.line X.env = pure false := by rfl) (hf : X.fn x = true ∨ X.env.scope.names.lookup x = some .local := by first | exact .inl rfl | exact .inr rfl | assumption) :
    BS X g W (.Assign [.Name x pos'] e pos) (.setO j ie) := by
  refine psW (ps_set (i := j) hN hi hx he hs hf) fun D σ H ⟨F, Av, ρ, o, rs, q⟩ => ⟨F, Av, ρ, o, rs, ?_⟩
  rw [evSs_one, evS] at q
  cases e1 : evE g.C ie ρ o with
  | no => rw [e1] at q; exact q.elim
  | exc c d o1 => rw [e1] at q; exact fun cls dx H1 a b x => q Av cls dx σ H1 a (Cv.kw b rs) x
  | ok d o1 =>
    rw [e1] at q
    rintro v H1 a vs ds rs1 k1 rfl rfl ha hv r1 rsa
    obtain ⟨h0, nw⟩ := rs.h0 ha
    refine q (Av1 Av a) _ H1 (rsa.setOwn hv r1 (.inr rfl) nw h0 fun k d' e' z => absurd z (rs.nh ha k d' e')) fun b u e n => ?_
    have nb : b ≠ a := ne_of_none e ha
    exact ⟨k1 b u (fun z => n (rs.waav b z)) e, fun z => z.elim n nb⟩
/-- name = [..] (a comprehension on one line) -/
theorem bs_setC {tg elt iter : Expr} {ifs : List Expr} {il : IE} {p : IP} {scope : Scope} {own : List (Str × Nat)} {j : Nat} {y : Str} {py spos : Pos} (hc : X.calm = true) (hN : X.N.Nodup) (hy : X.N[j]? = some y) (hyl : X.env.scope.names.lookup y = some .local)
    (hsw : swapsWith (.ListComp elt [⟨tg, iter, ifs, 0⟩] scope pos) (some (.Name y py)) spos.line X.env = pure true) (hi : BI X g W true tg iter il) (ok : BlkOk X.N X.env.scope scope own) (hv : own.map (·.2) = slotsP p)
    (hg : ∀ (s : Shared) (H : Hp) (C : Addr) (cl : List (Str × Addr)) (fp : List Addr), BG (X.blk s H scope (compEnvC scope cl C X.env) fp) tg p) (ht : ∀ (s : Shared) (H : Hp) (C : Addr) (cl : List (Str × Addr)) (fp : List Addr), BTs (X.blk s H scope (compEnvC scope cl C X.env) fp) g ifs ic)
    (he : ∀ (s : Shared) (H : Hp) (C : Addr) (cl : List (Str × Addr)) (fp : List Addr), BE (X.blk s H scope (compEnvC scope cl C X.env) fp) g W0 elt ie) (hs : ∀ x, foldedSetIterable iter X.env x = pure x := by intro _; rfl) :
    BS X g W (.Assign [.Name y py] (.ListComp elt [⟨tg, iter, ifs, 0⟩] scope pos) spos) (.set (.slot j) (.comp p il ic ie)) := by
  refine psW (ps_setLc (i := j) (g := gI X.K p) (tt := tIT X.K g W0 ic) (te := tI X.K g W0 ie) hc hN hy hyl hsw hi ok hg ht he hs) fun D σ H ⟨F, Av, ρ, o, rs, q⟩ => ?_
  rw [evSs_one, evS] at q
  show tLc _ _ _ _ _ σ H _
  rw [hv]
  refine comp_read rs ?_
  cases e1 : evE g.C (.comp p il ic ie) ρ o with
  | no => rw [e1] at q; exact q.elim
  | exc c d o1 => rw [e1] at q; exact fun cls dx H1 a b x => q Av cls dx σ H1 a (Cv.kw b rs) x
  | ok d o1 =>
    rw [e1] at q
    rintro v H1 a vs ds rs1 k1 rfl rfl ha hv r1 rsa
    simp only [BV.R.out_ok, bindP] at q
    exact q Av _ H1 (rs1.set (.lst (.inl ⟨.inl hv, fun av => rs.there a av ha⟩) (r1.cv fun b u e n => ⟨e, fun z => n (.inl z)⟩))) (Cv.kw k1 rs)
theorem bs_setOC {tg elt iter : Expr} {ifs : List Expr} {il : IE} {p : IP} {scope : Scope} {own : List (Str × Nat)} {j : Nat} {y : Str} {py spos : Pos} (hc : X.calm = true) (hN : X.N.Nodup) (hy : X.N[j]? = some y) (hyl : X.env.scope.names.lookup y = some .local)
    (hsw : swapsWith (.ListComp elt [⟨tg, iter, ifs, 0⟩] scope pos) (some (.Name y py)) spos.line X.env = pure true) (hi : BI X g W true tg iter il) (ok : BlkOk X.N X.env.scope scope own) (hv : own.map (·.2) = slotsP p)
    (hg : ∀ (s : Shared) (H : Hp) (C : Addr) (cl : List (Str × Addr)) (fp : List Addr), BG (X.blk s H scope (compEnvC scope cl C X.env) fp) tg p) (ht : ∀ (s : Shared) (H : Hp) (C : Addr) (cl : List (Str × Addr)) (fp : List Addr), BTs (X.blk s H scope (compEnvC scope cl C X.env) fp) g ifs ic)
    (he : ∀ (s : Shared) (H : Hp) (C : Addr) (cl : List (Str × Addr)) (fp : List Addr), BE (X.blk s H scope (compEnvC scope cl C X.env) fp) g W0 elt ie) (hs : ∀ x, foldedSetIterable iter X.env x = pure x := by intro _; rfl) :
    BS X g W (.Assign [.Name y py] (.ListComp elt [⟨tg, iter, ifs, 0⟩] scope pos) spos) (.setO j (.comp p il ic ie)) := by
  refine psW (ps_setLc (i := j) (g := gI X.K p) (tt := tIT X.K g W0 ic) (te := tI X.K g W0 ie) hc hN hy hyl hsw hi ok hg ht he hs) fun D σ H ⟨F, Av, ρ, o, rs, q⟩ => ?_
  rw [evSs_one, evS] at q
  show tLc _ _ _ _ _ σ H _
  rw [hv]
  refine comp_read rs ?_
  cases e1 : evE g.C (.comp p il ic ie) ρ o with
  | no => rw [e1] at q; exact q.elim
  | exc c d o1 => rw [e1] at q; exact fun cls dx H1 a b x => q Av cls dx σ H1 a (Cv.kw b rs) x
  | ok d o1 =>
    rw [e1] at q
    rintro v H1 a vs ds rs1 k1 rfl rfl ha hv r1 rsa
    obtain ⟨h0, nw⟩ := rs.h0 ha
    refine q (Av1 Av a) _ H1 (rsa.setOwn hv r1 (.inr rfl) nw h0 fun k d' e' z => absurd z (rs.nh ha k d' e')) fun b u e n => ?_
    have nb : b ≠ a := ne_of_none e ha
    exact ⟨k1 b u (fun z => n (rs.waav b z)) e, fun z => z.elim n nb⟩
/-- targets = a value -/
theorem bs_asg {tg : Expr} {p : IP} (he : BE X g W e ie) (hg : BG X tg p) (hs : swapsWithSole [tg] e pos.line X.env = pure false := by rfl) (hw : swappedStores [tg] e X.env = pure none := by rfl)
    (h1 : (assignEach [tg] X.env).map (·.2) = [assign tg X.env] := by rfl) : BS X g W (.Assign [tg] e pos) (.set p ie) := by
  refine psW (ps_asg he hg hs hw h1) fun D σ H ⟨F, Av, ρ, o, rs, q⟩ => ⟨F, Av, ρ, o, rs, ?_⟩
  rw [evSs_one, evS] at q
  refine (goR.out rs q).mono fun v H1 ⟨d, o1, e1, rs1, k1, r1, q1⟩ => ?_
  cases hb : bindP p d ρ with
  | none => rw [hb] at q1; exact q1.elim
  | some ρ' =>
    rw [hb] at q1
    exact gI_ok p rs1 r1 hb fun σ' rs' _ => q1 Av σ' H1 rs' Cv.refl
end
end BV

end
/-! text: BV10.lean -/
section
set_option maxRecDepth 100000
set_option autoImplicit false
set_option maxHeartbeats 4000000
namespace BV
open PySem PySem.Spec PyProof.Rows L2
section
variable {X : Cx} {g : Pg} {W : WX} {st : Stmt} {sts : List Stmt} {e a b c iter tg : Expr} {es : List Expr} {ie ia ib ic il : IE} {is js : List IS} {ies : List IE} {i : IS} {pos : Pos} {p : IP}

/-! ### a, b = x, y -/
def NH (ρ : Env) (σ : L2.St) (a : Addr) : Prop := ∀ j d, getS ρ j = .own d → σ[j]? ≠ some (some (.ref a))
inductive PFs (K : PySem.W.Frag) (F : Fr) (Av : Addr → Prop) (H : Hp) (ρ : Env) (σ : L2.St) : List Bool → List V → List D → List Addr → Prop
  | nil : PFs K F Av H ρ σ [] [] [] []
  | val {v : V} {d : D} {bs : List Bool} {vs : List V} {ds : List D} {as : List Addr} : Rep K F.wa Av H v d → PFs K F Av H ρ σ bs vs ds as → PFs K F Av H ρ σ (false :: bs) (v :: vs) (d :: ds) as
  | own {a : Addr} {ws : List V} {xs : List D} {bs : List Bool} {vs : List V} {ds : List D} {as : List Addr} : H a = some (.lst ws) → Reps K F.wa Av H ws xs → Av a → F.wa ≠ some a → F.H0 a = none → NH ρ σ a → a ∉ as →
      PFs K F Av H ρ σ bs vs ds as → PFs K F Av H ρ σ (true :: bs) (.ref a :: vs) (.lst xs :: ds) (a :: as)
theorem PFs.cv {K : PySem.W.Frag} {F : Fr} {Av Av' : Addr → Prop} {H H' : Hp} {ρ : Env} {σ : L2.St} (c : Cv Av Av' H H') (hv : ∀ a, Av a → Av' a) (k : Kw F.wa H H') : ∀ {bs : List Bool} {vs : List V} {ds : List D} {as : List Addr}, PFs K F Av H ρ σ bs vs ds as → PFs K F Av' H' ρ σ bs vs ds as
  | _, _, _, _, .nil => .nil
  | _, _, _, _, .val r t => .val (r.cv c) (PFs.cv c hv k t)
  | _, _, _, _, .own h1 h2 h3 h4 h5 h6 h7 t => .own (k _ _ h4 h1) (h2.cv c) (hv _ h3) h4 h5 h6 h7 (PFs.cv c hv k t)
/-- the arguments of a parallel assignment: bs tells which are lists that a slot is to own -/
def tPF (K : PySem.W.Frag) (g : Pg) (W : WX) (bs : List Bool) (es : List IE) : TA := fun σ H Q => ∃ F Av ρ o, RS K F Av ρ o σ H ∧ (match evEs g.C es ρ o with
  | .ok ds o' => ∀ vs H' Av' as, RS K F Av' ρ o' σ H' → Kw F.wa H H' → (∀ a, Av a → Av' a) → Cv Av Av' H H' → (∀ a ∈ as, H a = none) → PFs K F Av' H' ρ σ bs vs ds as → Q vs H'
  | .exc c d o' => ∀ Av' cls dx H', RS K F Av' ρ o' σ H' → Cv Av Av' H H' → g.XP c d cls dx H' → W cls dx σ H'
  | .no => False)
theorem pf_nil : PA X [] (tPF X.K g W [] []) := paW pa_nil fun σ H Q ⟨F, Av, ρ, o, rs, q⟩ => q [] H Av [] rs (Kw.refl _ _) (fun _ h => h) Cv.refl (fun _ h => nomatch h) .nil
theorem pf_val {bs : List Bool} (ha : BE X g W e ie) (hr : PA X es (tPF X.K g W bs ies)) (hs : starEach (e :: es) X.env = (false, eval e X.env) :: starEach es X.env := by rfl) : PA X (e :: es) (tPF X.K g W (false :: bs) (ie :: ies)) := by
  refine paW (pa_cons ha hr hs) fun σ H Q ⟨F, Av, ρ, o, rs, q⟩ => ⟨F, Av, ρ, o, rs, ?_⟩
  rw [evEs] at q
  cases e1 : evE g.C ie ρ o with
  | no => rw [e1] at q; exact q.elim
  | exc c d o' => rw [e1] at q; exact fun cls dx H' a b x => q Av cls dx H' a (Cv.kw b rs) x
  | ok d o1 =>
    rw [e1] at q
    simp only [BV.R.bind_ok] at q
    intro v H1 rs1 k1 r1
    refine ⟨F, Av, ρ, o1, rs1, ?_⟩
    cases e2 : evEs g.C ies ρ o1 with
    | no => rw [e2] at q; exact q.elim
    | exc c d o' => rw [e2] at q; exact fun Av' cls dx H' a b x => q Av' cls dx H' a ((Cv.kw k1 rs).trans b) x
    | ok ds o2 =>
      rw [e2] at q
      simp only [BV.R.bind_ok] at q
      exact fun vs H2 Av' as rs2 k2 hv c2 fr pf => q (v :: vs) H2 Av' as rs2 (k1.trans k2) hv ((Cv.kw k1 rs).trans c2) (fun a h => by
        cases z : H a with
        | none => rfl
        | some u =>
          obtain ⟨_, nw⟩ := rs1.h0 (fr a h)
          rw [← fr a h, k1 a u nw z]) (.val (r1.cv c2) pf)
theorem pf_own {bs : List Bool} (ha : BF X g W e ie) (hr : PA X es (tPF X.K g W bs ies)) (hs : starEach (e :: es) X.env = (false, eval e X.env) :: starEach es X.env := by rfl) : PA X (e :: es) (tPF X.K g W (true :: bs) (ie :: ies)) := by
  refine paW (pa_cons ha hr hs) fun σ H Q ⟨F, Av, ρ, o, rs, q⟩ => ⟨F, Av, ρ, o, rs, ?_⟩
  rw [evEs] at q
  cases e1 : evE g.C ie ρ o with
  | no => rw [e1] at q; exact q.elim
  | exc c d o' => rw [e1] at q; exact fun cls dx H' a b x => q Av cls dx H' a (Cv.kw b rs) x
  | ok d o1 =>
    rw [e1] at q
    simp only [BV.R.bind_ok] at q
    rintro v H1 a ws xs rs1 k1 rfl rfl h1 h2 h3 rsa
    have c1 : Cv Av (Av1 Av a) H H1 := fun b u e n => ⟨k1 b u (fun z => n (rs.waav b z)) e, fun z => z.elim n fun z => by rw [z, h1] at e; cases e⟩
    refine ⟨F, Av1 Av a, ρ, o1, rsa, ?_⟩
    cases e2 : evEs g.C ies ρ o1 with
    | no => rw [e2] at q; exact q.elim
    | exc c d o' => rw [e2] at q; exact fun Av' cls dx H' x1 x2 x3 => q Av' cls dx H' x1 (c1.trans x2) x3
    | ok ds o2 =>
      rw [e2] at q
      simp only [BV.R.bind_ok] at q
      obtain ⟨h0, nw⟩ := rs.h0 h1
      refine fun vs H2 Av' as rs2 k2 hv c2 fr pf => q (.ref a :: vs) H2 Av' (a :: as) rs2 (k1.trans k2) (fun b h => hv b (.inl h)) (c1.trans c2) (fun b h => ?_) (.own (k2 a _ nw h2) (h3.cv c2) (hv a (.inr rfl)) nw h0 (rs.nh h1) (fun h => by rw [fr a h] at h2; cases h2) pf)
      rcases List.mem_cons.mp h with rfl | h
      · exact h1
      · cases z : H b with
        | none => rfl
        | some u =>
          obtain ⟨_, nw'⟩ := rsa.h0 (fr b h)
          rw [← fr b h, k1 b u nw' z]
/-- the slots stored, one after another -/
def setV (σ : L2.St) : List Nat → List V → L2.St
  | i :: is, v :: vs => setV (σ.set i (some v)) is vs
  | _, _ => σ
theorem NH.set {ρ : Env} {σ : L2.St} {a b : Addr} {i : Nat} {d : D} (h : NH ρ σ a) (ne : a ≠ b) (hl : ρ.length = σ.length) : NH (setS ρ i (.own d)) (σ.set i (some (.ref b))) a := fun j e h1 h2 => by
  rw [getS_setS] at h1
  rw [getV_set, ← hl] at h2
  split at h1
  · rename_i c
    rw [if_pos c] at h2
    exact ne (by simpa using h2.symm)
  · rename_i c
    rw [if_neg c] at h2
    exact h j e h1 h2
theorem NH.setV {ρ : Env} {σ : L2.St} {a : Addr} {i : Nat} {d : D} {v : V} (h : NH ρ σ a) (hl : ρ.length = σ.length) : NH (setS ρ i (.val d)) (σ.set i (some v)) a := fun j e h1 h2 => by
  rw [getS_setS] at h1
  rw [getV_set, ← hl] at h2
  split at h1
  · cases h1
  · rename_i c
    rw [if_neg c] at h2
    exact h j e h1 h2
theorem PFs.nh {K : PySem.W.Frag} {F : Fr} {Av : Addr → Prop} {H : Hp} {ρ ρ' : Env} {σ σ' : L2.St} : ∀ {bs : List Bool} {vs : List V} {ds : List D} {as : List Addr}, (∀ a ∈ as, NH ρ σ a → NH ρ' σ' a) → PFs K F Av H ρ σ bs vs ds as → PFs K F Av H ρ' σ' bs vs ds as
  | _, _, _, _, _, .nil => .nil
  | _, _, _, _, m, .val r t => .val r (PFs.nh m t)
  | _, _, _, _, m, .own h1 h2 h3 h4 h5 h6 h7 t => .own h1 h2 h3 h4 h5 (m _ List.mem_cons_self h6) h7 (PFs.nh (fun a h => m a (List.mem_cons_of_mem _ h)) t)
theorem par_set {K : PySem.W.Frag} {F : Fr} {Av : Addr → Prop} {H : Hp} {o : Or} : ∀ {ps : List (Nat × Bool)} {vs : List V} {ds : List D} {as : List Addr} {ρ ρ' : Env} {σ : L2.St}, RS K F Av ρ o σ H → PFs K F Av H ρ σ (ps.map (·.2)) vs ds as → parS ps ds ρ = some ρ' → RS K F Av ρ' o (setV σ (ps.map (·.1)) vs) H
  | [], _, _, _, ρ, ρ', σ, rs, pf, h => by
    cases pf
    simp only [parS, Option.some.injEq] at h
    subst h
    exact rs
  | (i, true) :: ps, _, _, _, ρ, ρ', σ, rs, pf, h => by
    cases pf with
    | own h1 h2 h3 h4 h5 h6 h7 t =>
      simp only [parS] at h
      have rs1 := rs.setOwn (i := i) h1 h2 h3 h4 h5 fun j d e z => absurd z (h6 j d e)
      exact par_set (ps := ps) rs1 (t.nh fun b hb n => n.set (fun z => h7 (by rw [← z]; exact hb)) rs.len) h
  | (i, false) :: ps, _, _, _, ρ, ρ', σ, rs, pf, h => by
    cases pf with
    | val r t =>
      simp only [parS] at h
      exact par_set (ps := ps) (rs.set (i := i) r) (t.nh fun b hb n => n.setV rs.len) h
theorem PFs.len {K : PySem.W.Frag} {F : Fr} {Av : Addr → Prop} {H : Hp} {ρ : Env} {σ : L2.St} : ∀ {bs : List Bool} {vs : List V} {ds : List D} {as : List Addr}, PFs K F Av H ρ σ bs vs ds as → vs.length = bs.length
  | _, _, _, _, .nil => rfl
  | _, _, _, _, .val _ t => congrArg (· + 1) (PFs.len t)
  | _, _, _, _, .own _ _ _ _ _ _ _ t => congrArg (· + 1) (PFs.len t)
/-- from the assignment's reading -/
theorem par_read {ps : List (Nat × Bool)} {σ : L2.St} {H : Hp} {D : Ends} (h : tS X.K g W [.par ps ies] D σ H) :
    tPF X.K g W (ps.map (·.2)) ies σ H (fun vs H1 => vs.length = ps.length ∧ D.nx (setV σ (ps.map (·.1)) vs) H1 ∧ ∀ p, H1 p = none → ∀ u, D.nx (setV σ (ps.map (·.1)) vs) (upd H1 p u)) := by
  obtain ⟨F, Av, ρ, o, rs, q⟩ := h
  refine ⟨F, Av, ρ, o, rs, ?_⟩
  rw [evSs_one, evS] at q
  cases e1 : evEs g.C ies ρ o with
  | no => rw [e1] at q; exact q.elim
  | exc c d o1 => rw [e1] at q; exact fun Av' cls dx H1 a b x => q Av' cls dx σ H1 a b x
  | ok ds o1 =>
    rw [e1] at q
    simp only [BV.R.out_ok] at q
    cases hp : parS ps ds ρ with
    | none => rw [hp] at q; exact fun _ _ _ _ _ _ _ _ _ _ => q.elim
    | some ρ' =>
      rw [hp] at q
      refine fun vs H1 Av' as rs1 k1 hv c1 fr pf => ⟨by rw [pf.len, List.length_map], q Av' _ H1 (par_set rs1 pf hp) c1, fun p hpn u => ?_⟩
      exact q Av' _ _ (par_set (rs1.alloc hpn) (pf.cv (cv_alloc hpn) (fun _ h => h) (kw_alloc hpn)) hp) (c1.trans (cv_alloc hpn))
theorem bs_par2 {i j : Nat} {bi bj : Bool} {x y : Str} {px py pt : Pos} {kt k2 pt2} (hc : X.calm = true) (hN : X.N.Nodup) (hi : X.N[i]? = some x) (hj : X.N[j]? = some y) (hij : i ≠ j)
    (hx : X.env.scope.names.lookup x = some .local) (hy : X.env.scope.names.lookup y = some .local) (ha : PA X [a, b] (tPF X.K g W [bi, bj] ies))
    (hw : swappedStores [.Tuple [.Name x px, .Name y py] kt pt] (.Tuple [a, b] k2 pt2) X.env = pure (some [x, y]))
    (hs : swapsWithSole [.Tuple [.Name x px, .Name y py] kt pt] (.Tuple [a, b] k2 pt2) pos.line X.env = pure false := by rfl) :
    BS X g W (.Assign [.Tuple [.Name x px, .Name y py] kt pt] (.Tuple [a, b] k2 pt2) pos) (.par [(i, bi), (j, bj)] ies) := by
  refine psW (ps_par hc hN hi hj hij hx hy ha hw hs) fun D σ H h => ?_
  obtain ⟨F, Av, ρ, o, rs, q⟩ := par_read h
  refine ⟨F, Av, ρ, o, rs, ?_⟩
  cases e1 : evEs g.C ies ρ o with
  | no => rw [e1] at q; exact q
  | exc c d o1 => rw [e1] at q; exact q
  | ok ds o1 =>
    rw [e1] at q
    intro vs H1 Av' as x1 x2 x3 x4 x5 x6
    obtain ⟨hl, q1, _⟩ := q vs H1 Av' as x1 x2 x3 x4 x5 x6
    match vs, hl with
    | [v, w], _ => exact ⟨v, w, rfl, q1⟩
theorem bs_par3 {i j l : Nat} {bi bj bl : Bool} {x y z : Str} {px py pz pt : Pos} {kt k2 pt2} (hc : X.calm = true) (hN : X.N.Nodup) (hi : X.N[i]? = some x) (hj : X.N[j]? = some y) (hl : X.N[l]? = some z) (hij : i ≠ j) (hil : i ≠ l) (hjl : j ≠ l)
    (hx : X.env.scope.names.lookup x = some .local) (hy : X.env.scope.names.lookup y = some .local) (hz : X.env.scope.names.lookup z = some .local) (ha : PA X [a, b, c] (tPF X.K g W [bi, bj, bl] ies))
    (hw : swappedStores [.Tuple [.Name x px, .Name y py, .Name z pz] kt pt] (.Tuple [a, b, c] k2 pt2) X.env = pure (some [x, y, z]))
    (hs : swapsWithSole [.Tuple [.Name x px, .Name y py, .Name z pz] kt pt] (.Tuple [a, b, c] k2 pt2) pos.line X.env = pure false := by rfl) :
    BS X g W (.Assign [.Tuple [.Name x px, .Name y py, .Name z pz] kt pt] (.Tuple [a, b, c] k2 pt2) pos) (.par [(i, bi), (j, bj), (l, bl)] ies) := by
  refine psW (ps_par3 hc hN hi hj hl hij hil hjl hx hy hz ha hw hs) fun D σ H h => ?_
  obtain ⟨F, Av, ρ, o, rs, q⟩ := par_read h
  refine ⟨F, Av, ρ, o, rs, ?_⟩
  cases e1 : evEs g.C ies ρ o with
  | no => rw [e1] at q; exact q
  | exc c d o1 => rw [e1] at q; exact q
  | ok ds o1 =>
    rw [e1] at q
    intro vs H1 Av' as x1 x2 x3 x4 x5 x6
    obtain ⟨hl, q1, _⟩ := q vs H1 Av' as x1 x2 x3 x4 x5 x6
    match vs, hl with
    | [u, v, w], _ => exact ⟨u, v, w, rfl, q1⟩
/-- the targets are names -/
def gNames : List Nat → TGs
  | [] => gNil
  | i :: is => gCons (gName i) (gNames is)
theorem pgN_nil : PGs X [] (gNames []) := pgs_nil
theorem pgN_cons {x : Str} {es : List Expr} {i : Nat} {is : List Nat} (hN : X.N.Nodup) (hi : X.N[i]? = some x) (hx : Loc X.env.scope x) (h2 : PGs X es (gNames is)) (hf : X.fn x = true ∨ X.env.scope.names.lookup x = some .local := by first | exact .inl rfl | exact .inr rfl | assumption)
    (hs : (assignEach (.Name x pos :: es) X.env).map (·.2) = assign (.Name x pos) X.env :: (assignEach es X.env).map (·.2) := by rfl) : PGs X (.Name x pos :: es) (gNames (i :: is)) := pgs_cons (pg_name hN hi hx hf) h2 hs
theorem gNames_ok : ∀ {is : List Nat} {vs : List V} {σ : L2.St} {H : Hp} {Q : L2.St → Hp → Prop}, vs.length = is.length → Q (setV σ is vs) H → gNames is vs σ H Q
  | [], [], _, _, _, _, q => ⟨rfl, q⟩
  | [], _ :: _, _, _, _, h, _ => by simp at h
  | _ :: _, [], _, _, _, h, _ => by simp at h
  | i :: is, v :: vs, σ, H, Q, h, q => ⟨v, vs, rfl, gNames_ok (by simpa using h) q⟩
/-- .. where Python makes the tuple -/
theorem bs_parG {ts : List Expr} {ps : List (Nat × Bool)} {kt k2 : Nat} {pt pt2 : Pos} (hc : X.calm = true) (ha : PA X es (tPF X.K g W (ps.map (·.2)) ies)) (hg : PGs X ts (gNames (ps.map (·.1)))) (hn : (assignEach ts X.env).length = ps.length) (hl : ps.length ≤ 1000)
    (hs : swapsWithSole [.Tuple ts kt pt] (.Tuple es k2 pt2) pos.line X.env = pure false) (hw : swappedStores [.Tuple ts kt pt] (.Tuple es k2 pt2) X.env = pure none)
    (h1 : (assignEach [.Tuple ts kt pt] X.env).map (·.2) = [assign (.Tuple ts kt pt) X.env] := by rfl) (hst : (assignEach ts X.env).findIdx? (·.1) = none := by rfl) :
    BS X g W (.Assign [.Tuple ts kt pt] (.Tuple es k2 pt2) pos) (.par ps ies) := by
  refine psW (ps_asg (pe_tup ha) (pg_tup hc hg hn hst) hs hw h1) fun D σ H h => ?_
  obtain ⟨F, Av, ρ, o, rs, q⟩ := par_read h
  refine ⟨F, Av, ρ, o, rs, ?_⟩
  cases e1 : evEs g.C ies ρ o with
  | no => rw [e1] at q; exact q
  | exc c d o1 => rw [e1] at q; exact q
  | ok ds o1 =>
    rw [e1] at q
    intro vs H1 Av' as x1 x2 x3 x4 x5 x6
    obtain ⟨hl', _, q1⟩ := q vs H1 Av' as x1 x2 x3 x4 x5 x6
    refine ⟨by rw [hl']; exact le_line hl, fun p hp => ⟨p, vs, rfl, SqT.of upd_same, by rw [hl'], gNames_ok (by rw [hl', List.length_map]) (q1 p hp _)⟩⟩

/-! ### append, op=, expressions, return -/
theorem bs_app {j : Nat} {x : Str} {px apos cpos : Pos} (hi : X.N[j]? = some x) (hv : Vis X.env.scope x) (he : BE X g W e ie) (hd : (x == ("__debug__" : Str)) = false := by decide) (hcd : (x == ("__classdict__" : Str)) = false := by decide)
    (hbase : attributeBase (.Name x px) "append" X.env (eval (.Name x px) X.env) = eval (.Name x px) X.env := by rfl)
    (hfew : ((backTo cpos (starEach (e :: []) X.env)).all (fun x => !x.1) && (backToKw cpos (keywordEach [] X.env)).all (fun x => x.1.isSome)
      && decide ((e :: []).length + ([] : List Keyword).length + (if ([] : List Keyword).isEmpty then 0 else 1) < 30)) = true := by rfl)
    (hline : (apos.endLine == cpos.line) = true := by rfl) (hs : starEach (e :: []) X.env = (false, eval e X.env) :: starEach [] X.env := by rfl) (hsw : swapsWith (.Call (.Attribute (.Name x px) "append" apos) [e] [] cpos) none pos.line X.env = pure false := by rfl) :
    BS X g W (.Expr (.Call (.Attribute (.Name x px) "append" apos) [e] [] cpos) pos) (.app j ie) := by
  refine psW (ps_expr (pe_bm PySem.F.plainAttrs_list PySem.F.slot_list_append PySem.F.type_list_append mt_append (pe_var (i := j) hi hv hd hcd) (pa_cons he pa_nil hs) hbase hfew hline hs rfl) hsw) fun D σ H ⟨F, Av, ρ, o, rs, q⟩ => ?_
  rw [evSs_one, evS] at q
  cases ho : getS ρ j with
  | un => rw [ho] at q; exact q.elim
  | val d => rw [ho] at q; exact q.elim
  | own d =>
    obtain ⟨a, vs, ds, ea, rfl, ha, r, av, nw⟩ := rs.own ho
    rw [ho] at q
    simp only at q
    refine ⟨_, ea, .inl ⟨rfl, _, SqL.of ha⟩, F, Av, ρ, o, rs, (goR.out rs q).mono fun v H1 ⟨d, o1, e1, rs1, k1, r1, q1⟩ => ?_⟩
    obtain ⟨a', vs', ds', ea', hds, ha', r', av', nw'⟩ := rs1.own ho
    rw [ea] at ea'
    have : a = a' := by simpa using ea'
    subst this
    cases hds
    split at q1
    · rename_i hl
      refine ⟨a, vs', v, rfl, rfl, ha', by rw [r'.length, ← cap_eq]; exact hl, ?_⟩
      have h0 := rs1.new j _ a ho ea
      have rs2 : RS X.K F Av (setS ρ j .un) o1 (σ.set j (some (.ref a))) (upd H1 a (.lst (vs' ++ [v]))) :=
        (rs1.unset (i := j) (x := some (.ref a))).upd_own av nw h0 fun k d' e' z => by
          rw [getS_setS] at e'
          rw [getV_set, ← rs1.len] at z
          split at e'
          · cases e'
          · rename_i c
            rw [if_neg c] at z
            have := rs1.inj k j d' _ a e' ho z ea
            exact c ⟨this.symm, by rw [this]; exact rs1.lt_len (.inr ho)⟩
      have rs3 := rs2.setOwn (i := j) (a := a) (vs := vs' ++ [v]) (ds := ds ++ [d]) upd_same ((r'.append (.cons r1 .nil)).cv (cv_upd av)) av nw h0 fun k d' e' z => by
        rw [getS_setS] at e'
        rw [getV_set, ← rs1.len] at z
        split at e'
        · cases e'
        · rename_i c
          rw [if_neg c] at z
          exact rs1.inj k j d' _ a e' ho z ea
      have e2 : (σ.set j (some (.ref a))).set j (some (.ref a)) = σ := by
        rw [List.set_set]
        refine List.ext_getElem? fun n => ?_
        rw [getV_set]
        split
        · rename_i c
          rw [← c.1, ea]
        · rfl
      have e3 : setS (setS ρ j .un) j (.own (.lst (ds ++ [d]))) = setS ρ j (.own (.lst (ds ++ [d]))) := by
        have : ∀ (ρ : Env) (j : Nat) (x y : Sl), setS (setS ρ j x) j y = setS ρ j y := by
          intro ρ
          induction ρ with
          | nil => intro j x y; rfl
          | cons a ρ ih =>
            intro j x y
            cases j with
            | zero => rfl
            | succ j => simp only [setS, ih]
        exact this _ _ _ _
      rw [e2, e3] at rs3
      exact q1 Av σ _ rs3 (cv_upd av)
    · exact q1.elim

/-- an operation whose left side is a number or a text -/
def opS (b : O2) (x y : D) : Option D := if scalar x then op2 b x y else none
/-- name op= e, the name's value a number or a text -/
theorem bs_aug {j : Nat} {x : Str} {op : O2} {bop : Operator} {pos' : Pos} (ho : OpR X (inplaceOp bop) (rB X.K (opS op))) (hN : X.N.Nodup) (hi : X.N[j]? = some x) (hx : Loc X.env.scope x) (he : BE X g W e ie) (hf : X.fn x = true ∨ X.env.scope.names.lookup x = some .local := by first | exact .inl rfl | exact .inr rfl | assumption) :
    BS X g W (.AugAssign (.Name x pos') bop e pos) (.aug j op ie) := by
  refine psW (ps_aug (i := j) (ti := rB X.K (opS op)) hN hi hx he ho hf) fun D σ H ⟨F, Av, ρ, o, rs, q⟩ => ?_
  rw [evSs_one, evS] at q
  cases hs : getS ρ j with
  | un => rw [hs] at q; exact q.elim
  | own d => rw [hs] at q; exact q.elim
  | val d =>
    obtain ⟨v, ev, r⟩ := rs.val hs
    rw [hs] at q
    simp only at q
    split at q
    · rename_i hsc
      refine ⟨v, ev, F, Av, ρ, o, rs, (goR.out rs q).mono fun u H1 ⟨d1, o1, e1, rs1, k1, r1, q1⟩ => ?_⟩
      cases hz : op2 op d d1 with
      | none => rw [hz] at q1; exact q1.elim
      | some z =>
        rw [hz] at q1
        exact ⟨F, Av, ρ, o1, σ, d, d1, z, rs1, .inl (r.cv (Cv.kw k1 rs)), .inl r1, by rw [opS, if_pos hsc]; exact hz, fun w H2 rs2 k2 r2 => q1 Av _ H2 (rs2.set r2) (Cv.kw k2 rs1)⟩
    · exact q.elim
theorem o_iadd : OpR X (inplaceOp .Add) (rB X.K (opS .add)) := by
  intro pins s σ H x y v u Q I rx ry ⟨F, Av, ρ, o, σ', d, e, z, rs, rd, re, hz, q⟩
  unfold opS at hz
  split at hz
  · rename_i hsc
    simp only [op2] at hz
    unfold addO at hz
    split at hz
    · cases hz
      rw [rd.int] at rx; rw [re.int] at ry
      exact iop_add pins s σ H _ _ v u Q I rx ry ⟨_, _, rfl, rfl, q _ H rs (Kw.refl _ _) (.int _)⟩
    · rename_i s1 s2
      split at hz
      · rename_i hl
        cases hz
        rw [rd.str] at rx; rw [re.str] at ry
        refine iop_add_str pins s σ H _ _ v u Q I rx ry ⟨_, _, rfl, rfl, ?_, ?_⟩
        · simp only [cps, Str.length, List.size_toArray]; rw [← cap_eq]; exact hl
        · have e1 : cps s1 ++ cps s2 = cps (s1 ++ s2) := by simp only [cps, HAppend.hAppend, Append.append]; simp [Str.append]
          rw [e1]
          exact q _ H rs (Kw.refl _ _) (.str _)
      · cases hz
    · simp [scalar] at hsc
    · simp [scalar] at hsc
    · cases hz
  · cases hz
theorem o_isub : OpR X (inplaceOp .Sub) (rB X.K (opS .sub)) := by
  intro pins s σ H x y v u Q I rx ry ⟨F, Av, ρ, o, σ', d, e, z, rs, rd, re, hz, q⟩
  unfold opS at hz
  split at hz
  · simp only [op2] at hz
    split at hz
    · cases hz
      rw [rd.int] at rx; rw [re.int] at ry
      exact iop_sub pins s σ H _ _ v u Q I rx ry ⟨_, _, rfl, rfl, q _ H rs (Kw.refl _ _) (.int _)⟩
    · cases hz
  · cases hz
/-- a statement that is an expression -/
theorem bs_ex (he : BE X g W e ie) (hs : swapsWith e none pos.line X.env = pure false := by rfl) : BS X g W (.Expr e pos) (.ex ie) := by
  refine psW (ps_expr he hs) fun D σ H ⟨F, Av, ρ, o, rs, q⟩ => ⟨F, Av, ρ, o, rs, ?_⟩
  rw [evSs_one, evS] at q
  exact (goR.out rs q).mono fun v H1 ⟨d, o1, e1, rs1, k1, r1, q1⟩ => q1 Av σ H1 rs1 Cv.refl
theorem cv_av0 {K : PySem.W.Frag} {F : Fr} {Av : Addr → Prop} {ρ : Env} {o : Or} {σ : L2.St} {H : Hp} (rs : RS K F Av ρ o σ H) : Cv Av F.Av0 H H := fun a u h n => ⟨h, fun z => n (rs.av0 a z)⟩
theorem RS.orc0 {K : PySem.W.Frag} {F : Fr} {Av : Addr → Prop} {ρ : Env} {o : Or} {σ : L2.St} {H : Hp} (rs : RS K F Av ρ o σ H) : Orc K F.Av0 F.wa F.da o H := rs.orc.cv (cv_av0 rs) fun _ _ _ e => e
theorem bs_ret (he : BE X g W e ie) : BS X g W (.Return (some e) pos) (.ret ie) := by
  refine psW (ps_ret he) fun D σ H ⟨F, Av, ρ, o, rs, q⟩ => ⟨F, Av, ρ, o, rs, ?_⟩
  rw [evSs_one, evS] at q
  exact (goR.out rs q).mono fun v H1 ⟨d, o1, e1, rs1, k1, r1, q1⟩ => q1 v H1 rs1.keep rs1.orc0 (r1.cv (cv_av0 rs1))
theorem bs_pass : BS X g W (.Pass pos) .pass := psW ps_pass fun D σ H ⟨F, Av, ρ, o, rs, q⟩ => by
  rw [evSs_one, evS] at q
  exact q Av σ H rs Cv.refl
theorem bs_brk : BS X g W (.Break pos) .brk := psW ps_break fun D σ H ⟨F, Av, ρ, o, rs, q⟩ => by
  rw [evSs_one, evS] at q
  exact q Av σ H rs Cv.refl
theorem bs_cont : BS X g W (.Continue pos) .cont := psW ps_continue fun D σ H ⟨F, Av, ρ, o, rs, q⟩ => by
  rw [evSs_one, evS] at q
  exact q Av σ H rs Cv.refl

/-! ### if, while, for -/
/-- a test, then a statement's work -/
theorem goR.outT {K : PySem.W.Frag} {F : Fr} {Av : Addr → Prop} {H : Hp} {D : Ends} {ρ : Env} {o : Or} {σ : L2.St} {r : R BV.D} {f1 f2 : Or → Out} (rs : RS K F Av ρ o σ H)
    (h : goS K g W F Av H D (r.out ρ fun x o => match truth x with | some true => f1 o | some false => f2 o | none => .no)) :
    goR K g W F Av ρ σ (fun (b d : Bool) _ => b = d) H r.tst (fun b H1 => ∃ o1, RS K F Av ρ o1 σ H1 ∧ Kw F.wa H H1 ∧ goS K g W F Av H1 D (if b then f1 o1 else f2 o1)) := by
  cases r with
  | no => exact h
  | exc c d o1 => exact fun cls dx H1 a b x => h Av cls dx σ H1 a (Cv.kw b rs) x
  | ok d o1 =>
    simp only [BV.R.out_ok] at h
    simp only [BV.R.tst, BV.R.test, BV.R.bind_ok]
    cases t : truth d with
    | none => rw [t] at h; exact h.elim
    | some b =>
      rw [t] at h
      rintro b' H1 rs1 k1 rfl
      refine ⟨o1, rs1, k1, ?_⟩
      cases b' with
      | true => exact goS.later h (Cv.kw k1 rs)
      | false => exact goS.later h (Cv.kw k1 rs)
theorem bs_ifs {sts' : List Stmt} (hc : BT X g W c ic) (ha : BSs X g W sts is) (hb : BSs X g W sts' js) : BS X g W (.If c sts sts' pos) (.ifs ic is js) := by
  refine psW (ps_if hc ha hb) fun D σ H ⟨F, Av, ρ, o, rs, q⟩ => ⟨F, Av, ρ, o, rs, ?_⟩
  rw [evSs_one, evS] at q
  refine (goR.outT rs q).mono fun b H1 ⟨o1, rs1, k1, q1⟩ => ?_
  cases b with
  | true => exact ⟨F, Av, ρ, o1, rs1, q1⟩
  | false => exact ⟨F, Av, ρ, o1, rs1, q1⟩
/-- what is wanted behind a turn: all that follows -/
def nF (K : PySem.W.Frag) (g : Pg) (W : WX) (F : Fr) (Av : Addr → Prop) (H : Hp) (D : Ends) (f : Env → Or → Out) : L2.St → Hp → Prop := fun σ' H' => ∃ Av' ρ o, RS K F Av' ρ o σ' H' ∧ Cv Av Av' H H' ∧ goS K g W F Av' H' D (f ρ o)
theorem goS.turn {K : PySem.W.Frag} {F : Fr} {Av : Addr → Prop} {H : Hp} {D : Ends} {r : Out} {f : Env → Or → Out} (h : goS K g W F Av H D (r.turn f)) :
    goS K g W F Av H { D with nx := nF K g W F Av H D f, ct := nF K g W F Av H D f, bk := D.nx } r := by
  cases r with
  | nx ρ o => exact fun A σ H2 a b => ⟨A, ρ, o, a, b, goS.later h b⟩
  | ct ρ o => exact fun A σ H2 a b => ⟨A, ρ, o, a, b, goS.later h b⟩
  | bk ρ o => exact h
  | rt d o => exact h
  | xc k d ρ o => exact h
  | no => exact h
theorem goS.turnC {K : PySem.W.Frag} {F : Fr} {Av Av0 : Addr → Prop} {H H0 : Hp} {D : Ends} {r : Out} {f : Env → Or → Out} (h : goS K g W F Av H D (r.turn f)) (c : Cv Av0 Av H0 H) :
    goS K g W F Av H { D with nx := nF K g W F Av0 H0 D f, ct := nF K g W F Av0 H0 D f, bk := D.nx } r := by
  cases r with
  | nx ρ o => exact fun A σ H2 a b => ⟨A, ρ, o, a, c.trans b, goS.later h b⟩
  | ct ρ o => exact fun A σ H2 a b => ⟨A, ρ, o, a, c.trans b, goS.later h b⟩
  | bk ρ o => exact h
  | rt d o => exact h
  | xc k d ρ o => exact h
  | no => exact h
theorem bs_whl {n : Nat} (hp : PassesOwn (model X.prog X.w) X.A X.env X.xe) (hc : BT X g W c ic) (hb : BSs X g W sts is) : BS X g W (.While c sts [] pos) (.whl n ic is) := by
  refine psW (ps_while hp hc hb) fun D σ H ⟨F, Av, ρ, o, rs, q⟩ => ?_
  rw [evSs_one, evS] at q
  refine ⟨fun m σ H => ∃ F Av ρ o, RS X.K F Av ρ o σ H ∧ goS X.K g W F Av H D (whileM (fun ρ o => evE g.C ic ρ o) (fun ρ o => evSs g.C is ρ o) m ρ o), ⟨n, F, Av, ρ, o, rs, q⟩, ?_⟩
  rintro m σ H ⟨F, Av, ρ, o, rs, q⟩
  cases m with
  | zero => exact q.elim
  | succ m =>
    rw [whileM] at q
    refine ⟨F, Av, ρ, o, rs, ?_⟩
    have q' : goS X.K g W F Av H D ((evE g.C ic ρ o).out ρ fun x o => match truth x with
        | some true => (fun o => (evSs g.C is ρ o).turn fun ρ o => whileM (fun ρ o => evE g.C ic ρ o) (fun ρ o => evSs g.C is ρ o) m ρ o) o
        | some false => (fun o => Out.nx ρ o) o
        | none => .no) := q
    refine (goR.outT rs q').mono fun b H1 ⟨o1, rs1, k1, q1⟩ => ?_
    cases b with
    | true =>
      simp only [if_true] at q1 ⊢
      exact ⟨nF X.K g W F Av H1 D (fun ρ o => whileM (fun ρ o => evE g.C ic ρ o) (fun ρ o => evSs g.C is ρ o) m ρ o),
        fun σ' H' ⟨Av', ρ', o', a, _, b⟩ => ⟨m, Nat.lt_succ_self m, F, Av', ρ', o', a, b⟩, F, Av, ρ, o1, rs1, q1.turn⟩
    | false =>
      simp only [Bool.false_eq_true, if_false] at q1 ⊢
      exact q1 Av σ H1 rs1 Cv.refl
/-- a turn of a for -/
def turnF (C : Nat → List D → Or → R D) (p : IP) (is : List IS) : D → Env → Or → Out := fun x ρ o => match bindP p x ρ with
  | none => .no
  | some ρ => evSs C is ρ o
theorem evS_for {C : Nat → List D → Or → R D} {p : IP} {s : IE} {is : List IS} {ρ : Env} {o : Or} : evS C (.for_ p s is) ρ o = (evE C s ρ o).seq.out ρ fun xs o => forM (turnF C p is) xs ρ o := by
  rw [evS]; rfl
theorem bs_for (hp : PassesOwn (model X.prog X.w) X.A X.env X.xe) (hc : X.calm = true) (hi : BI X g W false tg iter il) (hg : BG X tg p) (hb : BSs X g W sts is) (hs : ∀ x, foldedSetIterable iter X.env x = pure x := by intro _; rfl) :
    BS X g W (.For tg iter sts [] pos) (.for_ p il is) := by
  refine psW (ps_for hp hc hi hg hb hs) fun D σ H ⟨F, Av, ρ, o, rs, q⟩ => ⟨F, Av, ρ, o, rs, ?_⟩
  rw [evSs_one, evS_for] at q
  refine (goR.out rs q).mono fun J H1 ⟨xs, o1, e1, rs1, k1, it, q1⟩ => ?_
  refine ⟨fun i m σ H => m = xs.length - i ∧ i ≤ xs.length ∧ nF X.K g W F Av H1 D (forM (turnF g.C p is) (xs.drop i)) σ H, ⟨xs.length, rfl, Nat.zero_le _, Av, ρ, o1, rs1, Cv.refl, q1⟩, ?_⟩
  rintro i m σ H ⟨rfl, hi, Av', ρ', o', rs', cv, q'⟩
  obtain ⟨hst, hgo⟩ := it.2 Av' H cv (fun z => nomatch z) rs'.there
  by_cases hlt : i < xs.length
  · obtain ⟨hg1, hy1⟩ := hgo i hlt
    have hdrop : xs.drop i = xs[i] :: xs.drop (i + 1) := List.drop_eq_getElem_cons hlt
    rw [hdrop, forM] at q'
    refine .inr ⟨hg1, nF X.K g W F Av H1 D (forM (turnF g.C p is) (xs.drop (i + 1))), fun σ' H' h => ⟨xs.length - (i + 1), by omega, rfl, hlt, h⟩, fun x H' hy => ?_⟩
    obtain ⟨hgrow, d, hd, rx⟩ := hy1 x H' hy
    have hxd : xs[i] = d := by
      rw [List.getElem?_eq_getElem hlt] at hd
      exact Option.some.inj hd
    have c' : Cv Av' Av' H H' := by
      rcases hgrow with rfl | ⟨p', u, hp, rfl⟩
      · exact Cv.refl
      · exact cv_alloc hp
    have rs2 : RS X.K F Av' ρ' o' σ H' := by
      rcases hgrow with rfl | ⟨p', u, hp, rfl⟩
      · exact rs'
      · exact rs'.alloc hp
    rw [hxd] at q'
    unfold turnF at q'
    cases hbp : bindP p d ρ' with
    | none => rw [hbp] at q'; exact q'.elim
    | some ρ2 =>
      rw [hbp] at q'
      exact gI_ok p rs2 rx hbp fun σ2 rs3 _ => ⟨F, Av', ρ2, o', rs3, (goS.later q' c').turnC (cv.trans c')⟩
  · have hie : i = xs.length := by omega
    subst hie
    rw [List.drop_length, forM] at q'
    exact .inl ⟨hst, q' Av' σ H rs' Cv.refl⟩
end
end BV

end
/-! text: BV11.lean -/
section
set_option maxRecDepth 100000
set_option autoImplicit false
set_option maxHeartbeats 4000000
namespace BV
open PySem PySem.Spec PyProof.Rows L2

/-! ### defs by the evaluator -/
def SpI (K : PySem.W.Frag) (g : Pg) (n f : Nat) : Sp := fun vs H Q E => ∃ (wa : Option Addr) (da : Addr × Bool) (Av : Addr → Prop) (ds : List D) (o : Or), Reps K wa Av H vs ds ∧ Orc K Av wa da o H ∧ (∀ a, wa = some a → Av a) ∧ (∀ a, Av a → H a ≠ none) ∧ ds.length = n ∧ (match g.C f ds o with
  | .ok d o' => ∀ v H', Kw wa H H' → Orc K Av wa da o' H' → Rep K wa Av H' v d → Q v H'
  | .exc c d o' => ∀ cls dx H', Kw wa H H' → Orc K Av wa da o' H' → g.XP c d cls dx H' → E cls dx H'
  | .no => False)
section
variable {X : Cx} {g : Pg} {W : WX} {e a b : Expr} {es : List Expr} {ie ia ib : IE} {is : List IE} {pos p : Pos}
theorem be_call {k : Nat} {ad : Addr} {fd : FuncData} {ps : List Str} {n f : Nat} {x : Str} (F : FnOk X.prog X.w X.K X.mg X.base (L2.CX X.prog X.w) k ad fd ps (SpI X.K g n f)) (hr : Room k X.A) (hg : Gl X x) (hm : X.mg x = some (.ref ad)) (hk : PySem.W.keepIn X.K (.ref ad) = true) (hb : Binds X.K fd ps [])
    (tk : Takes X W) (ha : BA X g W (e :: es) is) (hn : is.length = n := by rfl) (hdb : (x == ("__debug__" : Str)) = false := by decide) (he : starEach (e :: es) X.env = (false, eval e X.env) :: starEach es X.env := by rfl) (hpl : (backTo pos (starEach es X.env)).any (·.1) = false := by rfl) :
    BE X g W (.Call (.Name x p) (e :: es) [] pos) (.call f is) := by
  refine peW (pe_callS (E := WE W) F hr hg hm hk hb (passAt tk) ha hdb he hpl) fun σ H Q ⟨F, Av, ρ, o, rs, q⟩ => ⟨F, Av, ρ, o, rs, ?_⟩
  rw [evE] at q
  refine q.bind.mono fun vs H1 ⟨ds, o1, e1, rs1, k1, r1, q1⟩ => ?_
  refine ⟨F.wa, F.da, Av, ds, o1, r1, rs1.orc, rs1.waav, rs1.there, by rw [evEs_length e1]; exact hn, ?_⟩
  cases e2 : g.C f ds o1 with
  | no => rw [e2] at q1; exact q1
  | exc c d o2 => rw [e2] at q1; exact fun cls dx H' k oc x => q1 cls dx H' (rs1.kw k oc) k x
  | ok d o2 => rw [e2] at q1; exact fun v H' k oc r => q1 v H' (rs1.kw k oc) k r
/-- .. whose outcome is a number, a text, None: the arguments may be slots' own lists -/
theorem scalar_rep {K : PySem.W.Frag} {wa : Option Addr} {Av Av' : Addr → Prop} {H H' : Hp} {v : V} {d : D} (h : scalar d = true) (r : Rep K wa Av H v d) : Rep K wa Av' H' v d := by
  cases r <;> first
    | (simp [scalar] at h; done)
    | constructor
theorem be_callB {k : Nat} {ad : Addr} {fd : FuncData} {ps : List Str} {n f : Nat} {x : Str} (F : FnOk X.prog X.w X.K X.mg X.base (L2.CX X.prog X.w) k ad fd ps (SpI X.K g n f)) (hr : Room k X.A) (hg : Gl X x) (hm : X.mg x = some (.ref ad)) (hk : PySem.W.keepIn X.K (.ref ad) = true) (hb : Binds X.K fd ps [])
    (tk : Takes X W) (ha : BAB X g W (e :: es) is) (hn : is.length = n := by rfl) (hdb : (x == ("__debug__" : Str)) = false := by decide) (he : starEach (e :: es) X.env = (false, eval e X.env) :: starEach es X.env := by rfl) (hpl : (backTo pos (starEach es X.env)).any (·.1) = false := by rfl) :
    BE X g W (.Call (.Name x p) (e :: es) [] pos) (.callS f is) := by
  refine peW (pe_callS (E := WE W) F hr hg hm hk hb (passAt tk) ha hdb he hpl) fun σ H Q ⟨F, Av, ρ, o, rs, q⟩ => ⟨F, Av, ρ, o, rs, ?_⟩
  rw [evE] at q
  refine q.bind.mono fun vs H1 ⟨ds, o1, e1, rs1, k1, r1, q1⟩ => ?_
  have sub : ∀ {vs : List V} {ds : List D}, Paired (RepB X.K F.wa Av H1) vs ds → Reps X.K F.wa (fun a => F.wa = some a) H1 vs ds := by
    intro vs ds r
    have c : Cv Av (fun a => F.wa = some a) H1 H1 := fun a u e n => ⟨e, fun z => n (rs1.waav a z)⟩
    induction r with
    | nil => exact .nil
    | cons r _ ih =>
      refine .cons ?_ ih
      rcases r with r | ⟨a, ws, xs, rfl, rfl, h, q, av, nw⟩
      · exact r.cv c
      · exact .lst (.inl ⟨.inl h, nw⟩) (q.cv c)
  have oc1 : Orc X.K (fun a => F.wa = some a) F.wa F.da o1 H1 := rs1.orc.cv (fun a u e n => ⟨e, fun z => n (rs1.waav a z)⟩) fun _ _ _ e => e
  refine ⟨F.wa, F.da, fun a => F.wa = some a, ds, o1, sub r1, oc1, fun _ h => h, fun a h => rs1.there a (rs1.waav a h), by rw [evEs_length e1]; exact hn, ?_⟩
  have back : ∀ {o2 : Or} {H' : Hp}, Kw F.wa H1 H' → Orc X.K (fun a => F.wa = some a) F.wa F.da o2 H' → RS X.K F Av ρ o2 σ H' := by
    intro o2 H' k oc
    refine rs1.kw k ?_
    have h := rs1.orc
    revert h oc
    cases e : F.wa with
    | none => exact fun _ _ => trivial
    | some a =>
      rintro ⟨n, ds, h1, h2, h3⟩ ⟨m, es, h5, h6, _⟩
      refine ⟨n, ds, h1, ?_, h3⟩
      unfold DaA at h2 h6 ⊢
      split at h2
      · rename_i e; rw [if_pos e]; exact h2
      · rename_i e; rw [if_neg e]; rw [if_neg e] at h6; exact ⟨h2.1, h6.2⟩
  cases e2 : g.C f ds o1 with
  | no => rw [e2] at q1; exact q1
  | exc c d o2 => rw [e2] at q1; exact fun cls dx H' k oc x => q1 cls dx H' (back k oc) k x
  | ok d o2 =>
    rw [e2] at q1
    simp only [BV.R.bind_ok] at q1
    intro v H' k oc r
    split at q1
    · rename_i hs
      exact q1 v H' (back k oc) k (scalar_rep hs r)
    · exact q1.elim
end
end BV

end
/-! text: BV12.lean -/
section
set_option maxRecDepth 100000
set_option autoImplicit false
set_option maxHeartbeats 4000000
namespace BV
open PySem PySem.Spec PyProof.Rows L2

/-! ### built-in functions -/
/-- a call does what f does on what the arguments stand for -/
def rC (K : PySem.W.Frag) (f : List D → Option D) : List V → Hp → VK → Prop := fun vs H Q => ∃ F Av ρ o σ ds z, RS K F Av ρ o σ H ∧ Paired (RepB K F.wa Av H) vs ds ∧ f ds = some z ∧
  ∀ w H', RS K F Av ρ o σ H' → Kw F.wa H H' → Rep K F.wa Av H' w z → Q w H'
section
variable {X : Cx} {g : Pg} {W : WX} {e a b : Expr} {es : List Expr} {ie ia ib : IE} {is : List IE} {pos p : Pos} {bi : Bi}
theorem bi_read {σ : L2.St} {H : Hp} {Q : VK} (h : tI X.K g W (.bi bi is) σ H Q) : tCB (rC X.K (biF bi)) (tIBs X.K g W is) σ H Q := by
  obtain ⟨F, Av, ρ, o, rs, q⟩ := h
  rw [evE] at q
  refine ⟨F, Av, ρ, o, rs, q.bind.mono fun vs H1 ⟨ds, o1, e1, rs1, k1, r1, q1⟩ => ?_⟩
  obtain ⟨z, hz, q2⟩ := goR_of q1
  exact ⟨F, Av, ρ, o1, σ, ds, z, rs1, r1, hz, q2⟩
theorem be_bi {id : String} {x : Str} (hc : CallR X (.builtin id) (rC X.K (biF bi))) (hg : Gl X x) (hm : X.mg x = none) (hv : bootBuiltins x = some (.builtin id)) (ha : BAB X g W (e :: es) is) (hn : x ≠ "__name__" := by decide) (hdb : (x == ("__debug__" : Str)) = false := by decide)
    (he : starEach (e :: es) X.env = (false, eval e X.env) :: starEach es X.env := by rfl) (hpl : (backTo pos (starEach es X.env)).any (·.1) = false := by rfl) : BE X g W (.Call (.Name x p) (e :: es) [] pos) (.bi bi is) :=
  peW (pe_callB hc hg hm hv ha hn hdb he hpl) fun _ _ _ h => bi_read h
theorem be_ty {T : String} {x : Str} (hc : CallR X (.type T) (rC X.K (biF bi))) (hg : Gl X x) (hm : X.mg x = none) (hv : bootBuiltins x = some (.type T)) (ha : BAB X g W (e :: es) is) (hn : x ≠ "__name__" := by decide) (hdb : (x == ("__debug__" : Str)) = false := by decide)
    (he : starEach (e :: es) X.env = (false, eval e X.env) :: starEach es X.env := by rfl) (hpl : (backTo pos (starEach es X.env)).any (·.1) = false := by rfl) : BE X g W (.Call (.Name x p) (e :: es) [] pos) (.bi bi is) :=
  peW (pe_callTy hc hg hm hv ha hn hdb he hpl) fun _ _ _ h => bi_read h
theorem rep1 {f : D → Option D} {ds : List D} {z : D} (h : un1 f ds = some z) : ∃ d, ds = [d] ∧ f d = some z := by
  match ds, h with
  | [d], h => exact ⟨d, rfl, h⟩
theorem rep2 {f : D → D → Option D} {ds : List D} {z : D} (h : un2 f ds = some z) : ∃ d e, ds = [d, e] ∧ f d e = some z := by
  match ds, h with
  | [d, e], h => exact ⟨d, e, rfl, h⟩
theorem prd1 {P : V → D → Prop} {vs : List V} {d : D} (r : Paired P vs [d]) : ∃ v, vs = [v] ∧ P v d := by
  cases r with
  | cons h t => cases t; exact ⟨_, rfl, h⟩
theorem prd2 {P : V → D → Prop} {vs : List V} {d e : D} (r : Paired P vs [d, e]) : ∃ v w, vs = [v, w] ∧ P v d ∧ P w e := by
  cases r with
  | cons h t =>
    obtain ⟨w, rfl, h2⟩ := prd1 t
    exact ⟨_, w, rfl, h, h2⟩
theorem c_len : CallR X (.builtin "len") (rC X.K (biF .len)) := by
  intro pins s σ H xs us Q I r ⟨F, Av, ρ, o, σ', ds, z, rs, rp, hz, q⟩
  obtain ⟨d, hds, hz2⟩ := rep1 (f := lenO) hz
  clear hz; subst hds; have hz := hz2; clear hz2
  obtain ⟨v, rfl, r1⟩ := prd1 rp
  unfold lenO at hz
  split at hz
  · cases hz
    obtain ⟨a, vs, rfl, h1, r2⟩ := r1.tup
    refine call_len pins s σ H _ us Q I r ⟨_, _, rfl, .inr ⟨vs, h1.sq, rfl⟩, ?_⟩
    rw [r2.length]
    exact q _ H rs (Kw.refl _ _) (.int _)
  · cases hz
    obtain ⟨a, vs, rfl, h1, r2⟩ := r1.lst
    refine call_len pins s σ H _ us Q I r ⟨_, _, rfl, .inl ⟨vs, h1, rfl⟩, ?_⟩
    rw [r2.length]
    exact q _ H rs (Kw.refl _ _) (.int _)
  · rename_i st
    split at hz
    · rename_i hl
      cases hz
      rw [r1.str] at r
      refine call_len pins s σ H _ us Q I r ⟨_, st.length, rfl, ⟨by simp only [cps, Str.length, List.size_toArray]; rw [← cap_eq]; exact hl, by simp [cps, Str.length]⟩, q _ H rs (Kw.refl _ _) (.int _)⟩
    · cases hz
  · rcases r1 with r1 | ⟨_, _, _, _, e, _⟩
    · cases r1
    · cases e
  · cases hz
theorem c_abs : CallR X (.builtin "abs") (rC X.K (biF .abs)) := by
  intro pins s σ H xs us Q I r ⟨F, Av, ρ, o, σ', ds, z, rs, rp, hz, q⟩
  obtain ⟨d, hds, hz2⟩ := rep1 (f := absO) hz
  clear hz; subst hds; have hz := hz2; clear hz2
  obtain ⟨v, rfl, r1⟩ := prd1 rp
  unfold absO at hz
  split at hz
  · cases hz
    rw [r1.int] at r
    exact call_abs pins s σ H _ us Q I r ⟨_, rfl, q _ H rs (Kw.refl _ _) (.int _)⟩
  · cases hz
theorem c_int : CallR X (.type "int") (rC X.K (biF .int)) := by
  intro pins s σ H xs us Q I r ⟨F, Av, ρ, o, σ', ds, z, rs, rp, hz, q⟩
  obtain ⟨d, hds, hz2⟩ := rep1 (f := intO) hz
  clear hz; subst hds; have hz := hz2; clear hz2
  obtain ⟨v, rfl, r1⟩ := prd1 rp
  unfold intO at hz
  split at hz
  · cases hz
    rw [r1.int] at r
    exact call_int1 pins s σ H _ us Q I r (.inl ⟨_, rfl, q _ H rs (Kw.refl _ _) (.int _)⟩)
  · cases hz
theorem c_min2 (hc : X.calm = true) : CallR X (.builtin "min") (rC X.K (biF .min2)) := by
  intro pins s σ H xs us Q I r ⟨F, Av, ρ, o, σ', ds, z, rs, rp, hz, q⟩
  obtain ⟨d, e, hds, hz2⟩ := rep2 (f := min2O) hz
  clear hz; subst hds; have hz := hz2; clear hz2
  obtain ⟨v, w, rfl, r1, r2⟩ := prd2 rp
  unfold min2O at hz
  split at hz
  · cases hz
    rw [r1.int, r2.int] at r
    exact call_min2 hc pins s σ H _ us Q I r ⟨_, _, rfl, q _ H rs (Kw.refl _ _) (.int _)⟩
  · cases hz
theorem c_max2 (hc : X.calm = true) : CallR X (.builtin "max") (rC X.K (biF .max2)) := by
  intro pins s σ H xs us Q I r ⟨F, Av, ρ, o, σ', ds, z, rs, rp, hz, q⟩
  obtain ⟨d, e, hds, hz2⟩ := rep2 (f := max2O) hz
  clear hz; subst hds; have hz := hz2; clear hz2
  obtain ⟨v, w, rfl, r1, r2⟩ := prd2 rp
  unfold max2O at hz
  split at hz
  · cases hz
    rw [r1.int, r2.int] at r
    exact call_max2 hc pins s σ H _ us Q I r ⟨_, _, rfl, q _ H rs (Kw.refl _ _) (.int _)⟩
  · cases hz
theorem minL_spec : ∀ (l : List Int), l ≠ [] → minL l ∈ l ∧ ∀ y ∈ l, minL l ≤ y
  | [], h => absurd rfl h
  | [a], _ => ⟨by simp [minL], fun y hy => by simp at hy; subst hy; simp [minL]⟩
  | a :: b :: r, _ => by
    obtain ⟨h1, h2⟩ := minL_spec (b :: r) (by simp)
    have e : minL (a :: b :: r) = if minL (b :: r) < a then minL (b :: r) else a := rfl
    rw [e]
    split
    · rename_i c
      refine ⟨List.mem_cons_of_mem _ h1, fun y hy => ?_⟩
      rcases List.mem_cons.mp hy with rfl | hy
      · omega
      · exact h2 y hy
    · rename_i c
      refine ⟨List.mem_cons_self, fun y hy => ?_⟩
      rcases List.mem_cons.mp hy with rfl | hy
      · omega
      · have := h2 y hy
        omega
theorem maxL_spec : ∀ (l : List Int), l ≠ [] → maxL l ∈ l ∧ ∀ y ∈ l, y ≤ maxL l
  | [], h => absurd rfl h
  | [a], _ => ⟨by simp [maxL], fun y hy => by simp at hy; subst hy; simp [maxL]⟩
  | a :: b :: r, _ => by
    obtain ⟨h1, h2⟩ := maxL_spec (b :: r) (by simp)
    have e : maxL (a :: b :: r) = if a < maxL (b :: r) then maxL (b :: r) else a := rfl
    rw [e]
    split
    · rename_i c
      refine ⟨List.mem_cons_of_mem _ h1, fun y hy => ?_⟩
      rcases List.mem_cons.mp hy with rfl | hy
      · omega
      · exact h2 y hy
    · rename_i c
      refine ⟨List.mem_cons_self, fun y hy => ?_⟩
      rcases List.mem_cons.mp hy with rfl | hy
      · omega
      · have := h2 y hy
        omega
theorem lstO_some {d : D} {ys : List D} (h : lstO d = some ys) : d = .lst ys := by
  cases d <;> simp [lstO] at h
  rw [h]
theorem c_min1 (hc : X.calm = true) : CallR X (.builtin "min") (rC X.K (biF .min1)) := by
  intro pins s σ H xs us Q I r ⟨F, Av, ρ, o, σ', ds, z, rs, rp, hz, q⟩
  obtain ⟨d, hds, hz2⟩ := rep1 (f := min1O) hz
  clear hz; subst hds; have hz := hz2; clear hz2
  obtain ⟨v, rfl, r1⟩ := prd1 rp
  unfold min1O at hz
  cases e1 : lstO d with
  | none => rw [e1] at hz; cases hz
  | some ys =>
    have := lstO_some e1
    subst this
    simp only [lstO, Option.bind_some] at hz
    cases e2 : intsO ys with
    | none => rw [e2] at hz; cases hz
    | some ns =>
      rw [e2] at hz
      cases ns with
      | nil => cases hz
      | cons n ns =>
        cases hz
        obtain ⟨a, vs, rfl, h1, r2⟩ := r1.lst
        rw [r2.ints e2] at h1
        refine cr_min hc pins s σ H _ us Q I r ⟨a, n :: ns, rfl, h1, by simp, fun m hm hle => ?_⟩
        obtain ⟨m1, m2⟩ := minL_spec (n :: ns) (by simp)
        have : m = minL (n :: ns) := by
          have := hle _ m1
          have := m2 _ hm
          omega
        subst this
        exact q _ H rs (Kw.refl _ _) (.int _)
theorem c_max1 (hc : X.calm = true) : CallR X (.builtin "max") (rC X.K (biF .max1)) := by
  intro pins s σ H xs us Q I r ⟨F, Av, ρ, o, σ', ds, z, rs, rp, hz, q⟩
  obtain ⟨d, hds, hz2⟩ := rep1 (f := max1O) hz
  clear hz; subst hds; have hz := hz2; clear hz2
  obtain ⟨v, rfl, r1⟩ := prd1 rp
  unfold max1O at hz
  cases e1 : lstO d with
  | none => rw [e1] at hz; cases hz
  | some ys =>
    have := lstO_some e1
    subst this
    simp only [lstO, Option.bind_some] at hz
    cases e2 : intsO ys with
    | none => rw [e2] at hz; cases hz
    | some ns =>
      rw [e2] at hz
      cases ns with
      | nil => cases hz
      | cons n ns =>
        cases hz
        obtain ⟨a, vs, rfl, h1, r2⟩ := r1.lst
        rw [r2.ints e2] at h1
        refine cr_max hc pins s σ H _ us Q I r ⟨a, n :: ns, rfl, h1, by simp, fun m hm hle => ?_⟩
        obtain ⟨m1, m2⟩ := maxL_spec (n :: ns) (by simp)
        have : m = maxL (n :: ns) := by
          have := hle _ m1
          have := m2 _ hm
          omega
        subst this
        exact q _ H rs (Kw.refl _ _) (.int _)
/-- sum of a tuple -/
theorem iter_tupI {prog : Program} {w : World} {A : Around} {E : Value → Shared → Prop} {s : Shared} {l : Addr} {items : Array Value} {Q : Value → Shared → Prop} (hl : s.heap.IsTuple l items)
    (h : ∀ s₂ : Shared, s₂ = { s with heap := s.heap.push { cls := .type "tuple_iterator", data := .fields #[.ref l, .int 0 0] } } →
      (s₂.heap.IsTupleIter s.heap.objs.size l 0 ∧ s₂.heap.IsTuple l items) → (∀ b ∈ [s.heap.objs.size, l], b < s₂.heap.objs.size) → l ≠ s.heap.objs.size → Q (.ref s.heap.objs.size) s₂) : wpAny (model prog w) A (pyIter (.ref l)) Q E s := by
  have hlt : l < s.heap.objs.size := by obtain ⟨_, e, _⟩ := hl; exact Heap.lt_size e
  refine wpAny_pyIter_tuple hl (h _ rfl ⟨⟨_, Heap.get?_push_size _ rfl, rfl, rfl⟩, hl.at fun o e => Heap.get?_push_of_some _ e⟩ (fun b hb => ?_) (Nat.ne_of_lt hlt))
  show b < (s.heap.push _).objs.size
  rw [Heap.size_push]
  rcases List.mem_cons.mp hb with rfl | hb
  · exact Nat.lt_succ_self _
  · rcases List.mem_cons.mp hb with rfl | hb
    · exact Nat.lt_succ_of_lt hlt
    · cases hb
theorem sum_rawT {prog : Program} {w : World} {A : Around} {E : Value → Shared → Prop} {s : Shared} {l : Addr} {its : List Value} {ns : List Int} {Q : Value → Shared → Prop} (hh : A.handled = none) (hl : s.heap.IsTuple l its.toArray) (hi : IntsAre its ns)
    (h : ∀ h' tk t', (∀ b o, s.heap.get? b = some o → h'.get? b = some o) → Q (.int ns.sum t') { s with heap := h', toks := tk }) : wpAny (model prog w) A (call (.builtin "sum") [.ref l]) Q E s := by
  obtain ⟨xs, e⟩ := hi.allInts.items
  have hn : numsOf (intItems xs).toList = ns := by rw [← e]; exact hi.numsOf
  rw [nums_intItems] at hn
  rw [e] at hl
  refine call_sum_walkG (iter_tupI hl fun s₂ e2 st hfp hlI => ?_)
  subst e2
  refine ⟨_, _, _, _, _, _, numAt xs, rfl, Walks.tuple (A := A.in1) hh _ l hlI (intItems xs), st, hfp, (fun _ _ => intItems_at), fun h' tk t' hk => ?_⟩
  have hk2 : ∀ b o, s.heap.get? b = some o → h'.get? b = some o := fun b o e => by
    refine hk b o (fun hm => ?_) (Heap.get?_push_of_some _ e)
    rcases List.mem_cons.mp hm with e1 | hm
    · exact absurd (e1 ▸ Heap.lt_size e) (Nat.lt_irrefl _)
    · cases hm
  have := h h' tk t' hk2
  have e3 : preSum (numAt xs) (intItems xs).size = ns.sum := by
    rw [preSum_eq]
    have : (intItems xs).size = xs.size := by simp [intItems]
    rw [this, List.take_of_length_le (by simp), hn]
  rw [e3]
  exact this
theorem c_sum (hc : X.calm = true) : CallR X (.builtin "sum") (rC X.K (biF .sum)) := by
  intro pins s σ H xs us Q I r ⟨F, Av, ρ, o, σ', ds, z, rs, rp, hz, q⟩
  obtain ⟨d, hds, hz2⟩ := rep1 (f := sumO) hz
  clear hz; subst hds; have hz := hz2; clear hz2
  obtain ⟨v, rfl, r1⟩ := prd1 rp
  unfold sumO at hz
  cases d <;> simp only [seqO, Option.bind_none, Option.map_none, reduceCtorEq, Option.bind_some] at hz
  · rename_i ys
    cases e2 : intsO ys with
    | none => rw [e2] at hz; cases hz
    | some ns =>
      rw [e2] at hz
      cases hz
      obtain ⟨a, vs, rfl, h1, r2⟩ := r1.tup
      have h1' := h1.sq
      rw [r2.ints e2] at h1'
      obtain ⟨its, rv, hl, _⟩ := I.tuple h1'
      rw [Vals.ref1 r]
      exact sum_rawT (I.ok.hd hc) hl rv.ints fun h' tk t' hk => ⟨.int _, H, I.kept hk, ⟨_, rfl⟩, q _ H rs (Kw.refl _ _) (.int _)⟩
  · rename_i ys
    cases e2 : intsO ys with
    | none => rw [e2] at hz; cases hz
    | some ns =>
      rw [e2] at hz
      cases hz
      obtain ⟨a, vs, rfl, h1, r2⟩ := r1.lst
      rw [r2.ints e2] at h1
      exact cr_sum hc pins s σ H _ us Q I r ⟨a, ns, rfl, h1, q _ H rs (Kw.refl _ _) (.int _)⟩
theorem c_any (hc : X.calm = true) : CallR X (.builtin "any") (rC X.K (biF .any)) := by
  intro pins s σ H xs us Q I r ⟨F, Av, ρ, o, σ', ds, z, rs, rp, hz, q⟩
  obtain ⟨d, hds, hz2⟩ := rep1 (f := anyO) hz
  clear hz; subst hds; have hz := hz2; clear hz2
  obtain ⟨v, rfl, r1⟩ := prd1 rp
  unfold anyO at hz
  cases e1 : lstO d with
  | none => rw [e1] at hz; cases hz
  | some ys =>
    have := lstO_some e1
    subst this
    simp only [lstO, Option.bind_some] at hz
    cases e2 : boolsO ys with
    | none => rw [e2] at hz; cases hz
    | some bs =>
      rw [e2] at hz
      cases hz
      obtain ⟨a, vs, rfl, h1, r2⟩ := r1.lst
      rw [r2.bools e2] at h1
      exact cr_any hc pins s σ H _ us Q I r ⟨a, bs, rfl, h1, q _ H rs (Kw.refl _ _) (.bl _)⟩
theorem c_all (hc : X.calm = true) : CallR X (.builtin "all") (rC X.K (biF .all)) := by
  intro pins s σ H xs us Q I r ⟨F, Av, ρ, o, σ', ds, z, rs, rp, hz, q⟩
  obtain ⟨d, hds, hz2⟩ := rep1 (f := allO) hz
  clear hz; subst hds; have hz := hz2; clear hz2
  obtain ⟨v, rfl, r1⟩ := prd1 rp
  unfold allO at hz
  cases e1 : lstO d with
  | none => rw [e1] at hz; cases hz
  | some ys =>
    have := lstO_some e1
    subst this
    simp only [lstO, Option.bind_some] at hz
    cases e2 : boolsO ys with
    | none => rw [e2] at hz; cases hz
    | some bs =>
      rw [e2] at hz
      cases hz
      obtain ⟨a, vs, rfl, h1, r2⟩ := r1.lst
      rw [r2.bools e2] at h1
      exact cr_all hc pins s σ H _ us Q I r ⟨a, bs, rfl, h1, q _ H rs (Kw.refl _ _) (.bl _)⟩
theorem c_tuple : CallR X (.type "tuple") (rC X.K (biF .tuple)) := by
  intro pins s σ H xs us Q I r ⟨F, Av, ρ, o, σ', ds, z, rs, rp, hz, q⟩
  obtain ⟨d, hds, hz2⟩ := rep1 (f := tupO) hz
  clear hz; subst hds; have hz := hz2; clear hz2
  obtain ⟨v, rfl, r1⟩ := prd1 rp
  unfold tupO at hz
  cases d <;> simp only [seqO, Option.map_none, reduceCtorEq, Option.map_some, Option.some.injEq] at hz <;> subst hz
  · obtain ⟨a, vs, rfl, h1, r2⟩ := r1.tup
    exact call_tuple_of pins s σ H _ us Q I r ⟨a, vs, rfl, .inr ⟨h1.sq, q _ H rs (Kw.refl _ _) (.tup h1 r2)⟩⟩
  · obtain ⟨a, vs, rfl, h1, r2⟩ := r1.lst
    exact call_tuple_of pins s σ H _ us Q I r ⟨a, vs, rfl, .inl ⟨h1, fun l hl => q _ _ (rs.alloc hl) (kw_alloc hl) (Rep.newTup rs hl r2)⟩⟩
theorem c_list : CallR X (.type "list") (rC X.K (biF .list)) := by
  intro pins s σ H xs us Q I r ⟨F, Av, ρ, o, σ', ds, z, rs, rp, hz, q⟩
  obtain ⟨d, hds, hz2⟩ := rep1 (f := listO) hz
  clear hz; subst hds; have hz := hz2; clear hz2
  obtain ⟨v, rfl, r1⟩ := prd1 rp
  unfold listO at hz
  cases d <;> simp only [seqO, Option.map_none, reduceCtorEq, Option.map_some, Option.some.injEq] at hz <;> subst hz
  · obtain ⟨a, vs, rfl, h1, r2⟩ := r1.tup
    exact call_list_of pins s σ H _ us Q I r ⟨a, vs, rfl, .inr h1.sq, fun l hl => q _ _ (rs.alloc hl) (kw_alloc hl) (Rep.newLst rs hl r2)⟩
  · obtain ⟨a, vs, rfl, h1, r2⟩ := r1.lst
    exact call_list_of pins s σ H _ us Q I r ⟨a, vs, rfl, .inl h1, fun l hl => q _ _ (rs.alloc hl) (kw_alloc hl) (Rep.newLst rs hl r2)⟩
/-! ### isinstance -/
def tyN : Ty → String
  | .int => "int"
  | .bool => "bool"
  | .str => "str"
  | .tup => "tuple"
  | .lst => "list"
  | .dic => "dict"
theorem kit_all : ∀ t ∈ [Ty.int, Ty.bool, Ty.str, Ty.tup, Ty.lst, Ty.dic], kitB "NoneType" (tyN t) = some false ∧ kitB "bool" (tyN t) = some (t == .int || t == .bool) ∧ kitB "int" (tyN t) = some (t == .int) ∧ kitB "str" (tyN t) = some (t == .str) ∧ kitB "tuple" (tyN t) = some (t == .tup) ∧ kitB "list" (tyN t) = some (t == .lst) := by decide +kernel
theorem ty_mem (t : Ty) : t ∈ [Ty.int, Ty.bool, Ty.str, Ty.tup, Ty.lst, Ty.dic] := by cases t <;> decide
theorem isi_ok {F : Fr} {Av : Addr → Prop} {H : Hp} {v : V} {d : D} {t : Ty} {b : Bool} (r : RepB X.K F.wa Av H v d) (h : isTy t d = some b) : ∃ u, TyX X.K H v u ∧ PySem.W.kitOne X.K u (.type (tyN t)) = some b := by
  obtain ⟨k1, k2, k3, k4, k5, k6⟩ := kit_all t (ty_mem t)
  have lst : ∀ {a : Addr} {vs : List V}, SqL X.K H a vs → TyX X.K H (.ref a) (.type "list") := by
    rintro a vs ((h | ⟨o, h⟩) | ⟨o, its, n, h, hc, _⟩)
    · exact .base (.lst h)
    · exact .base (.frz h)
    · exact .kList h hc
  have tup : ∀ {a : Addr} {vs : List V}, SqT X.K H a vs → TyX X.K H (.ref a) (.type "tuple") := by
    rintro a vs ((h | ⟨o, h⟩) | ⟨o, its, n, h, hc, _⟩)
    · exact .base (.tup h)
    · exact .fTuple h
    · exact .kTuple h hc
  cases d with
  | non => rw [r.non]; exact ⟨_, .base .non, kit_ty (by rw [k1]; cases t <;> exact h)⟩
  | bool x => rw [r.bl]; exact ⟨_, .base (.bl x), kit_ty (by rw [k2]; cases t <;> exact h)⟩
  | int x => rw [r.int]; exact ⟨_, .base (.int x), kit_ty (by rw [k3]; cases t <;> exact h)⟩
  | str x => rw [r.str]; exact ⟨_, .base (.str _), kit_ty (by rw [k4]; cases t <;> exact h)⟩
  | tup x =>
    obtain ⟨a, vs, rfl, h1, _⟩ := r.tup
    exact ⟨_, tup h1.sq, kit_ty (by rw [k5]; cases t <;> exact h)⟩
  | lst x =>
    obtain ⟨a, vs, rfl, h1, _⟩ := r.lst
    exact ⟨_, lst h1, kit_ty (by rw [k6]; cases t <;> exact h)⟩
  | dic x =>
    rcases r with r | ⟨_, _, _, _, e, _⟩
    · cases r
    · cases e
  | tok => cases t <;> simp [isTy] at h
theorem be_isi {t : Ty} {x y : Str} {p2 : Pos} (hg : Gl X x) (hm : X.mg x = none) (hv : bootBuiltins x = some (.builtin "isinstance")) (hgy : Gl X y) (hmy : X.mg y = none) (hvy : bootBuiltins y = some (.type (tyN t))) (ha : BB X g W a ia)
    (hn : x ≠ "__name__" := by decide) (hdb : (x == ("__debug__" : Str)) = false := by decide) (hny : y ≠ "__name__" := by decide) (hdby : (y == ("__debug__" : Str)) = false := by decide)
    (he : starEach (a :: [.Name y p2]) X.env = (false, eval a X.env) :: starEach [.Name y p2] X.env := by rfl) (hpl : (backTo pos (starEach [.Name y p2] X.env)).any (·.1) = false := by rfl) (he2 : starEach [.Name y p2] X.env = (false, eval (.Name y p2) X.env) :: starEach [] X.env := by rfl) :
    BE X g W (.Call (.Name x p) [a, .Name y p2] [] pos) (.bi (.isT t) [ia]) := by
  refine peW (pe_callB call_isi hg hm hv (pa_cons ha (pa_cons (pe_bltn (v := .ty (tyN t)) hgy hmy hvy rfl hny hdby) pa_nil he2) he) hn hdb he hpl) fun σ H Q ⟨F, Av, ρ, o, rs, q⟩ => ⟨F, Av, ρ, o, rs, ?_⟩
  simp only [evE, evEs] at q
  cases e1 : evE g.C ia ρ o with
  | no => rw [e1] at q; exact q.elim
  | exc c d o1 => rw [e1] at q; exact q
  | ok d o1 =>
    rw [e1] at q
    simp only [BV.R.bind_ok, biF, un1] at q
    intro v H1 rs1 k1 r1
    cases hz : isTy t d with
    | none => rw [hz] at q; exact q.elim
    | some b =>
      rw [hz] at q
      simp only [Option.map_some, BV.R.of_some] at q
      obtain ⟨u, h1, h2⟩ := isi_ok r1 hz
      exact ⟨v, .ty (tyN t), u, .type (tyN t), b, rfl, .ty _, h1, h2, q _ H1 rs1 k1 (.bl b)⟩
/-! ### methods of lists that only read -/
theorem findD_spec {y : D} : ∀ {xs : List D} {k j : Nat}, findD y xs k = some j → ∃ i, j = k + i ∧ ∃ z, xs[i]? = some z ∧ eqD z y = true ∧ ∀ m, m < i → ∀ z', xs[m]? = some z' → eqD z' y = false
  | [], _, _, h => by simp [findD] at h
  | x :: xs, k, j, h => by
    rw [findD] at h
    split at h
    · rename_i he
      cases h
      exact ⟨0, rfl, x, rfl, he, fun m hm => absurd hm (by omega)⟩
    · rename_i he
      obtain ⟨i, rfl, z, h1, h2, h3⟩ := findD_spec h
      refine ⟨i + 1, by omega, z, by simpa using h1, h2, fun m hm z' hz => ?_⟩
      cases m with
      | zero =>
        simp at hz
        subst hz
        simpa using he
      | succ m => exact h3 m (by omega) z' (by simpa using hz)
theorem mth_read {m : Mt} {K : PySem.W.Frag} {F : Fr} {Av : Addr → Prop} {ρ : Env} {o : Or} {σ : L2.St} {H : Hp} {Q : VK}
    (q : goR K g W F Av ρ σ (fun v d H' => Rep K F.wa Av H' v d) H (evE g.C (.mth m ia is) ρ o) Q) :
    goR K g W F Av ρ σ (fun v d H' => RepB K F.wa Av H' v d) H (evE g.C ia ρ o) (fun v H1 => ∃ d o1, RS K F Av ρ o1 σ H1 ∧ RepB K F.wa Av H1 v d ∧ mtOk m d = true ∧
      goR K g W F Av ρ σ (fun v d H' => Paired (RepB K F.wa Av H') v d) H1 (evEs g.C is ρ o1) (fun vs H2 => ∃ ds o2 z, RS K F Av ρ o2 σ H2 ∧ RepB K F.wa Av H2 v d ∧ Paired (RepB K F.wa Av H2) vs ds ∧ mtF m d ds = some z ∧
        ∀ w H', RS K F Av ρ o2 σ H' → Kw F.wa H2 H' → Rep K F.wa Av H' w z → Q w H')) := by
  rw [evE] at q
  refine q.bind.mono fun v H1 ⟨d, o1, e1, rs1, k1, r1, q1⟩ => ?_
  split at q1
  · rename_i hm
    refine ⟨d, o1, rs1, r1, hm, q1.bind.mono fun vs H2 ⟨ds, o2, e2, rs2, k2, r2, q2⟩ => ?_⟩
    obtain ⟨z, hz, q3⟩ := goR_of q2
    exact ⟨ds, o2, z, rs2, RepB.cv rs1 k2 r1, r2, hz, q3⟩
  · exact q1.elim
theorem eqV_eqD {F : Fr} {Av : Addr → Prop} {H : Hp} {x y : V} {d e : D} (h : flat d = true) (h' : flat e = true) (rd : RepB X.K F.wa Av H x d) (re : RepB X.K F.wa Av H y e) : eqV x y = eqD d e := eqV_of h h' rd re
theorem be_index {apos cpos : Pos} (ha : BB X g W a ia) (hb : BB X g W b ib)
    (hbase : attributeBase a "index" X.env (eval a X.env) = eval a X.env := by rfl)
    (hfew : ((backTo cpos (starEach (b :: []) X.env)).all (fun x => !x.1) && (backToKw cpos (keywordEach [] X.env)).all (fun x => x.1.isSome)
      && decide ((b :: []).length + ([] : List Keyword).length + (if ([] : List Keyword).isEmpty then 0 else 1) < 30)) = true := by rfl)
    (hline : (apos.endLine == cpos.line) = true := by rfl) (hs : starEach (b :: []) X.env = (false, eval b X.env) :: starEach [] X.env := by rfl) :
    BE X g W (.Call (.Attribute a "index" apos) [b] [] cpos) (.mth .index ia [ib]) := by
  refine peW (pe_bm PySem.F.plainAttrs_list PySem.F.slot_list_index PySem.F.type_list_index mt_index ha (be_consB hb be_nilB hs) hbase hfew hline hs rfl) fun σ H Q ⟨F, Av, ρ, o, rs, q⟩ => ⟨F, Av, ρ, o, rs, (mth_read q).mono fun v H1 ⟨d, o1, rs1, r1, hm, q1⟩ => ?_⟩
  obtain ⟨ys, rfl⟩ : ∃ ys, d = .lst ys := by cases d <;> simp [mtOk] at hm; exact ⟨_, rfl⟩
  obtain ⟨al, vs0, rfl, h1, _⟩ := r1.lst
  refine ⟨?_, F, Av, ρ, o1, rs1, q1.mono fun vs H2 ⟨ds, o2, z, rs2, r2, rp, hz, q2⟩ => ?_⟩
  · rcases h1 with h1 | ⟨o, its, n, h1, hc, _⟩
    · exact .inl ⟨rfl, _, .inl h1⟩
    · exact .inl ⟨rfl, _, .inr ⟨o, its, n, h1, hc, by assumption⟩⟩
  · obtain ⟨d2, hds, hz2⟩ := rep1 (f := indexO (.lst ys)) hz
    clear hz; subst hds; have hz := hz2; clear hz2
    obtain ⟨w, rfl, rw2⟩ := prd1 rp
    obtain ⟨al', vs2, e5, h2, r3⟩ := r2.lst
    cases e5
    simp only [indexO, lstO, Option.bind_some] at hz
    split at hz
    · rename_i hf
      rw [Bool.and_eq_true] at hf
      cases e4 : findD d2 ys 0 with
      | none => rw [e4] at hz; cases hz
      | some j =>
        rw [e4] at hz
        cases hz
        obtain ⟨i, hj, z, hz1, hz2, hz3⟩ := findD_spec e4
        have hi : j = i := by omega
        subst hi
        obtain ⟨vz, hv1, hv2⟩ := r3.get hz1
        have fl : ∀ {z : D} {m : Nat}, ys[m]? = some z → flat z = true := fun h => List.all_eq_true.mp hf.2 _ (List.mem_of_getElem? h)
        refine ⟨al, vs2, w, j, vz, rfl, rfl, h2, flat_of hf.1 rw2, flats_of hf.2 r3, hv1, ?_, fun m z' hm hz' => ?_, q2 _ H2 rs2 (Kw.refl _ _) (.int _)⟩
        · rw [eqV_of (F := F) (Av := Av) (H := H2) (fl hz1) hf.1 (.inl hv2) rw2]; exact hz2
        · obtain ⟨dm, hd1, hd2⟩ := r3.getV hz'
          rw [eqV_of (F := F) (Av := Av) (H := H2) (fl hd1) hf.1 (.inl hd2) rw2]
          exact hz3 m hm dm hd1
    · cases hz
end
end BV

end
/-! text: BV13.lean -/
section
set_option maxRecDepth 100000
set_option autoImplicit false
set_option maxHeartbeats 4000000
namespace BV
open PySem PySem.Spec PyProof.Rows L2

/-! ### a def of the program -/
abbrev XPT := Nat → D → Value → Option Addr → Hp → Prop
def pgK (T : Nat → Fn) (XP : XPT) (k : Nat) : Pg := ⟨callN T k, XP⟩
section
variable {P : Program} {w : World} {K : PySem.W.Frag} {mg : Str → Option Value} {base : Heap} {T : Nat → Fn} {XP : XPT}
theorem getS_start : ∀ (n : Nat) (ds : List D) (i : Nat), getS (ds.map Sl.val ++ List.replicate n Sl.un) i = match ds[i]? with
    | some d => .val d
    | none => .un
  | n, [], i => by
    have : ∀ (n i : Nat), getS (List.replicate n Sl.un) i = .un := by
      intro n
      induction n with
      | zero => intro i; rfl
      | succ n ih =>
        intro i
        cases i with
        | zero => rfl
        | succ i => exact ih i
    simpa using this n i
  | n, d :: ds, 0 => rfl
  | n, d :: ds, i + 1 => by
    show getS (ds.map Sl.val ++ List.replicate n Sl.un) i = _
    rw [getS_start n ds i]
    simp
theorem start_get (N : List Str) (vs : List V) (i : Nat) (v : V) (h : vs[i]? = some v) : (L2.start N vs)[i]? = some (some v) := by
  unfold L2.start
  have hi := (List.getElem?_eq_some_iff.mp h).1
  rw [List.getElem?_append_left (by simpa using hi), List.getElem?_map, h]
  rfl
theorem RS.start {wa : Option Addr} {da : Addr × Bool} {Av : Addr → Prop} {H : Hp} {vs : List V} {ds : List D} {o : Or} {N : List Str} (r : Reps K wa Av H vs ds) (oc : Orc K Av wa da o H) (hw : ∀ a, wa = some a → Av a) (ht : ∀ a, Av a → H a ≠ none) (hl : ds.length ≤ N.length) :
    RS K ⟨H, wa, da, Av⟩ Av (startS N.length ds) o (L2.start N vs) H where
  len := by
    unfold startS L2.start
    rw [List.length_append, List.length_append, List.length_map, List.length_map, List.length_replicate, List.length_replicate, r.length]
  slot := fun i => by
    unfold startS
    rw [getS_start]
    cases e : ds[i]? with
    | none => trivial
    | some d =>
      obtain ⟨v, h1, h2⟩ := r.get e
      rw [start_get N vs i v h1]
      exact h2
  inj := fun i j d e a h1 h2 h3 h4 => by
    unfold startS at h1
    rw [getS_start] at h1
    split at h1 <;> cases h1
  orc := oc
  keep := Kw.refl _ _
  new := fun i d a h1 h2 => by
    unfold startS at h1
    rw [getS_start] at h1
    split at h1 <;> cases h1
  av0 := fun _ h => h
  th0 := ht
  there := ht
  waav := hw
/-- THE RULE for a def: its body's derivation -/
theorem fn_ok {x qual : Str} {st : Stmt} {f : Addr} {fd : FuncData} {N ps : List Str} {k : Nat} {fi : Nat} (F : Fun K x qual st f fd) (S : FnScope N ps (defScope st)) (har : (T fi).ar = ps.length) (hn : (T fi).n = N.length)
    (hbody : ∀ (cdv : Value) (A : Around) (outer : List PySem.Env) (s : Shared) (H : Hp) (E : XK), Room k (A.deeper (envOfC qual (defScope st) s.heap.objs.size f cdv)) →
      BSs (cxOf (L2.CX P w) P w K mg base N qual (defScope st) f cdv A outer s H E) (pgK T XP k) (fun cls d _ H' => E cls d H') (defBody st) (T fi).body) :
    FnOk P w K mg base (L2.CX P w) (k + 1) f fd ps (SpI K (pgK T XP (k + 1)) ps.length fi) := by
  refine F.okX S (fun vs H Q E h => ?_) (fun cdv A outer s H vs Q E hr h => ⟨_, hbody cdv A outer s H E hr, ?_⟩)
  · obtain ⟨wa, da, Av, ds, o, r, _, _, _, hl, _⟩ := h
    rw [r.length, hl]
  · obtain ⟨wa, da, Av, ds, o, r, oc, hw, ht, hl, q⟩ := h
    have hN : ps.length ≤ N.length := by have := congrArg List.length S.pre; rw [List.length_take] at this; omega
    refine ⟨⟨H, wa, da, Av⟩, Av, startS N.length ds, o, RS.start r oc hw ht (by omega), ?_⟩
    have e : (pgK T XP (k + 1)).C fi ds o = (evSs (callN T k) (T fi).body (startS N.length ds) o).fin := by
      show callN T (k + 1) fi ds o = _
      rw [callN, if_pos (by rw [hl, har]), hn]
    rw [e] at q
    show goS _ _ _ _ _ _ _ (evSs (callN T k) (T fi).body (startS N.length ds) o)
    generalize evSs (callN T k) (T fi).body (startS N.length ds) o = r at q
    cases r with
    | nx ρ' o' => exact fun Av' σ' H' rs _ => q .non H' rs.keep rs.orc0 .non
    | rt d o' => exact fun v H' k' oc' r' => q v H' k' oc' r'
    | bk ρ' o' => exact q.elim
    | ct ρ' o' => exact q.elim
    | xc c d ρ' o' => exact fun Av' cls dx σ' H' rs _ x => q cls dx H' rs.keep rs.orc0 x
    | no => exact q.elim
/-- at the level 0 nothing is asked -/
theorem fn_zero {f : Addr} {fd : FuncData} {ps : List Str} {n fi : Nat} : FnOk P w K mg base (L2.CX P w) 0 f fd ps (SpI K (pgK T XP 0) n fi) := by
  refine ⟨fun vs H Q E h => ?_, fun A outer s H args us vs Q E hr he hb r h => ?_⟩
  · obtain ⟨_, _, _, _, _, _, _, _, _, _, q⟩ := h
    exact q.elim
  · obtain ⟨_, _, _, _, _, _, _, _, _, _, q⟩ := h
    exact q.elim
/-- a def by its name, at a level -/
def DefAt (P : Program) (w : World) (K : PySem.W.Frag) (mg : Str → Option Value) (base : Heap) (T : Nat → Fn) (XP : XPT) (k : Nat) (x : Str) (fi n : Nat) : Prop :=
  ∃ (ad : Addr) (fd : FuncData) (ps : List Str), mg x = some (.ref ad) ∧ PySem.W.keepIn K (.ref ad) = true ∧ Binds K fd ps [] ∧ FnOk P w K mg base (L2.CX P w) k ad fd ps (SpI K (pgK T XP k) n fi)
/-- what the top has left of a def -/
def DefF (K : PySem.W.Frag) (mg : Str → Option Value) (x : Str) (st : Stmt) (ps : List Str) : Prop := ∃ (ad : Addr) (fd : FuncData), mg x = some (.ref ad) ∧ Fun K x x st ad fd ∧ Binds K fd ps []
theorem DefF.zero {x : Str} {st : Stmt} {ps : List Str} {fi n : Nat} (h : DefF K mg x st ps) : DefAt P w K mg base T XP 0 x fi n := by
  obtain ⟨ad, fd, h1, h2, h3⟩ := h
  exact ⟨ad, fd, ps, h1, h2.kp, h3, fn_zero⟩
theorem DefF.succ {x : Str} {st : Stmt} {N ps : List Str} {fi n k : Nat} (h : DefF K mg x st ps) (S : FnScope N ps (defScope st)) (har : (T fi).ar = ps.length) (hn : (T fi).n = N.length) (hp : ps.length = n)
    (hbody : ∀ (f : Addr) (cdv : Value) (A : Around) (outer : List PySem.Env) (s : Shared) (H : Hp) (E : XK), Room k (A.deeper (envOfC x (defScope st) s.heap.objs.size f cdv)) →
      BSs (cxOf (L2.CX P w) P w K mg base N x (defScope st) f cdv A outer s H E) (pgK T XP k) (fun cls d _ H' => E cls d H') (defBody st) (T fi).body) : DefAt P w K mg base T XP (k + 1) x fi n := by
  obtain ⟨ad, fd, h1, h2, h3⟩ := h
  subst hp
  exact ⟨ad, fd, ps, h1, h2.kp, h3, fn_ok h2 S har hn (hbody ad)⟩
end
section
variable {X : Cx} {W : WX} {T : Nat → Fn} {XP : XPT} {k : Nat} {e : Expr} {es : List Expr} {is : List IE} {pos p : Pos} {x : Str} {fi n : Nat}
theorem be_callD (h : DefAt X.prog X.w X.K X.mg X.base T XP k x fi n) (hr : Room k X.A) (tk : Takes X W) (ha : BA X (pgK T XP k) W (e :: es) is) (hg : Gl X x := by rfl) (hn : is.length = n := by rfl) (hdb : (x == ("__debug__" : Str)) = false := by decide)
    (he : starEach (e :: es) X.env = (false, eval e X.env) :: starEach es X.env := by rfl) (hpl : (backTo pos (starEach es X.env)).any (·.1) = false := by rfl) : BE X (pgK T XP k) W (.Call (.Name x p) (e :: es) [] pos) (.call fi is) := by
  obtain ⟨ad, fd, ps, h1, h2, h3, h4⟩ := h
  exact be_call h4 hr hg h1 h2 h3 tk ha hn hdb he hpl
theorem be_callDB (h : DefAt X.prog X.w X.K X.mg X.base T XP k x fi n) (hr : Room k X.A) (tk : Takes X W) (ha : BAB X (pgK T XP k) W (e :: es) is) (hg : Gl X x := by rfl) (hn : is.length = n := by rfl) (hdb : (x == ("__debug__" : Str)) = false := by decide)
    (he : starEach (e :: es) X.env = (false, eval e X.env) :: starEach es X.env := by rfl) (hpl : (backTo pos (starEach es X.env)).any (·.1) = false := by rfl) : BE X (pgK T XP k) W (.Call (.Name x p) (e :: es) [] pos) (.callS fi is) := by
  obtain ⟨ad, fd, ps, h1, h2, h3, h4⟩ := h
  exact be_callB h4 hr hg h1 h2 h3 tk ha hn hdb he hpl
end
end BV

end
/-! text: BV14.lean -/
section
set_option maxRecDepth 100000
set_option autoImplicit false
set_option maxHeartbeats 4000000
namespace BV
open PySem PySem.Spec PyProof.Rows L2

/-! ### the draws -/
theorem bt_len : bootBuiltins "len" = some (.builtin "len") := by decide +kernel
theorem bt_abs : bootBuiltins "abs" = some (.builtin "abs") := by decide +kernel
theorem bt_min : bootBuiltins "min" = some (.builtin "min") := by decide +kernel
theorem bt_max : bootBuiltins "max" = some (.builtin "max") := by decide +kernel
theorem bt_sum : bootBuiltins "sum" = some (.builtin "sum") := by decide +kernel
theorem bt_any : bootBuiltins "any" = some (.builtin "any") := by decide +kernel
theorem bt_all : bootBuiltins "all" = some (.builtin "all") := by decide +kernel
theorem bt_isinstance : bootBuiltins "isinstance" = some (.builtin "isinstance") := by decide +kernel
theorem bt_int : bootBuiltins "int" = some (.type "int") := by decide +kernel
theorem bt_bool : bootBuiltins "bool" = some (.type "bool") := by decide +kernel
theorem bt_str : bootBuiltins "str" = some (.type "str") := by decide +kernel
theorem bt_tuple : bootBuiltins "tuple" = some (.type "tuple") := by decide +kernel
theorem bt_list : bootBuiltins "list" = some (.type "list") := by decide +kernel
theorem bt_dict : bootBuiltins "dict" = some (.type "dict") := by decide +kernel

/-- how the draws' object stands -/
def wD (da : Addr) (n : Nat) : List (Key × V) := [(.inr "draws", .ref da), (.inr "at", .int (n : Nat))]
theorem wD_at (da : Addr) (n : Nat) : valV (wD da n) (.inr "at" : Key) = some (.int (n : Nat)) := by
  unfold wD valV
  rw [List.find?_cons]
  have : decide ((Sum.inr ("draws" : Str) : Key) = Sum.inr ("at" : Str)) = false := by decide +kernel
  simp only [this]
  rw [List.find?_cons]
  have : decide ((Sum.inr ("at" : Str) : Key) = Sum.inr ("at" : Str)) = true := by decide +kernel
  simp only [this]
  rfl
theorem wD_draws (da : Addr) (n : Nat) : valV (wD da n) (.inr "draws" : Key) = some (.ref da) := by
  unfold wD valV
  rw [List.find?_cons]
  have : decide ((Sum.inr ("draws" : Str) : Key) = Sum.inr ("draws" : Str)) = true := by decide +kernel
  simp only [this]
  rfl
theorem wD_put (da : Addr) (n : Nat) : putK (wD da n) (.inr "at" : Key) (.int ((n : Int) + 1)) = wD da (n + 1) := by
  have h1 : ¬ ((Sum.inr ("draws" : Str) : Key) = Sum.inr ("at" : Str)) := by decide +kernel
  unfold putK wD
  have : (([(.inr "draws", .ref da), (.inr "at", .int (n : Nat))] : List (Key × V)).any fun kv => decide (kv.1 = (.inr "at" : Key))) = true := by
    rw [List.any_cons, List.any_cons]
    have : decide ((Sum.inr ("at" : Str) : Key) = Sum.inr ("at" : Str)) = true := by decide +kernel
    rw [this]
    simp
  rw [if_pos this]
  simp only [List.map_cons, List.map_nil, if_neg h1, if_true]
  rfl
/-- the body of _law_next, by its reading: t is what the rules of the hand layer ask -/
theorem draw_read {K : PySem.W.Frag} {g : Pg} {W : WX} {D : Ends} {σ : L2.St} {H : Hp} (h : tS K g W [.ret (.draw (.var 0) (.var 1))] D σ H) :
    ∃ (a da : Addr) (m : Int) (n : Nat) (ds : List Int), σ[0]? = some (some (.ref a)) ∧ σ[1]? = some (some (.int m)) ∧ H a = some (.dK (wD da n)) ∧ SqL K H da (ds.map V.int) ∧ SqL K (upd H a (.dK (wD da (n + 1)))) da (ds.map V.int) ∧ 0 < m ∧
      (n + 1 > ds.length → D.rt (.int 0) (upd H a (.dK (wD da (n + 1))))) ∧ (∀ x, ds[n]? = some x → D.rt (.int (x % m)) (upd H a (.dK (wD da (n + 1))))) := by
  obtain ⟨F, Av, ρ, o, rs, q⟩ := h
  rw [evSs_one, evS, evE, evE] at q
  cases e0 : getS ρ 0 with
  | un => rw [e0] at q; exact q.elim
  | own d => rw [e0] at q; exact q.elim
  | val d0 =>
    rw [e0] at q
    simp only [BV.R.bind_ok] at q
    cases d0 <;> first
      | exact q.elim
      | skip
    simp only [evE] at q
    cases e1 : getS ρ 1 with
    | un => rw [e1] at q; exact q.elim
    | own d => rw [e1] at q; exact q.elim
    | val d1 =>
      rw [e1] at q
      simp only [BV.R.bind_ok] at q
      cases d1 <;> first
        | exact q.elim
        | skip
      rename_i m
      simp only [drawF] at q
      split at q
      · rename_i hm
        obtain ⟨v0, s0, r0⟩ := rs.val e0
        obtain ⟨v1, s1, r1⟩ := rs.val e1
        cases r1
        cases r0 with
        | tok hw =>
          rename_i a
          have oc := rs.orc
          rw [hw] at oc
          obtain ⟨n, ds, h1, h2, h3⟩ := oc
          have av : Av a := rs.waav a hw
          have kw : ∀ u, Kw F.wa F.H0 (upd H a u) := fun u b x nb e => by
            rw [upd_ne (fun z => nb (by rw [z]; exact hw))]
            exact rs.keep b x nb e
          have oc2 : ∀ {o2 : Or}, o2 = ds.drop (n + 1) → Orc K F.Av0 F.wa F.da o2 (upd H a (.dK (wD F.da.1 (n + 1)))) := fun e => by
            rw [hw]
            exact ⟨n + 1, ds, upd_same, (h2.cv (cv_upd av)).cv fun b u e nb => ⟨e, fun z => nb (rs.av0 b z)⟩, e⟩
          refine ⟨a, F.da.1, m, n, ds, s0, s1, h1, h2.sq, (h2.cv (cv_upd av)).sq, hm, fun hn => ?_, fun x hx => ?_⟩
          · have : o = [] := by rw [h3]; exact List.drop_eq_nil_of_le (by omega)
            subst this
            simp only [BV.R.out_ok] at q
            exact q (.int 0) _ (kw _) (oc2 (by rw [List.drop_eq_nil_of_le (by omega)])) (.int 0)
          · have hl := (List.getElem?_eq_some_iff.mp hx).1
            have : o = x :: ds.drop (n + 1) := by
              rw [h3, List.drop_eq_getElem_cons hl]
              congr 1
              exact (List.getElem?_eq_some_iff.mp hx).2
            subst this
            simp only [BV.R.out_ok] at q
            exact q (.int (x % m)) _ (kw _) (oc2 rfl) (.int _)
      · exact q.elim
theorem wD_make (da : Addr) : mergeK [] [((.inr "draws" : Key), V.ref da), (.inr "at", .int 0)] = wD da 0 := by
  have h1 : ¬ ((Sum.inr ("draws" : Str) : Key) = Sum.inr ("at" : Str)) := by decide +kernel
  show putK (putK ([] : List (Key × V)) (Sum.inr ("draws" : Str) : Key) (V.ref da)) (Sum.inr ("at" : Str) : Key) (V.int 0) = _
  have e1 : putK ([] : List (Key × V)) (.inr "draws") (.ref da) = [(.inr "draws", .ref da)] := rfl
  rw [e1]
  unfold putK
  have : (([(.inr "draws", .ref da)] : List (Key × V)).any fun kv => decide (kv.1 = (.inr "at" : Key))) = false := by
    rw [List.any_cons, List.any_nil]
    simp [h1]
  rw [if_neg (by rw [this]; decide)]
  rfl
theorem intsO_map : ∀ (ns : List Int), intsO (ns.map D.int) = some ns
  | [] => rfl
  | n :: ns => by simp [intsO, intsO_map ns]
/-- the law's reading: the call that makes the draws, then the rest with w at slot j -/
def tLaw (K : PySem.W.Frag) (g : Pg) (W : WX) (j : Nat) (ie : IE) (is : List IS) : TS := fun Dn σ H => ∃ Av ρ o H0, RS K ⟨H0, none, (0, false), Av⟩ Av ρ o σ H ∧ (∀ a, ¬ Av a) ∧ (∀ i d, getS ρ i ≠ .own d) ∧ ∃ ns o1, evE g.C ie ρ o = .ok (.lst (ns.map D.int)) o1 ∧
  (match evSs g.C is (setS ρ j (.val .tok)) ns with
    | .rt d _ => ∀ v H' wa Av, Rep K wa Av H' v d → Dn.rt v H'
    | _ => False)
mutual
theorem Rep.wa {K : PySem.W.Frag} {Av : Addr → Prop} {H : Hp} {p : Addr} : ∀ {v : V} {d : D}, Rep K none Av H v d → Rep K (some p) Av H v d
  | _, _, .non => .non
  | _, _, .bl b => .bl b
  | _, _, .int i => .int i
  | _, _, .str s => .str s
  | _, _, .lst h r => .lst h (Reps.wa r)
  | _, _, .tup h r => .tup h (Reps.wa r)
theorem Reps.wa {K : PySem.W.Frag} {Av : Addr → Prop} {H : Hp} {p : Addr} : ∀ {vs : List V} {ds : List D}, Reps K none Av H vs ds → Reps K (some p) Av H vs ds
  | _, _, .nil => .nil
  | _, _, .cons h r => .cons (Rep.wa h) (Reps.wa r)
end
section
theorem law_read {X : Cx} {g : Pg} {W : WX} {j : Nat} {e k1 k2 v2 : Expr} {ie : IE} {is : List IS} {sts : List Stmt} {x : Str} {pos pos' dpos : Pos} (hN : X.N.Nodup) (hi : X.N[j]? = some x) (hx : Loc X.env.scope x)
    (h1 : PE X k1 (tC (.str "draws"))) (he : BE X g W e ie) (h2 : PE X k2 (tC (.str "at"))) (h3 : PE X v2 (tC (.int 0))) (hr : BSs X g W sts is)
    (hs : swapsWith (.Dict [some k1, some k2] [e, v2] dpos) (some (.Name x pos')) pos.line X.env = pure false := by rfl) (hf : X.fn x = true ∨ X.env.scope.names.lookup x = some .local := by first | exact .inl rfl | exact .inr rfl | assumption) :
    PSs X (.Assign [.Name x pos'] (.Dict [some k1, some k2] [e, v2] dpos) pos :: sts) (tLaw X.K g W j ie is) := by
  refine pssW (pss_cons (ps_set (i := j) hN hi hx (pe_disp (pps_cons h1 he (pps_cons h2 h3 pps_nil)) (by rfl) (by rfl) (fun z => by cases z) (by show 2 ≤ 15; omega)) hs hf) hr) fun Dn σ H ⟨Av, ρ, o, H0, rs, nav, nown, ns, o1, ev, q⟩ => ?_
  intro p hp
  -- the values of the display, from the left
  show tPairs _ σ _ _
  refine ⟨⟨H0, none, (0, false), Av⟩, Av1 Av p, ρ, o, rs.fresh hp, ?_⟩
  rw [ev]
  intro v H1 rs1 k1 r1
  have hp1 : H1 p = some (.dK []) := k1 p _ (fun z => nomatch z) upd_same
  cases r1 with
  | lst hl r1 =>
    rename_i da vs
    have hvs : vs = ns.map V.int := r1.ints (intsO_map ns)
    subst hvs
    refine ⟨hp1, [(.inr "draws", .ref da), (.inr "at", .int 0)], rfl, by show 2 ≤ 15; omega, ?_⟩
    rw [wD_make]
    have pav : Av1 Av p p := .inr rfl
    have cv : Cv (Av1 Av p) (Av1 Av p) H1 (upd H1 p (.dK (wD da 0))) := cv_upd pav
    obtain ⟨fl, hda⟩ : ∃ fl : Bool, DaA X.K (Av1 Av p) (upd H1 p (.dK (wD da 0))) (da, fl) (ns.map V.int) := by
      rcases hl.cv cv with h | h
      · exact ⟨false, h⟩
      · exact ⟨true, h⟩
    have th : ∀ a, Av1 Av p a → upd H1 p (.dK (wD da 0)) a ≠ none := fun a h => by
      by_cases e : a = p
      · rw [e, upd_same]; exact fun z => nomatch z
      · rw [upd_ne e]; exact rs1.there a h
    have nown1 : ∀ i d, getS (setS ρ j (.val .tok)) i ≠ .own d := fun i d z => by
      rw [getS_setS] at z
      split at z
      · cases z
      · exact nown i d z
    have rs2 : RS X.K ⟨upd H1 p (.dK (wD da 0)), some p, (da, fl), Av1 Av p⟩ (Av1 Av p) (setS ρ j (.val .tok)) ns (σ.set j (some (.ref p))) (upd H1 p (.dK (wD da 0))) := {
      len := by rw [setS_len, List.length_set]; exact rs1.len
      slot := fun i => by
        rw [getS_setS, getV_set, rs1.len]
        split
        · exact .tok rfl
        · cases q : getS ρ i with
          | un => trivial
          | val d =>
            obtain ⟨v, e, r⟩ := rs1.val q
            rw [e]
            exact (Rep.wa r).cv cv
          | own d => exact absurd q (nown i d)
      inj := fun i _ d _ _ h => absurd h (nown1 i d)
      orc := ⟨0, ns, upd_same, hda, rfl⟩
      keep := Kw.refl _ _
      new := fun i d _ h => absurd h (nown1 i d)
      av0 := fun _ h => h
      th0 := th
      there := th
      waav := fun a h => by
        have : p = a := by simpa using h
        rw [← this]; exact pav }
    refine ⟨_, Av1 Av p, _, ns, rs2, ?_⟩
    generalize evSs g.C is (setS ρ j (.val .tok)) ns = r at q
    cases r with
    | rt d o2 => exact fun v H' _ _ r => q v H' _ _ r
    | _ => exact q.elim
end
end BV

end
/-! text: BV15.lean -/
section
set_option maxRecDepth 100000
set_option autoImplicit false
set_option maxHeartbeats 4000000
namespace BV
open PySem PySem.Spec PyProof.Rows L2
theorem reps_ints {K : PySem.W.Frag} {wa : Option Addr} {Av : Addr → Prop} {H : Hp} : ∀ ns : List Int, Reps K wa Av H (ns.map V.int) (ns.map D.int)
  | [] => .nil
  | n :: ns => .cons (.int n) (reps_ints ns)
section
variable {X : Cx} {g : Pg} {W : WX} {a b c : Expr} {ia ib ic : IE} {pos : Pos}
theorem chn_of {op oq : O2} (ha : BB X g W a ia) (hb : BB X g W b ib) (hc : BB X g W c ic) {σ : L2.St} {H : Hp} {Q : VK} (h : tI X.K g W (.chn op oq ia ib ic) σ H Q) :
    tChain (rB X.K (op2 op)) (rB X.K (op2 oq)) (tIB X.K g W ia) (tIB X.K g W ib) (tIB X.K g W ic) σ H Q := by
  obtain ⟨F, Av, ρ, o, rs, q⟩ := h
  rw [evE] at q
  refine ⟨F, Av, ρ, o, rs, q.bind.mono fun v H1 ⟨d, o1, e1, rs1, k1, r1, q1⟩ => ⟨F, Av, ρ, o1, rs1, q1.bind.mono fun u H2 ⟨d2, o2, e2, rs2, k2, r2, q2⟩ => ?_⟩⟩
  cases hz : op2 op d d2 with
  | none => rw [hz] at q2; exact q2.elim
  | some z =>
    rw [hz] at q2
    simp only [R.of_some, R.bind_ok] at q2
    refine ⟨F, Av, ρ, o2, σ, d, d2, z, rs2, RepB.cv rs1 k2 r1, r2, hz, fun w H3 rs3 k3 r3 => ?_⟩
    cases z with
    | bool t =>
      cases r3
      refine ⟨t, rfl, ?_⟩
      cases t with
      | false => exact q2 _ H3 rs3 k3 (.bl false)
      | true =>
        refine ⟨F, Av, ρ, o2, rs3, (q2.later k3).bind.mono fun x H4 ⟨d4, o4, e4, rs4, k4, r4, q4⟩ => ?_⟩
        obtain ⟨z, hz, q5⟩ := goR_of q4
        exact ⟨F, Av, ρ, o4, σ, d2, d4, z, rs4, RepB.cv rs2 (k3.trans k4) r2, r4, hz, q5⟩
    | _ => exact q2.elim
theorem chn_bool {C : Nat → List D → Or → R D} {op oq : O2} (h : isCmp oq = true) {ρ : Env} {o o1 : Or} {d : D} (e1 : evE C (.chn op oq ia ib ic) ρ o = .ok d o1) : ∃ b, d = .bool b := by
  rw [evE] at e1
  cases q2 : evE C ia ρ o with
  | no => rw [q2] at e1; cases e1
  | exc _ _ _ => rw [q2] at e1; cases e1
  | ok d1 o1 =>
    rw [q2, R.bind_ok] at e1
    cases q3 : evE C ib ρ o1 with
    | no => rw [q3] at e1; cases e1
    | exc _ _ _ => rw [q3] at e1; cases e1
    | ok d2 o2 =>
      rw [q3, R.bind_ok] at e1
      cases q4 : op2 op d1 d2 with
      | none => rw [q4] at e1; cases e1
      | some z =>
        rw [q4, R.of_some, R.bind_ok] at e1
        cases z with
        | bool t =>
          cases t with
          | false => cases e1; exact ⟨_, rfl⟩
          | true =>
            simp only at e1
            cases q5 : evE C ic ρ o2 with
            | no => rw [q5] at e1; cases e1
            | exc _ _ _ => rw [q5] at e1; cases e1
            | ok d4 o4 =>
              rw [q5, R.bind_ok] at e1
              cases q6 : op2 oq d2 d4 with
              | none => rw [q6] at e1; cases e1
              | some z => rw [q6] at e1; cases e1; exact cmp_bool h q6
        | _ => cases e1
theorem bt_chn {op oq : O2} {cop coq : CmpOp} (ho : OpR X (compareOp cop) (rB X.K (op2 op))) (hq : OpR X (compareOp coq) (rB X.K (op2 oq))) (ha : BB X g W a ia) (hb : BB X g W b ib) (hc : BB X g W c ic)
    (hm : lastMarks [cop, coq] [b, c] = false := by rfl) (h : isCmp oq = true := by rfl) : BT X g W (.Compare a [cop, coq] [b, c] pos) (.chn op oq ia ib ic) := by
  refine ptW (pt_chain ho hq ha hb hc hm) fun σ H Q ⟨F, Av, ρ, o, rs, q⟩ => ?_
  refine chn_of ha hb hc ⟨F, Av, ρ, o, rs, (goR.testV q).mono fun v H1 ⟨d, o1, b, e1, rs1, k1, rp, t, q1⟩ => ?_⟩
  obtain ⟨b', rfl⟩ := chn_bool h e1
  cases rp
  simp only [truth, Option.some.injEq] at t
  subst t
  exact ⟨_, rfl, q1 _ H1 rs1 (Kw.refl _ _) rfl⟩
end
end BV

end
/-! text: BM.lean -/
section
set_option autoImplicit false
set_option maxRecDepth 100000
namespace BV
/-! BM: plain lemmas about the evaluator -/
def TI (ns : List Int) : D := .tup (ns.map .int)
def LI (ns : List Int) : D := .lst (ns.map .int)
theorem evSs_nil' (C : Nat → List D → Or → R D) (ρ : Env) (o : Or) : evSs C [] ρ o = .nx ρ o := by rw [evSs]
theorem evSs_cons' (C : Nat → List D → Or → R D) (s : IS) (r : List IS) (ρ : Env) (o : Or) : evSs C (s :: r) ρ o = (evS C s ρ o).then fun ρ o => evSs C r ρ o := by rw [evSs]
theorem stp {C : Nat → List D → Or → R D} {s : IS} {r : List IS} {ρ ρ1 : Env} {o o1 : Or} {z : Out} (h : evS C s ρ o = .nx ρ1 o1) (h2 : evSs C r ρ1 o1 = z) : evSs C (s :: r) ρ o = z := by rw [evSs_cons', h]; exact h2
theorem stR {C : Nat → List D → Or → R D} {s : IS} {r : List IS} {ρ : Env} {o o1 : Or} {d : D} (h : evS C s ρ o = .rt d o1) : evSs C (s :: r) ρ o = .rt d o1 := by rw [evSs_cons', h]; rfl
/-- a call, by its body -/
theorem call_rt {T : Nat → Fn} {k f n : Nat} {b : List IS} {xs : List D} {o o1 : Or} {d : D} (hf : T f = ⟨xs.length, n, b⟩) (h : evSs (callN T k) b (startS n xs) o = .rt d o1) : callN T (k + 1) f xs o = .ok d o1 := by
  rw [callN, hf, if_pos rfl, h]; rfl
theorem intsO_m : ∀ (ns : List Int), intsO (ns.map D.int) = some ns
  | [] => rfl
  | n :: ns => by simp [intsO, intsO_m ns]
theorem boolsO_m : ∀ (ns : List Bool), boolsO (ns.map D.bool) = some ns
  | [] => rfl
  | n :: ns => by simp [boolsO, boolsO_m ns]
theorem upto_eq : ∀ (n : Nat) (lo : Int), upto lo n = (List.range n).map fun k : Nat => D.int (lo + k)
  | 0, lo => rfl
  | n + 1, lo => by
    rw [upto, upto_eq n, List.range_succ_eq_map, List.map_cons, List.map_map]
    congr 1
    · simp
    · refine List.map_congr_left fun k _ => ?_
      simp only [Function.comp, D.int.injEq]
      omega
/-- 0 .. n-1 -/
def RI (n : Nat) : List D := (List.range n).map fun k : Nat => D.int k
theorem RI_len (n : Nat) : (RI n).length = n := by simp [RI]
theorem mem_RI {n : Nat} {x : D} (h : x ∈ RI n) : ∃ k : Nat, k < n ∧ x = .int k := by
  simp only [RI, List.mem_map, List.mem_range] at h
  obtain ⟨k, hk, rfl⟩ := h
  exact ⟨k, hk, rfl⟩
theorem rangeO_nat {n : Int} (h0 : 0 ≤ n) (h : n ≤ cap) : rangeO 0 n = some (.lst (RI n.toNat)) := by
  have h' : n ≤ 16777216 := h
  unfold rangeO
  rw [if_pos (by refine ⟨by omega, by omega, by omega, by omega, by show (n - 0).toNat ≤ 16777216; omega⟩), upto_eq]
  congr 2
  rw [RI, show (n - 0).toNat = n.toNat by omega]
  exact List.map_congr_left fun k _ => by simp
theorem rangeO_neg {n : Int} (h0 : n ≤ 0) (h : -(2 ^ 62) ≤ n) : rangeO 0 n = some (.lst []) := by
  unfold rangeO
  rw [if_pos (by refine ⟨by omega, by omega, by omega, by omega, by show (n - 0).toNat ≤ 16777216; omega⟩), show (n - 0).toNat = 0 by omega]
  rfl
theorem rangeO_two {lo hi : Int} (h : -(2 ^ 62) ≤ lo) (h1 : hi < 2 ^ 62) (h2 : lo < 2 ^ 62) (h3 : -(2 ^ 62) ≤ hi) (h4 : hi - lo ≤ cap) : rangeO lo hi = some (.lst ((List.range (hi - lo).toNat).map fun k : Nat => D.int (lo + k))) := by
  have h' : hi - lo ≤ 16777216 := h4
  unfold rangeO
  rw [if_pos (by refine ⟨by omega, by omega, by omega, by omega, by show (hi - lo).toNat ≤ 16777216; omega⟩), upto_eq]
/-- a comprehension that draws nothing -/
theorem compM_fm {f : D → Or → R (Option D)} {g : D → Option D} {o : Or} : ∀ {xs : List D}, (∀ x ∈ xs, f x o = .ok (g x) o) → compM f xs o = .ok (xs.filterMap g) o
  | [], _ => rfl
  | x :: xs, h => by
    rw [compM, h x (by simp), R.bind_ok, compM_fm fun y hy => h y (by simp [hy]), R.bind_ok, List.filterMap_cons]
    cases g x <;> rfl
theorem compM_map {f : D → Or → R (Option D)} {g : D → D} {o : Or} {xs : List D} (h : ∀ x ∈ xs, f x o = .ok (some (g x)) o) : compM f xs o = .ok (xs.map g) o := by
  rw [compM_fm (g := fun x => some (g x)) h, List.filterMap_eq_map']
/-- over 0 .. n-1 -/
theorem compM_RI {f : D → Or → R (Option D)} {g : Nat → D} {o : Or} {n : Nat} (h : ∀ k < n, f (.int k) o = .ok (some (g k)) o) : compM f (RI n) o = .ok ((List.range n).map g) o := by
  have : ∀ m ≤ n, ∀ ks : List Nat, (∀ k ∈ ks, k < n) → compM f (ks.map fun k : Nat => D.int k) o = .ok (ks.map g) o := by
    intro _ _ ks
    induction ks with
    | nil => intro _; rfl
    | cons k ks ih => intro hk; rw [List.map_cons, compM, h k (hk k (by simp)), R.bind_ok, ih fun j hj => hk j (by simp [hj]), R.bind_ok, List.map_cons]
  exact this 0 (Nat.zero_le _) _ fun k hk => List.mem_range.mp hk
theorem compM_RIf {f : D → Or → R (Option D)} {g : Nat → Option D} {o : Or} {n : Nat} (h : ∀ k < n, f (.int k) o = .ok (g k) o) : compM f (RI n) o = .ok ((List.range n).filterMap g) o := by
  have : ∀ ks : List Nat, (∀ k ∈ ks, k < n) → compM f (ks.map fun k : Nat => D.int k) o = .ok (ks.filterMap g) o := by
    intro ks
    induction ks with
    | nil => intro _; rfl
    | cons k ks ih =>
      intro hk
      rw [List.map_cons, compM, h k (hk k (by simp)), R.bind_ok, ih fun j hj => hk j (by simp [hj]), R.bind_ok, List.filterMap_cons]
      cases g k <;> rfl
  exact this _ fun k hk => List.mem_range.mp hk
/-- the places where p holds -/
theorem compM_RIp {f : D → Or → R (Option D)} {p : Nat → Bool} {o : Or} {n : Nat} (h : ∀ k < n, f (.int k) o = .ok (if p k then some (.int k) else none) o) : compM f (RI n) o = .ok (((List.range n).filter p).map fun k : Nat => D.int k) o := by
  rw [compM_RIf h]
  congr 1
  induction List.range n with
  | nil => rfl
  | cons k ks ih =>
    rw [List.filterMap_cons, List.filter_cons]
    cases p k <;> simp [ih]
/-- a comprehension that draws -/
theorem compM_draw {f : D → Or → R (Option D)} {P : D → Prop} : ∀ {xs : List D}, (∀ x ∈ xs, ∀ o, ∃ y o', f x o = .ok (some y) o' ∧ P y) → ∀ o, ∃ ys o', compM f xs o = .ok ys o' ∧ ys.length = xs.length ∧ ∀ y ∈ ys, P y
  | [], _, o => ⟨[], o, rfl, rfl, by simp⟩
  | x :: xs, h, o => by
    obtain ⟨y, o1, e, hy⟩ := h x (by simp) o
    obtain ⟨ys, o2, e2, hl, hp⟩ := compM_draw (xs := xs) (fun z hz => h z (by simp [hz])) o1
    refine ⟨y :: ys, o2, ?_, by simp [hl], by simpa using ⟨hy, hp⟩⟩
    rw [compM, e, R.bind_ok, e2, R.bind_ok]
theorem ints_of {P : Int → Prop} : ∀ {ys : List D}, (∀ y ∈ ys, ∃ n, y = .int n ∧ P n) → ∃ ns : List Int, ys = ns.map .int ∧ ∀ n ∈ ns, P n
  | [], _ => ⟨[], rfl, by simp⟩
  | y :: ys, h => by
    obtain ⟨n, rfl, hn⟩ := h y (by simp)
    obtain ⟨ns, rfl, hp⟩ := ints_of (ys := ys) fun z hz => h z (by simp [hz])
    exact ⟨n :: ns, rfl, by simpa using ⟨hn, hp⟩⟩
theorem compM_drawI {f : D → Or → R (Option D)} {P : Int → Prop} {xs : List D} (h : ∀ x ∈ xs, ∀ o, ∃ n o', f x o = .ok (some (.int n)) o' ∧ P n) (o : Or) : ∃ (ns : List Int) (o' : Or), compM f xs o = .ok (ns.map .int) o' ∧ ns.length = xs.length ∧ ∀ n ∈ ns, P n := by
  obtain ⟨ys, o', e, hl, hp⟩ := compM_draw (P := fun y => ∃ n, y = .int n ∧ P n) (fun x hx o => let ⟨n, o', e, hn⟩ := h x hx o; ⟨_, o', e, n, rfl, hn⟩) o
  obtain ⟨ns, rfl, hn⟩ := ints_of hp
  exact ⟨ns, o', e, by simpa using hl, hn⟩
/-- a loop -/
theorem forM_inv {f : D → Env → Or → Out} {I : List D → Env → Or → Prop} : ∀ {xs : List D}, (∀ x r ρ o, I (x :: r) ρ o → (∃ ρ' o', (f x ρ o = .nx ρ' o' ∨ f x ρ o = .ct ρ' o') ∧ I r ρ' o')) → ∀ {ρ o}, I xs ρ o → ∃ ρ' o', forM f xs ρ o = .nx ρ' o' ∧ I [] ρ' o'
  | [], _, ρ, o, i => ⟨ρ, o, rfl, i⟩
  | x :: xs, h, ρ, o, i => by
    obtain ⟨ρ1, o1, e, i1⟩ := h x xs ρ o i
    obtain ⟨ρ2, o2, e2, i2⟩ := forM_inv (xs := xs) h i1
    refine ⟨ρ2, o2, ?_, i2⟩
    rcases e with e | e <;> rw [forM, e] <;> exact e2
theorem forM_ni {f : D → Env → Or → Out} : ∀ {n : Nat} {g : Nat → D} {I : Nat → Env → Or → Prop} {ρ o}, (∀ k < n, ∀ ρ o, I k ρ o → ∃ ρ' o', (f (g k) ρ o = .nx ρ' o' ∨ f (g k) ρ o = .ct ρ' o') ∧ I (k + 1) ρ' o') → I 0 ρ o → ∃ ρ' o', forM f ((List.range n).map g) ρ o = .nx ρ' o' ∧ I n ρ' o'
  | 0, g, I, ρ, o, _, i => ⟨ρ, o, rfl, i⟩
  | n + 1, g, I, ρ, o, h, i => by
    obtain ⟨ρ1, o1, e, i1⟩ := h 0 (by omega) ρ o i
    obtain ⟨ρ2, o2, e2, i2⟩ := forM_ni (n := n) (g := fun k => g (k + 1)) (I := fun k => I (k + 1)) (fun k hk ρ o i => h (k + 1) (by omega) ρ o i) i1
    refine ⟨ρ2, o2, ?_, i2⟩
    rw [List.range_succ_eq_map, List.map_cons, List.map_map]
    rcases e with e | e <;> rw [forM, e] <;> exact e2
theorem forM_RI {f : D → Env → Or → Out} {n : Nat} {I : Nat → Env → Or → Prop} {ρ o} (h : ∀ k < n, ∀ ρ o, I k ρ o → ∃ ρ' o', (f (.int k) ρ o = .nx ρ' o' ∨ f (.int k) ρ o = .ct ρ' o') ∧ I (k + 1) ρ' o') (i : I 0 ρ o) : ∃ ρ' o', forM f (RI n) ρ o = .nx ρ' o' ∧ I n ρ' o' := forM_ni (g := fun k : Nat => D.int k) h i
/-! equality -/
mutual
theorem eqD_refl : ∀ d : D, okN 60 d = true → eqD d d = true := fun d h => eqD_refl' 60 d h
theorem eqD_refl' : ∀ (n : Nat) (d : D), okN n d = true → eqD d d = true
  | _, .non, _ => rfl
  | _, .bool _, _ => by simp [eqD]
  | _, .int _, _ => by simp [eqD]
  | _, .str _, _ => by simp [eqD]
  | n + 1, .tup xs, h => by
    simp only [okN, List.all_eq_true] at h
    exact eqDs_refl n xs h
  | n + 1, .lst xs, h => by
    simp only [okN, List.all_eq_true] at h
    exact eqDs_refl n xs h
  | 0, .tup _, h => by simp [okN] at h
  | 0, .lst _, h => by simp [okN] at h
  | n, .dic _, h => by simp [okN] at h
  | n, .tok, h => by simp [okN] at h
theorem eqDs_refl : ∀ (n : Nat) (xs : List D), (∀ x ∈ xs, okN n x = true) → eqDs xs xs = true
  | _, [], _ => rfl
  | n, x :: xs, h => by
    rw [eqDs, eqD_refl' n x (h x (by simp)), eqDs_refl n xs fun y hy => h y (by simp [hy])]
    rfl
end
theorem eqDs_ints : ∀ a b : List Int, eqDs (a.map D.int) (b.map D.int) = decide (a = b)
  | [], [] => rfl
  | [], _ :: _ => rfl
  | _ :: _, [] => rfl
  | x :: a, y :: b => by
    rw [List.map_cons, List.map_cons, eqDs, eqD, eqDs_ints a b]
    by_cases h : x = y <;> simp [h]
theorem ok_ints (n : Nat) (a : List Int) : (a.map D.int).all (okN n) = true := by
  simp only [List.all_eq_true, List.mem_map]
  rintro x ⟨i, _, rfl⟩
  simp [okN]
theorem eqO_TI (a b : List Int) : eqO (TI a) (TI b) = some (decide (a = b)) := by
  simp only [eqO, TI, scalD, Bool.false_eq_true, if_false, okN, ok_ints, Bool.and_self, if_true, eqD, eqDs_ints]
theorem eqO_LI (a b : List Int) : eqO (LI a) (LI b) = some (decide (a = b)) := by
  simp only [eqO, LI, scalD, Bool.false_eq_true, if_false, okN, ok_ints, Bool.and_self, if_true, eqD, eqDs_ints]
theorem eqO_int (a b : Int) : eqO (.int a) (.int b) = some (decide (a = b)) := by
  rw [eqO, scalD, if_pos rfl, eqD]
  by_cases h : a = b <;> simp [h]
/-- a list beside the empty list -/
theorem eqO_nilL {xs : List D} (h : xs.all (okN 59) = true) : eqO (.lst xs) (.lst []) = some xs.isEmpty := by
  simp only [eqO, scalD, Bool.false_eq_true, if_false, okN, h, List.all_nil, Bool.and_self, if_true, eqD]
  cases xs <;> rfl
theorem eqO_nilT {xs : List D} (h : xs.all (okN 59) = true) : eqO (.tup xs) (.tup []) = some xs.isEmpty := by
  simp only [eqO, scalD, Bool.false_eq_true, if_false, okN, h, List.all_nil, Bool.and_self, if_true, eqD]
  cases xs <;> rfl
theorem eqO_nn : eqO (.lst []) (.lst []) = some true := eqO_nilL (by simp)
theorem ok_nats (n : Nat) (ks : List Nat) : (ks.map fun k : Nat => D.int k).all (okN n) = true := by
  simp only [List.all_eq_true, List.mem_map]
  rintro x ⟨i, _, rfl⟩
  simp [okN]
/-! places -/
theorem atI_nat' {α : Type} (xs : List α) (k : Nat) (h : k < xs.length) : atI xs (k : Int) = some xs[k] := by
  rw [atI, ixN, if_pos (by omega), if_pos (by omega), Option.bind_some, Int.toNat_natCast, List.getElem?_eq_getElem h]
theorem atI_toNat {α : Type} (xs : List α) (i : Int) (h0 : 0 ≤ i) (h : i < xs.length) : atI xs i = some (xs[i.toNat]'(by omega)) := by
  rw [atI, ixN, if_pos (by omega), if_pos (by omega), Option.bind_some, List.getElem?_eq_getElem]
/-! operators by the kinds of their operands -/
section
variable (a b : Int) (xs ys : List D) (o : Or) (ρ : Env)
theorem op2_add_int : op2 .add (.int a) (.int b) = some (.int (a + b)) := rfl
theorem op2_sub_int : op2 .sub (.int a) (.int b) = some (.int (a - b)) := rfl
theorem op2_lt_int : op2 .lt (.int a) (.int b) = some (.bool (decide (a < b))) := rfl
theorem op2_le_int : op2 .le (.int a) (.int b) = some (.bool (decide (a ≤ b))) := rfl
theorem op2_gt_int : op2 .gt (.int a) (.int b) = some (.bool (decide (b < a))) := rfl
theorem op2_ge_int : op2 .ge (.int a) (.int b) = some (.bool (decide (b ≤ a))) := rfl
theorem op2_is_non (x : D) : op2 .is x .non = some (.bool (isNon x)) := rfl
theorem op2_isNot_non (x : D) : op2 .isNot x .non = some (.bool (!isNon x)) := rfl
theorem op2_ix_tup : op2 .ix (.tup xs) (.int a) = atI xs a := rfl
theorem op2_ix_lst : op2 .ix (.lst xs) (.int a) = atI xs a := rfl
theorem op2_eq {x y : D} {c : Bool} (h : eqO x y = some c) : op2 .eq x y = some (.bool c) := by rw [op2, h]; rfl
theorem op2_ne {x y : D} {c : Bool} (h : eqO x y = some c) : op2 .ne x y = some (.bool (!c)) := by rw [op2, h]; rfl
theorem op2_eq_int : op2 .eq (.int a) (.int b) = some (.bool (decide (a = b))) := op2_eq (eqO_int a b)
theorem op2_ne_int : op2 .ne (.int a) (.int b) = some (.bool (!decide (a = b))) := op2_ne (eqO_int a b)
theorem op2_eq_TI (u v : List Int) : op2 .eq (TI u) (TI v) = some (.bool (decide (u = v))) := op2_eq (eqO_TI u v)
theorem op2_ne_TI (u v : List Int) : op2 .ne (TI u) (TI v) = some (.bool (!decide (u = v))) := op2_ne (eqO_TI u v)
theorem op2_mul_int {a b : Int} (h : mulOk a b = true) : op2 .mul (.int a) (.int b) = some (.int (a * b)) := by show (if mulOk a b = true then some (D.int (a * b)) else none) = _; rw [if_pos h]
theorem op2_mod_int {a b : Int} (h : 0 < b) : op2 .mod (.int a) (.int b) = some (.int (a % b)) := by show (if 0 < b then some (D.int (a % b)) else none) = _; rw [if_pos h]
theorem op2_fdiv_int {a b : Int} (h : 0 < b) (h2 : b < 1073741824) : op2 .fdiv (.int a) (.int b) = some (.int (a / b)) := by show (if 0 < b ∧ b < 1073741824 then some (D.int (a / b)) else none) = _; rw [if_pos ⟨h, h2⟩]
theorem op2_add_tup {xs ys : List D} (h : xs.length + ys.length ≤ cap) : op2 .add (.tup xs) (.tup ys) = some (.tup (xs ++ ys)) := by show (if xs.length + ys.length ≤ cap then some (D.tup (xs ++ ys)) else none) = _; rw [if_pos h]
theorem op2_add_lst {xs ys : List D} (h : xs.length + ys.length ≤ cap) : op2 .add (.lst xs) (.lst ys) = some (.lst (xs ++ ys)) := by show (if xs.length + ys.length ≤ cap then some (D.lst (xs ++ ys)) else none) = _; rw [if_pos h]
theorem op2_mul_tup {xs : List D} {k : Int} (h : repOk xs.length k = true) : op2 .mul (.tup xs) (.int k) = some (.tup (rep xs k.toNat)) := by show (if repOk xs.length k = true then some (D.tup (rep xs k.toNat)) else none) = _; rw [if_pos h]
theorem op1_not {x : D} {c : Bool} (h : truth x = some c) : op1 .not x = some (.bool (!c)) := by rw [op1, h]; rfl
theorem op1_not_b (c : Bool) : op1 .not (.bool c) = some (.bool (!c)) := rfl
theorem op1_neg_int : op1 .neg (.int a) = some (.int (-a)) := rfl
theorem op1_chkI : op1 .chkI (.int a) = some (.int a) := rfl
theorem isNon_int : isNon (.int a) = false := rfl
theorem isNon_non : isNon .non = true := rfl
theorem isNon_tup : isNon (.tup xs) = false := rfl
theorem isNon_lst : isNon (.lst xs) = false := rfl
theorem bi_len_tup : biF .len [.tup xs] = some (.int xs.length) := rfl
theorem bi_len_lst : biF .len [.lst xs] = some (.int xs.length) := rfl
theorem bi_int : biF .int [.int a] = some (.int a) := rfl
theorem bi_abs : biF .abs [.int a] = some (.int (if a < 0 then -a else a)) := rfl
theorem bi_tuple_lst : biF .tuple [.lst xs] = some (.tup xs) := rfl
theorem bi_tuple_tup : biF .tuple [.tup xs] = some (.tup xs) := rfl
theorem bi_list_tup : biF .list [.tup xs] = some (.lst xs) := rfl
theorem bi_rng1 : biF .range [.int a] = rangeO 0 a := rfl
theorem bi_rng2 : biF .range [.int a, .int b] = rangeO a b := rfl
theorem bi_sum_tup (ns : List Int) : biF .sum [.tup (ns.map .int)] = some (.int ns.sum) := by show ((intsO (ns.map D.int)).map fun ns : List Int => D.int ns.sum) = _; rw [intsO_m]; rfl
theorem bi_sum_lst (ns : List Int) : biF .sum [.lst (ns.map .int)] = some (.int ns.sum) := by show ((intsO (ns.map D.int)).map fun ns : List Int => D.int ns.sum) = _; rw [intsO_m]; rfl
theorem bi_all (bs : List Bool) : biF .all [.lst (bs.map .bool)] = some (.bool (bs.all id)) := by show ((boolsO (bs.map D.bool)).map fun bs : List Bool => D.bool (bs.all id)) = _; rw [boolsO_m]; rfl
theorem bi_any (bs : List Bool) : biF .any [.lst (bs.map .bool)] = some (.bool (bs.any id)) := by show ((boolsO (bs.map D.bool)).map fun bs : List Bool => D.bool (bs.any id)) = _; rw [boolsO_m]; rfl
theorem bi_min (n : Int) (ns : List Int) : biF .min1 [.lst ((n :: ns).map .int)] = some (.int (minL (n :: ns))) := by show minIs (intsO ((n :: ns).map D.int)) = _; rw [intsO_m]; rfl
theorem bi_max (n : Int) (ns : List Int) : biF .max1 [.lst ((n :: ns).map .int)] = some (.int (maxL (n :: ns))) := by show maxIs (intsO ((n :: ns).map D.int)) = _; rw [intsO_m]; rfl
theorem bi_isT {t : Ty} {x : D} {c : Bool} (h : isTy t x = some c) : biF (.isT t) [x] = some (.bool c) := by show (isTy t x).map D.bool = _; rw [h]; rfl
theorem test_bool {α : Type} (c : Bool) (f : Bool → D → Or → R α) : (R.ok (.bool c) o).test f = f c (.bool c) o := rfl
theorem test_int {α : Type} (f : Bool → D → Or → R α) : (R.ok (.int a) o).test f = f (a != 0) (.int a) o := rfl
theorem setS_setS : ∀ (ρ : Env) (i : Nat) (x y : Sl), setS (setS ρ i x) i y = setS ρ i y
  | [], _, _, _ => rfl
  | _ :: _, 0, _, _ => rfl
  | _ :: r, i + 1, x, y => by rw [setS, setS, setS, setS_setS r]
theorem getS_set_eq : ∀ (ρ : Env) (i : Nat) (x : Sl), i < ρ.length → getS (setS ρ i x) i = x
  | [], _, _, h => by simp at h
  | _ :: _, 0, _, _ => rfl
  | _ :: r, i + 1, x, h => by rw [setS, getS, getS_set_eq r i x (by simpa using h)]
theorem getS_set_ne : ∀ (ρ : Env) (i j : Nat) (x : Sl), i ≠ j → getS (setS ρ i x) j = getS ρ j
  | [], _, _, _, _ => rfl
  | _ :: _, 0, 0, _, h => absurd rfl h
  | _ :: _, 0, _ + 1, _, _ => rfl
  | _ :: _, _ + 1, 0, _, _ => rfl
  | _ :: r, i + 1, j + 1, x, h => by rw [setS, getS, getS, getS_set_ne r i j x fun e => h (by rw [e])]
theorem setS_len' : ∀ (ρ : Env) (i : Nat) (x : Sl), (setS ρ i x).length = ρ.length
  | [], _, _ => rfl
  | _ :: _, 0, _ => rfl
  | _ :: r, i + 1, x => by rw [setS, List.length_cons, setS_len' r, List.length_cons]
end
section
variable {C : Nat → List D → Or → R D} {ρ ρ1 : Env} {o o1 o2 : Or} {c e s : IE} {a b : List IS} {i : Nat} {n : Nat} {d : D} {z : Out}
theorem ifT (h : evE C c ρ o = .ok (.bool true) o1) (h2 : evSs C a ρ o1 = z) : evS C (.ifs c a b) ρ o = z := by rw [evS, h]; exact h2
theorem ifF (h : evE C c ρ o = .ok (.bool false) o1) (h2 : evSs C b ρ o1 = z) : evS C (.ifs c a b) ρ o = z := by rw [evS, h]; exact h2
theorem ifB {q : Bool} (h : evE C c ρ o = .ok (.bool q) o1) (h2 : (if q then evSs C a ρ o1 else evSs C b ρ o1) = z) : evS C (.ifs c a b) ρ o = z := by
  cases q
  · exact ifF h h2
  · exact ifT h h2
theorem st_ret (h : evE C e ρ o = .ok d o1) : evS C (.ret e) ρ o = .rt d o1 := by rw [evS, h]; rfl
theorem st_set (h : evE C e ρ o = .ok d o1) : evS C (.set (.slot i) e) ρ o = .nx (setS ρ i (.val d)) o1 := by rw [evS, h]; rfl
theorem st_setO {xs : List D} (h : evE C e ρ o = .ok (.lst xs) o1) : evS C (.setO i e) ρ o = .nx (setS ρ i (.own (.lst xs))) o1 := by rw [evS, h]; rfl
theorem st_par {ps : List (Nat × Bool)} {es : List IE} {xs : List D} (h : evEs C es ρ o = .ok xs o1) (h2 : parS ps xs ρ = some ρ1) : evS C (.par ps es) ρ o = .nx ρ1 o1 := by rw [evS, h, R.out_ok, h2]
theorem st_app {xs : List D} (h : getS ρ i = .own (.lst xs)) (h2 : evE C e ρ o = .ok d o1) (h3 : xs.length < cap) : evS C (.app i e) ρ o = .nx (setS ρ i (.own (.lst (xs ++ [d])))) o1 := by rw [evS, h]; simp only [h2, R.out_ok, if_pos h3]
theorem st_aug {p : O2} {x y w : D} (h : getS ρ i = .val x) (hs : scalar x = true) (h2 : evE C e ρ o = .ok y o1) (h3 : op2 p x y = some w) : evS C (.aug i p e) ρ o = .nx (setS ρ i (.val w)) o1 := by rw [evS, h]; simp only [hs, if_true, h2, R.out_ok, h3]
theorem st_for {p : IP} {xs : List D} (h : evE C s ρ o = .ok (.lst xs) o1) (h2 : forM (fun x ρ o => match bindP p x ρ with
        | none => .no
        | some ρ => evSs C b ρ o) xs ρ o1 = z) : evS C (.for_ p s b) ρ o = z := by rw [evS, h]; exact h2
theorem st_forI {xs : List D} (h : evE C s ρ o = .ok (.lst xs) o1) (h2 : forM (fun x ρ o => evSs C b (setS ρ i (.val x)) o) xs ρ o1 = z) : evS C (.for_ (.slot i) s b) ρ o = z := st_for h h2
theorem st_forT {xs : List D} (h : evE C s ρ o = .ok (.tup xs) o1) (h2 : forM (fun x ρ o => evSs C b (setS ρ i (.val x)) o) xs ρ o1 = z) : evS C (.for_ (.slot i) s b) ρ o = z := by rw [evS, h]; exact h2
theorem ev_range {n : Int} (h : evE C e ρ o = .ok (.int n) o1) (h0 : 0 ≤ n) (hc : n ≤ cap) : evE C (.bi .range [e]) ρ o = .ok (.lst (RI n.toNat)) o1 := by
  rw [evE, evEs, h, R.bind_ok, evEs, R.bind_ok, R.bind_ok, bi_rng1, rangeO_nat h0 hc]; rfl
/-- a comprehension over a range, drawing nothing -/
theorem ev_comp {g : Nat → D} (hs : evE C s ρ o = .ok (.lst (RI n)) o1) (he : ∀ k < n, evE C e (setS ρ i (.val (.int k))) o1 = .ok (g k) o1) : evE C (.comp (.slot i) s (.cst (.bool true)) e) ρ o = .ok (.lst ((List.range n).map g)) o1 := by
  rw [evE, hs]
  simp only [R.seq, R.bind_ok, items, R.of_some]
  rw [compM_RI (g := g)]
  · rfl
  · intro k hk
    simp only [bindP, wipeS, slotsP, setS_setS, evE, test_bool, if_true, he k hk, R.bind_ok]
theorem ev_compF {g : Nat → D} {p : Nat → Bool} (hs : evE C s ρ o = .ok (.lst (RI n)) o1) (hc : ∀ k < n, evE C c (setS ρ i (.val (.int k))) o1 = .ok (.bool (p k)) o1) (he : ∀ k < n, p k = true → evE C e (setS ρ i (.val (.int k))) o1 = .ok (g k) o1) :
    evE C (.comp (.slot i) s c e) ρ o = .ok (.lst (((List.range n).filter p).map g)) o1 := by
  rw [evE, hs]
  simp only [R.seq, R.bind_ok, items, R.of_some]
  rw [compM_RIf (g := fun k => if p k then some (g k) else none)]
  · have : (List.range n).filterMap (fun k => if p k then some (g k) else none) = ((List.range n).filter p).map g := by
      induction List.range n with
      | nil => rfl
      | cons k ks ih =>
        rw [List.filterMap_cons, List.filter_cons]
        cases p k <;> simp [ih]
    rw [this]; rfl
  · intro k hk
    simp only [bindP, wipeS, slotsP, setS_setS, hc k hk, test_bool]
    cases h : p k
    · rfl
    · simp only [if_true, he k hk h, R.bind_ok]
/-- .. over any items -/
theorem ev_compX {f : D → D} {xs : List D} (hs : (evE C s ρ o).seq = .ok xs o1) (he : ∀ x ∈ xs, evE C e (setS ρ i (.val x)) o1 = .ok (f x) o1) : evE C (.comp (.slot i) s (.cst (.bool true)) e) ρ o = .ok (.lst (xs.map f)) o1 := by
  rw [evE, hs, R.bind_ok, compM_map (g := f)]
  · rfl
  · intro x hx
    simp only [bindP, wipeS, slotsP, setS_setS, evE, test_bool, if_true, he x hx, R.bind_ok]
theorem ev_compXF {f : D → D} {p : D → Bool} {xs : List D} (hs : (evE C s ρ o).seq = .ok xs o1) (hc : ∀ x ∈ xs, evE C c (setS ρ i (.val x)) o1 = .ok (.bool (p x)) o1) (he : ∀ x ∈ xs, p x = true → evE C e (setS ρ i (.val x)) o1 = .ok (f x) o1) : evE C (.comp (.slot i) s c e) ρ o = .ok (.lst ((xs.filter p).map f)) o1 := by
  rw [evE, hs, R.bind_ok, compM_fm (g := fun x => if p x then some (f x) else none)]
  · have : xs.filterMap (fun k => if p k then some (f k) else none) = (xs.filter p).map f := by
      clear hs hc he
      induction xs with
      | nil => rfl
      | cons k ks ih =>
        rw [List.filterMap_cons, List.filter_cons]
        cases p k <;> simp [ih]
    rw [this]; rfl
  · intro x hx
    simp only [bindP, wipeS, slotsP, setS_setS, hc x hx, test_bool]
    cases h : p x
    · rfl
    · simp only [if_true, he x hx h, R.bind_ok]
/-- a comprehension over a range that draws an int each turn -/
theorem ev_compN {P : Int → Prop} (hs : evE C s ρ o = .ok (.lst (RI n)) o1) (he : ∀ k < n, ∀ o, ∃ m o', evE C e (setS ρ i (.val (.int k))) o = .ok (.int m) o' ∧ P m) : ∃ (ns : List Int) (o' : Or), evE C (.comp (.slot i) s (.cst (.bool true)) e) ρ o = .ok (.lst (ns.map .int)) o' ∧ ns.length = n ∧ ∀ m ∈ ns, P m := by
  obtain ⟨ns, o', h, hl, hp⟩ := compM_drawI (P := P) (xs := RI n) (f := fun x o => match bindP (.slot i) x (wipeS ρ (slotsP (.slot i))) with
        | none => .no
        | some ρ => (evE C (.cst (.bool true)) ρ o).test fun t _ o => if t then (evE C e ρ o).bind fun y o => .ok (some y) o else .ok none o) (fun x hx o => by
    obtain ⟨k, hk, rfl⟩ := mem_RI hx
    obtain ⟨m, o', h, hm⟩ := he k hk o
    refine ⟨m, o', ?_, hm⟩
    simp only [bindP, wipeS, slotsP, setS_setS, evE, test_bool, if_true, h, R.bind_ok]) o1
  refine ⟨ns, o', ?_, by rw [hl, RI_len], hp⟩
  rw [evE, hs]
  simp only [R.seq, R.bind_ok, items, R.of_some]
  exact congrArg (fun r : R (List D) => r.pure.bind fun ys o => R.ok (D.lst ys) o) h
end
/-! the draws -/
/-- _law_next answers by an int below m -/
def Nx (C : Nat → List D → Or → R D) (i : Nat) : Prop := ∀ (m : Int) (o : Or), 0 < m → ∃ (v : Int) (o' : Or), 0 ≤ v ∧ v < m ∧ C i [.tok, .int m] o = .ok (.int v) o'
theorem nx_of {T : Nat → Fn} {i : Nat} (h : T i = ⟨2, 2, [.ret (.draw (.var 0) (.var 1))]⟩) (k : Nat) : Nx (callN T (k + 1)) i := by
  intro m o hm
  rw [callN, h]
  simp only [List.length_cons, List.length_nil, if_true, startS, List.map, List.replicate, List.cons_append, List.nil_append, evSs, evS, evE, getS, R.bind_ok, drawF, hm]
  cases o with
  | nil => exact ⟨0, [], by omega, hm, rfl⟩
  | cons x r => exact ⟨x % m, r, Int.emod_nonneg _ (by omega), Int.emod_lt_of_pos _ hm, rfl⟩
/-! _law_alike -/
def iAlike (i : Nat) : List IS := [.ifs (.bi (.isT .tup) [(.var 1)]) [.ifs (.or (.op1 .not (.bi (.isT .tup) [(.var 0)])) (.op2 .ne (.bi .len [(.var 0)]) (.bi .len [(.var 1)]))) [.ret (.cst (.bool false))] [],
    .ret (.op2 .eq (.comp (.slot 2) (.bi .range [(.bi .len [(.var 1)])]) (.op1 .not (.call i [(.op2 .ix (.var 0) (.var 2)), (.op2 .ix (.var 1) (.var 2))])) (.var 2)) (.lst []))] [],
    .ifs (.op2 .is (.var 1) (.cst .non)) [.ret (.op2 .is (.var 0) (.cst .non))] [],
    .ifs (.bi (.isT .bool) [(.var 1)]) [.ret (.and (.bi (.isT .bool) [(.var 0)]) (.op2 .eq (.var 0) (.var 1)))] [],
    .ifs (.bi (.isT .int) [(.var 1)]) [.ret (.and (.bi (.isT .int) [(.var 0)]) (.and (.op1 .not (.bi (.isT .bool) [(.var 0)])) (.op2 .eq (.var 0) (.var 1))))] [],
    .ret (.and (.bi (.isT .str) [(.var 0)]) (.op2 .eq (.var 0) (.var 1)))]
/-- plain data at most n deep -/
def plD : Nat → D → Bool
  | _, .non => true
  | _, .bool _ => true
  | _, .int _ => true
  | _, .str _ => true
  | n + 1, .tup xs => decide (xs.length ≤ cap) && xs.all (plD n)
  | _, _ => false
def flatD : D → Bool
  | .non => true
  | .bool _ => true
  | .int _ => true
  | .str _ => true
  | _ => false
theorem range_len {α : Type} {xs : List α} (hl : xs.length ≤ cap) : rangeO 0 (xs.length : Int) = some (.lst (RI xs.length)) := by
  have h : ((xs.length : Nat) : Int) ≤ ((cap : Nat) : Int) := Int.ofNat_le.mpr hl
  rw [rangeO_nat (Int.natCast_nonneg _) h, Int.toNat_natCast]
theorem alike_flat {T : Nat → Fn} {i : Nat} (h : T i = ⟨2, 3, iAlike i⟩) (d : D) (hd : flatD d = true) (j : Nat) (o : Or) : callN T (j + 1) i [d, d] o = .ok (.bool true) o := by
  cases d with
  | non => exact call_rt h (stp rfl (stR rfl))
  | bool b => exact call_rt h (stp rfl (stp rfl (stR (by cases b <;> rfl))))
  | int b =>
    refine call_rt h (stp rfl (stp rfl (stp rfl (stR ?_))))
    simp only [startS, List.map, List.length_cons, List.length_nil, List.replicate, List.cons_append, List.nil_append, evS, evE, evEs, getS, R.bind_ok, biF, un1, isTy, Option.map, R.of_some, R.out_ok, truth, op1, op2, eqO_int, R.test, decide_true, Bool.not_false, if_true, evSs_cons', evSs_nil', Out.then_rt]
  | str b =>
    have : eqO (.str b) (.str b) = some true := by simp [eqO, scalD, eqD]
    refine call_rt h (stp rfl (stp rfl (stp rfl (stp rfl (stR ?_)))))
    simp only [startS, List.map, List.length_cons, List.length_nil, List.replicate, List.cons_append, List.nil_append, evS, evE, evEs, getS, R.bind_ok, biF, un1, isTy, Option.map, R.of_some, R.out_ok, truth, op1, op2, this, R.test, if_true]
  | _ => cases hd
theorem alike_refl {T : Nat → Fn} {i : Nat} (h : T i = ⟨2, 3, iAlike i⟩) : ∀ (n : Nat) (d : D), plD n d = true → ∀ (k : Nat) (o : Or), callN T (k + n + 1) i [d, d] o = .ok (.bool true) o := by
  intro n
  induction n with
  | zero =>
    intro d hp k o
    cases d <;> first
      | exact alike_flat h _ rfl _ _
      | cases hp
  | succ n ih =>
    intro d hp k o
    cases d with
    | tup xs =>
      simp only [plD, Bool.and_eq_true, decide_eq_true_eq, List.all_eq_true] at hp
      obtain ⟨hl, hx⟩ := hp
      have ih' : ∀ x ∈ xs, ∀ o, callN T (k + n + 1) i [x, x] o = .ok (.bool true) o := fun x hm o => ih x (hx x hm) k o
      rw [show k + (n + 1) + 1 = (k + n + 1) + 1 by omega]
      refine call_rt h (stR (ifT rfl (stp (o1 := o) (ifF ?_ rfl) (stR (st_ret ?_)))))
      · simp only [startS, List.map, List.length_cons, List.length_nil, List.replicate, List.cons_append, List.nil_append, evE, evEs, getS, R.bind_ok, bi_isT (t := .tup) (x := .tup xs) rfl, R.of_some, op1_not_b, test_bool, Bool.not_true, Bool.false_eq_true, if_false, bi_len_tup, op2_ne_int, decide_true]
      · rw [evE, ev_compF (n := xs.length) (o1 := o) (p := fun _ => false) (g := fun _ => .non)]
        · rw [R.bind_ok, evE, evEs, R.bind_ok, R.bind_ok, show (List.range xs.length).filter (fun _ => false) = [] by simp, List.map_nil, op2_eq eqO_nn]; rfl
        · have e := ev_range (C := callN T (k + n + 1)) (e := .bi .len [.var 1]) (ρ := [.val (.tup xs), .val (.tup xs), .un]) (o := o) (o1 := o) (n := xs.length) rfl (Int.natCast_nonneg _) (Int.ofNat_le.mpr hl)
          rw [Int.toNat_natCast] at e
          exact e
        · intro j hj
          simp only [startS, List.map, List.length_cons, List.length_nil, List.replicate, List.cons_append, List.nil_append, setS, evE, evEs, getS, R.bind_ok, op2_ix_tup, atI_nat' xs j hj, R.of_some, ih' _ (List.getElem_mem hj), op1_not_b, Bool.not_true]
        · intro j _ h; cases h
    | lst xs => cases hp
    | dic xs => cases hp
    | tok => cases hp
    | _ => exact alike_flat h _ rfl _ _
end BV

end
/-! text: BM2.lean -/
section
set_option autoImplicit false
set_option maxRecDepth 100000
namespace BV
/-! BM2: more plain lemmas -/
section
variable {C : Nat → List D → Or → R D} {ρ : Env} {o o1 o2 o3 o4 : Or} {e e1 e2 e3 e4 a b : IE} {d x y z u v : D} {f : Nat}
theorem ev_bi1 {p : Bi} (h : evE C e ρ o = .ok x o1) (h2 : biF p [x] = some z) : evE C (.bi p [e]) ρ o = .ok z o1 := by rw [evE, evEs, h, R.bind_ok, evEs, R.bind_ok, R.bind_ok, h2]; rfl
theorem ev_bi2 {p : Bi} (h : evE C a ρ o = .ok x o1) (h1 : evE C b ρ o1 = .ok y o2) (h2 : biF p [x, y] = some z) : evE C (.bi p [a, b]) ρ o = .ok z o2 := by rw [evE, evEs, h, R.bind_ok, evEs, h1, R.bind_ok, evEs, R.bind_ok, R.bind_ok, R.bind_ok, h2]; rfl
theorem ev_op2 {p : O2} (h : evE C a ρ o = .ok x o1) (h1 : evE C b ρ o1 = .ok y o2) (h2 : op2 p x y = some z) : evE C (.op2 p a b) ρ o = .ok z o2 := by rw [evE, h, R.bind_ok, h1, R.bind_ok, h2]; rfl
theorem ev_op1 {p : O1} (h : evE C a ρ o = .ok x o1) (h2 : op1 p x = some z) : evE C (.op1 p a) ρ o = .ok z o1 := by rw [evE, h, R.bind_ok, h2]; rfl
theorem ev_not {q : Bool} (h : evE C a ρ o = .ok (.bool q) o1) : evE C (.op1 .not a) ρ o = .ok (.bool (!q)) o1 := ev_op1 h rfl
theorem ev_call1 (h : evE C e ρ o = .ok x o1) (h2 : C f [x] o1 = .ok z o2) : evE C (.call f [e]) ρ o = .ok z o2 := by rw [evE, evEs, h, R.bind_ok, evEs, R.bind_ok, R.bind_ok, h2]
theorem ev_call2 (h : evE C a ρ o = .ok x o1) (h1 : evE C b ρ o1 = .ok y o2) (h2 : C f [x, y] o2 = .ok z o3) : evE C (.call f [a, b]) ρ o = .ok z o3 := by rw [evE, evEs, h, R.bind_ok, evEs, h1, R.bind_ok, evEs, R.bind_ok, R.bind_ok, R.bind_ok, h2]
theorem ev_call3 (h : evE C e1 ρ o = .ok x o1) (h1 : evE C e2 ρ o1 = .ok y o2) (h2 : evE C e3 ρ o2 = .ok u o3) (h3 : C f [x, y, u] o3 = .ok z o4) : evE C (.call f [e1, e2, e3]) ρ o = .ok z o4 := by
  rw [evE, evEs, h, R.bind_ok, evEs, h1, R.bind_ok, evEs, h2, R.bind_ok, evEs]; exact h3
theorem ev_call4 {o5 : Or} (h : evE C e1 ρ o = .ok x o1) (h1 : evE C e2 ρ o1 = .ok y o2) (h2 : evE C e3 ρ o2 = .ok u o3) (h3 : evE C e4 ρ o3 = .ok v o4) (h4 : C f [x, y, u, v] o4 = .ok z o5) : evE C (.call f [e1, e2, e3, e4]) ρ o = .ok z o5 := by
  rw [evE, evEs, h, R.bind_ok, evEs, h1, R.bind_ok, evEs, h2, R.bind_ok, evEs, h3, R.bind_ok, evEs]; exact h4
theorem ev_iteB {q : Bool} (h : evE C e ρ o = .ok (.bool q) o1) (h2 : (if q then evE C a ρ o1 else evE C b ρ o1) = .ok z o2) : evE C (.ite e a b) ρ o = .ok z o2 := by rw [evE, h, test_bool]; exact h2
theorem ev_andB {q : Bool} (h : evE C a ρ o = .ok (.bool q) o1) (h2 : (if q then evE C b ρ o1 else .ok (.bool q) o1) = .ok z o2) : evE C (.and a b) ρ o = .ok z o2 := by rw [evE, h, test_bool]; exact h2
theorem ev_orB {q : Bool} (h : evE C a ρ o = .ok (.bool q) o1) (h2 : (if q then .ok (.bool q) o1 else evE C b ρ o1) = .ok z o2) : evE C (.or a b) ρ o = .ok z o2 := by rw [evE, h, test_bool]; exact h2
theorem ev_iteT (h : evE C e ρ o = .ok (.bool true) o1) (h2 : evE C a ρ o1 = .ok z o2) : evE C (.ite e a b) ρ o = .ok z o2 := ev_iteB h h2
theorem ev_iteF (h : evE C e ρ o = .ok (.bool false) o1) (h2 : evE C b ρ o1 = .ok z o2) : evE C (.ite e a b) ρ o = .ok z o2 := ev_iteB h h2
theorem ev_andT (h : evE C a ρ o = .ok (.bool true) o1) (h2 : evE C b ρ o1 = .ok z o2) : evE C (.and a b) ρ o = .ok z o2 := ev_andB h h2
theorem ev_andF (h : evE C a ρ o = .ok (.bool false) o1) : evE C (.and a b) ρ o = .ok (.bool false) o1 := ev_andB h rfl
theorem ev_orT (h : evE C a ρ o = .ok (.bool true) o1) : evE C (.or a b) ρ o = .ok (.bool true) o1 := ev_orB h rfl
theorem ev_mthI {xs : List D} {w : D} (h : evE C a ρ o = .ok (.lst xs) o1) (h1 : evE C b ρ o1 = .ok y o2) (h2 : indexO (.lst xs) y = some w) : evE C (.mth .index a [b]) ρ o = .ok w o2 := by
  rw [evE, h, R.bind_ok, if_pos (by rfl : mtOk .index (.lst xs) = true), evEs, h1, R.bind_ok, evEs, R.bind_ok, R.bind_ok, mtF, un1, h2]; rfl
/-- two Booleans -/
theorem ev_and2 {p q : Bool} (h : evE C a ρ o = .ok (.bool p) o1) (h2 : p = true → evE C b ρ o1 = .ok (.bool q) o1) : evE C (.and a b) ρ o = .ok (.bool (p && q)) o1 := by
  refine ev_andB h ?_
  cases p
  · rfl
  · exact h2 rfl
theorem ev_orF (h : evE C a ρ o = .ok (.bool false) o1) (h2 : evE C b ρ o1 = .ok (.bool false) o2) : evE C (.or a b) ρ o = .ok (.bool false) o2 := ev_orB h h2
theorem ev_tup {es : List IE} {xs : List D} (h : evEs C es ρ o = .ok xs o1) : evE C (.tup es) ρ o = .ok (.tup xs) o1 := by rw [evE, h]; rfl
theorem ev_lst {es : List IE} {xs : List D} (h : evEs C es ρ o = .ok xs o1) : evE C (.lst es) ρ o = .ok (.lst xs) o1 := by rw [evE, h]; rfl
theorem evs_nil : evEs C [] ρ o = .ok [] o := by rw [evEs]
theorem evs_cons {es : List IE} {xs : List D} (h : evE C e ρ o = .ok x o1) (h2 : evEs C es ρ o1 = .ok xs o2) : evEs C (e :: es) ρ o = .ok (x :: xs) o2 := by rw [evEs, h, R.bind_ok, h2]; rfl
theorem ev_slice {xs : List D} {l h : D} {lo hi : Option Int} {e2 e3 : IE} (ha : evE C a ρ o = .ok (.tup xs) o1) (hl : evE C e2 ρ o1 = .ok l o2) (hh : evE C e3 ρ o2 = .ok h o3) (pl : partO l = some lo) (ph : partO h = some hi) : evE C (.slice a e2 e3) ρ o = .ok (.tup (cut xs lo hi)) o3 := by
  rw [evE, ha, R.bind_ok, hl, R.bind_ok, hh, R.bind_ok, sliceO, pl, ph]; rfl
theorem ev_sliceL {xs : List D} {l h : D} {lo hi : Option Int} {e2 e3 : IE} (ha : evE C a ρ o = .ok (.lst xs) o1) (hl : evE C e2 ρ o1 = .ok l o2) (hh : evE C e3 ρ o2 = .ok h o3) (pl : partO l = some lo) (ph : partO h = some hi) : evE C (.slice a e2 e3) ρ o = .ok (.lst (cut xs lo hi)) o3 := by
  rw [evE, ha, R.bind_ok, hl, R.bind_ok, hh, R.bind_ok, sliceO, pl, ph]; rfl
theorem ev_var {i : Nat} (h : getS ρ i = .val d) : evE C (.var i) ρ o = .ok d o := by rw [evE, h]
theorem ev_pk {i : Nat} (h : getS ρ i = .val d) : evE C (.pk i) ρ o = .ok d o := by rw [evE, h]
theorem ev_pkO {i : Nat} (h : getS ρ i = .own d) : evE C (.pk i) ρ o = .ok d o := by rw [evE, h]
theorem ev_cst : evE C (.cst d) ρ o = .ok d o := by rw [evE]
end
theorem cut_hi {α : Type} (xs : List α) (k : Nat) (h : k ≤ xs.length) : cut xs none (some (k : Int)) = xs.take k := by
  simp only [cut, sIx, List.drop_zero, Nat.sub_zero]
  rw [if_neg (by omega), Int.toNat_natCast, Nat.min_eq_left h]
theorem cut_lo {α : Type} (xs : List α) (k : Nat) (h : k ≤ xs.length) : cut xs (some (k : Int)) none = xs.drop k := by
  simp only [cut, sIx]
  rw [if_neg (by omega), Int.toNat_natCast, Nat.min_eq_left h]
  exact List.take_of_length_le (by simp)
theorem bi_len_TI (cs : List Int) : biF .len [TI cs] = some (.int cs.length) := by rw [TI, bi_len_tup, List.length_map]
theorem bi_len_LI (cs : List Int) : biF .len [LI cs] = some (.int cs.length) := by rw [LI, bi_len_lst, List.length_map]
theorem ix_TI {cs : List Int} {i : Int} (h0 : 0 ≤ i) (h : i < cs.length) : op2 .ix (TI cs) (.int i) = some (.int (cs.getD i.toNat 0)) := by
  rw [TI, op2_ix_tup, atI_toNat _ _ h0 (by simpa using h), List.getElem_map, List.getD_eq_getElem?_getD, List.getElem?_eq_getElem (by omega)]; rfl
theorem ix_LI {cs : List Int} {i : Int} (h0 : 0 ≤ i) (h : i < cs.length) : op2 .ix (LI cs) (.int i) = some (.int (cs.getD i.toNat 0)) := by
  rw [LI, op2_ix_lst, atI_toNat _ _ h0 (by simpa using h), List.getElem_map, List.getD_eq_getElem?_getD, List.getElem?_eq_getElem (by omega)]; rfl
/-- the number at i, round and round -/
def at_ (cs : List Int) (i : Int) : Int := cs.getD (i % cs.length).toNat 0
theorem ix_at {cs : List Int} (h : 0 < cs.length) (i : Int) : op2 .ix (TI cs) (.int (i % (cs.length : Int))) = some (.int (at_ cs i)) :=
  ix_TI (Int.emod_nonneg _ (by omega)) (Int.emod_lt_of_pos _ (by omega))
theorem plD_int (n : Nat) (i : Int) : plD n (.int i) = true := by cases n <;> rfl
theorem plD_TI (n : Nat) (cs : List Int) (h : cs.length ≤ cap) : plD (n + 1) (TI cs) = true := by
  simp only [plD, TI, List.length_map, Bool.and_eq_true, decide_eq_true_eq, List.all_eq_true, List.mem_map]
  refine ⟨h, ?_⟩
  rintro x ⟨i, _, rfl⟩
  exact plD_int _ _
/-- Nat places as ints -/
def ni (ks : List Nat) : List Int := ks.map fun k : Nat => (k : Int)
theorem ni_map (ks : List Nat) : (ks.map fun k : Nat => D.int k) = (ni ks).map D.int := by rw [ni, List.map_map]; rfl
theorem ni_len (ks : List Nat) : (ni ks).length = ks.length := by simp [ni]
theorem ev_rangeN {C : Nat → List D → Or → R D} {ρ : Env} {o o1 : Or} {e : IE} {n : Nat} (h : evE C e ρ o = .ok (.int n) o1) (hc : n ≤ cap) : evE C (.bi .range [e]) ρ o = .ok (.lst (RI n)) o1 := by
  have := ev_range h (Int.natCast_nonneg n) (Int.ofNat_le.mpr hc)
  rwa [Int.toNat_natCast] at this
theorem op2_mul_nat {a b : Nat} (h : a ≤ 1000000) : op2 .mul (.int a) (.int b) = some (.int ((a * b : Nat) : Int)) := by
  rw [op2_mul_int, Int.natCast_mul]
  simp only [mulOk, Bool.or_eq_true, Bool.and_eq_true, decide_eq_true_eq]
  left; omega
/-- a loop over 0 .. n-1 that may return -/
theorem forM_find {f : D → Env → Or → Out} {p : Nat → Bool} {r : Nat → D} {I : Env → Prop} {o : Or} (g : Nat → D) : ∀ (ks : List Nat), (∀ k ∈ ks, ∀ ρ, I ρ → if p k = true then f (g k) ρ o = .rt (r k) o else ∃ ρ', f (g k) ρ o = .nx ρ' o ∧ I ρ') → ∀ {ρ}, I ρ →
    match ks.find? p with
    | some k => forM f (ks.map g) ρ o = .rt (r k) o
    | none => ∃ ρ', forM f (ks.map g) ρ o = .nx ρ' o ∧ I ρ'
  | [], _, ρ, i => ⟨ρ, rfl, i⟩
  | k :: ks, h, ρ, i => by
    have hk := h k (by simp) ρ i
    rw [List.find?_cons]
    cases hp : p k with
    | true =>
      rw [if_pos hp] at hk
      show forM f (g k :: ks.map g) ρ o = _
      rw [forM, hk]; rfl
    | false =>
      rw [hp, if_neg (by decide)] at hk
      obtain ⟨ρ1, e, i1⟩ := hk
      have := forM_find g ks (fun j hj => h j (by simp [hj])) i1
      show match ks.find? p with
        | some k => forM f (g _ :: ks.map g) ρ o = .rt (r k) o
        | none => ∃ ρ', forM f (g _ :: ks.map g) ρ o = .nx ρ' o ∧ I ρ'
      rw [forM, e]
      exact this
theorem filt_all (p : Nat → Bool) (ks : List Nat) : (ks.filter fun j => !p j).isEmpty = ks.all p := by
  induction ks with
  | nil => rfl
  | cons k ks ih =>
    rw [List.filter_cons, List.all_cons, ← ih]
    cases p k <;> rfl
theorem eq_range {xs : List Int} {g : Nat → Int} : ((List.range xs.length).map g = xs) ↔ ∀ j < xs.length, g j = xs.getD j 0 := by
  constructor
  · intro h j hj
    have e := congrArg (fun l : List Int => l.getD j 0) h
    simp only [List.getD_eq_getElem?_getD, List.getElem?_map, List.getElem?_range hj, Option.map_some, Option.getD_some] at e
    rw [e, List.getD_eq_getElem?_getD]
  · intro h
    refine List.ext_getElem (by simp) fun j h1 h2 => ?_
    rw [List.getElem_map, List.getElem_range, h j h2, List.getD_eq_getElem?_getD, List.getElem?_eq_getElem h2]; rfl
theorem evI_nil {C : Nat → List D → Or → R D} {ρ : Env} {o o1 : Or} {e : IE} {xs : List D} (h : evE C e ρ o = .ok (.lst xs) o1) (hx : xs.all (okN 59) = true) : evE C (.op2 .eq e (.lst [])) ρ o = .ok (.bool xs.isEmpty) o1 :=
  ev_op2 h (ev_lst evs_nil) (op2_eq (eqO_nilL hx))
theorem evI_nnil {C : Nat → List D → Or → R D} {ρ : Env} {o o1 : Or} {e : IE} {xs : List D} (h : evE C e ρ o = .ok (.lst xs) o1) (hx : xs.all (okN 59) = true) : evE C (.op2 .ne e (.lst [])) ρ o = .ok (.bool (!xs.isEmpty)) o1 :=
  ev_op2 h (ev_lst evs_nil) (op2_ne (eqO_nilL hx))
theorem isEmpty_map {α β : Type} (f : α → β) (xs : List α) : (xs.map f).isEmpty = xs.isEmpty := by cases xs <;> rfl
def optD : Option Nat → D
  | some k => .int k
  | none => .non
theorem minL_mem : ∀ (n : Int) (ns : List Int), minL (n :: ns) ∈ n :: ns
  | n, [] => by simp [minL]
  | n, m :: r => by
    have := minL_mem m r
    show (if minL (m :: r) < n then minL (m :: r) else n) ∈ _
    split
    · exact List.mem_cons_of_mem _ this
    · simp
theorem minL_le : ∀ (n : Int) (ns : List Int), ∀ x ∈ n :: ns, minL (n :: ns) ≤ x
  | n, [], x, h => by simp at h; simp [minL, h]
  | n, m :: r, x, h => by
    have := minL_le m r
    show (if minL (m :: r) < n then minL (m :: r) else n) ≤ x
    rcases List.mem_cons.mp h with rfl | h
    · split <;> omega
    · have := this x h
      split <;> omega
theorem findD_mem (y : Int) : ∀ (ns : List Int) (k : Nat), y ∈ ns → ∃ j, findD (.int y) (ns.map .int) k = some j
  | [], _, h => by simp at h
  | n :: ns, k, h => by
    rw [List.map_cons, findD, eqD]
    by_cases e : n = y
    · exact ⟨k, by simp [e]⟩
    · rcases List.mem_cons.mp h with h | h
      · exact absurd h.symm e
      · obtain ⟨j, hj⟩ := findD_mem y ns (k + 1) h
        exact ⟨j, by simp [e, hj]⟩
theorem flat_ints (ns : List Int) : (ns.map D.int).all flat = true := by
  simp only [List.all_eq_true, List.mem_map]
  rintro x ⟨i, _, rfl⟩
  rfl
theorem indexO_ints {ns : List Int} {y : Int} (h : y ∈ ns) : ∃ j : Nat, indexO (.lst (ns.map .int)) (.int y) = some (.int j) := by
  obtain ⟨j, hj⟩ := findD_mem y ns 0 h
  refine ⟨j, ?_⟩
  simp only [indexO, lstO, Option.bind_some, flat_ints, flat, Bool.and_self, if_true, hj, Option.map_some]
  rfl
theorem inO_LI (ns : List Int) (y : Int) : op2 .isIn (.int y) (.lst (ns.map .int)) = some (.bool (ns.any fun n => decide (n = y))) := by
  show (if (flat (.int y) && (ns.map D.int).all flat) = true then some ((ns.map D.int).any fun x => eqD x (.int y)) else none).map D.bool = _
  rw [flat_ints, List.any_map]
  congr 2
theorem inO_TI (ns : List Int) (y : Int) : op2 .isIn (.int y) (TI ns) = some (.bool (ns.any fun n => decide (n = y))) := by
  show (if (flat (.int y) && (ns.map D.int).all flat) = true then some ((ns.map D.int).any fun x => eqD x (.int y)) else none).map D.bool = _
  rw [flat_ints, List.any_map]
  congr 2
/-- a whole comparison by _law_alike that holds -/
theorem ev_alike {T : Nat → Fn} {i k n : Nat} {ρ : Env} {o o1 o2 : Or} {a b : IE} {x y : D} (h : T i = ⟨2, 3, iAlike i⟩) (ha : evE (callN T (k + n + 1)) a ρ o = .ok x o1) (hb : evE (callN T (k + n + 1)) b ρ o1 = .ok y o2) (e : x = y) (hp : plD n x = true) :
    evE (callN T (k + n + 1)) (.op1 .not (.call i [a, b])) ρ o = .ok (.bool false) o2 := by
  subst e
  exact ev_not (q := true) (ev_call2 ha hb (alike_refl h n x hp k o2))
theorem cut_hiA {α : Type} (xs : List α) (k : Nat) : cut xs none (some (k : Int)) = xs.take k := by
  rcases Nat.le_total k xs.length with h | h
  · exact cut_hi xs k h
  · simp only [cut, sIx, List.drop_zero, Nat.sub_zero]
    rw [if_neg (by omega), Int.toNat_natCast, Nat.min_eq_right h, List.take_of_length_le (by omega), List.take_of_length_le h]
theorem cut_m1 {α : Type} (xs : List α) (h : 0 < xs.length) : cut xs none (some (-1)) = xs.take (xs.length - 1) := by
  simp only [cut, sIx, List.drop_zero, Nat.sub_zero]
  rw [if_pos (by omega), show ((-1 : Int) + (xs.length : Int)).toNat = xs.length - 1 by omega]
/-- the body ends well: the draws' slot and the number of slots are as before -/
def Gd (n : Nat) (x : Out) (P : Env → Or → Prop) : Prop := ∃ ρ' o', x = .nx ρ' o' ∧ ρ'.length = n ∧ P ρ' o'
theorem stpG {C : Nat → List D → Or → R D} {s : IS} {r : List IS} {ρ ρ1 : Env} {o o1 : Or} {n : Nat} {P : Env → Or → Prop} (h : evS C s ρ o = .nx ρ1 o1) (h2 : Gd n (evSs C r ρ1 o1) P) : Gd n (evSs C (s :: r) ρ o) P := by rw [evSs_cons', h]; exact h2
theorem evSs_app {C : Nat → List D → Or → R D} : ∀ (a b : List IS) (ρ : Env) (o : Or), evSs C (a ++ b) ρ o = (evSs C a ρ o).then fun ρ o => evSs C b ρ o
  | [], b, ρ, o => by rw [evSs_nil', List.nil_append]; rfl
  | s :: a, b, ρ, o => by
    rw [List.cons_append, evSs_cons', evSs_cons']
    cases evS C s ρ o <;> try rfl
    simp only [Out.then_nx]
    exact evSs_app a b _ _
theorem segG {C : Nat → List D → Or → R D} {a b : List IS} {ρ : Env} {o : Or} {n m : Nat} {P Q : Env → Or → Prop} (h : Gd n (evSs C a ρ o) P) (h2 : ∀ ρ1 o1, ρ1.length = n → P ρ1 o1 → Gd m (evSs C b ρ1 o1) Q) : Gd m (evSs C (a ++ b) ρ o) Q := by
  obtain ⟨ρ1, o1, e, hl, hp⟩ := h
  rw [evSs_app, e]
  exact h2 ρ1 o1 hl hp
theorem list29 {l : Env} (h : l.length = 29) : ∃ a0 a1 a2 a3 a4 a5 a6 a7 a8 a9 a10 a11 a12 a13 a14 a15 a16 a17 a18 a19 a20 a21 a22 a23 a24 a25 a26 a27 a28, l = [a0, a1, a2, a3, a4, a5, a6, a7, a8, a9, a10, a11, a12, a13, a14, a15, a16, a17, a18, a19, a20, a21, a22, a23, a24, a25, a26, a27, a28] := by
  match l, h with
  | [a0, a1, a2, a3, a4, a5, a6, a7, a8, a9, a10, a11, a12, a13, a14, a15, a16, a17, a18, a19, a20, a21, a22, a23, a24, a25, a26, a27, a28], _ => exact ⟨a0, a1, a2, a3, a4, a5, a6, a7, a8, a9, a10, a11, a12, a13, a14, a15, a16, a17, a18, a19, a20, a21, a22, a23, a24, a25, a26, a27, a28, rfl⟩
theorem compM_G {f : D → Or → R (Option D)} {g0 : Nat → D} {g : Nat → Option D} {o : Or} : ∀ {ks : List Nat}, (∀ k ∈ ks, f (g0 k) o = .ok (g k) o) → compM f (ks.map g0) o = .ok (ks.filterMap g) o
  | [], _ => rfl
  | k :: ks, h => by
    rw [List.map_cons, compM, h k (by simp), R.bind_ok, compM_G fun j hj => h j (by simp [hj]), R.bind_ok, List.filterMap_cons]
    cases g k <;> rfl
theorem fm_if {α β : Type} (p : α → Bool) (f : α → β) (ks : List α) : ks.filterMap (fun k => if p k then some (f k) else none) = (ks.filter p).map f := by
  induction ks with
  | nil => rfl
  | cons k ks ih =>
    rw [List.filterMap_cons, List.filter_cons]
    cases p k <;> simp [ih]
theorem ev_compG {C : Nat → List D → Or → R D} {ρ : Env} {o o1 : Or} {s c e : IE} {i : Nat} {ks : List Nat} {g0 f : Nat → D} {p : Nat → Bool} (hs : (evE C s ρ o).seq = .ok (ks.map g0) o1) (hc : ∀ k ∈ ks, evE C c (setS ρ i (.val (g0 k))) o1 = .ok (.bool (p k)) o1) (he : ∀ k ∈ ks, p k = true → evE C e (setS ρ i (.val (g0 k))) o1 = .ok (f k) o1) : evE C (.comp (.slot i) s c e) ρ o = .ok (.lst ((ks.filter p).map f)) o1 := by
  rw [evE, hs, R.bind_ok, compM_G (g := fun k => if p k then some (f k) else none)]
  · rw [fm_if]; rfl
  · intro k hk
    simp only [bindP, wipeS, slotsP, setS_setS, hc k hk, test_bool]
    cases h : p k
    · rfl
    · simp only [if_true, he k hk h, R.bind_ok]
end BV

end
/-! text: BM3.lean -/
section
set_option autoImplicit false
set_option maxRecDepth 100000
namespace BV
/-! BM3: the draws that every law from k52 on makes -/
def dA : List IS := [.ifs (.op2 .gt (.var 6) (.cst (.int 0))) [.app 2 (.op2 .mod (.bi .int [(.var 6)]) (.cst (.int 997))),
    .set (.slot 6) (.op2 .fdiv (.var 6) (.cst (.int 997)))] []]
def dB : List IS := [.set (.slot 5) (.bi .abs [(.bi .int [(.op2 .ix (.var 0) (.var 4))])]),
    .set (.slot 3) (.op2 .mod (.bi .int [(.op2 .add (.op2 .add (.op2 .mul (.var 3) (.cst (.int 48271))) (.op2 .mod (.var 5) (.cst (.int 1000003)))) (.var 4))]) (.cst (.int 65537))),
    .set (.slot 6) (.cst (.int 0)),
    .ifs (.op2 .ge (.var 5) (.op2 .pow (.cst (.int 10)) (.cst (.int 18)))) [.set (.slot 6) (.var 5)] [.app 2 (.op2 .mod (.bi .int [(.var 5)]) (.cst (.int 997))),
    .app 2 (.op2 .mod (.op2 .mod (.bi .int [(.op2 .add (.op2 .mul (.var 3) (.cst (.int 69621))) (.cst (.int 5)))]) (.cst (.int 65521))) (.cst (.int 997)))],
    .for_ (.slot 7) (.bi .range [(.cst (.int 60))]) dA]
def dC : List IS := [.set (.slot 3) (.op2 .mod (.bi .int [(.op2 .add (.op2 .add (.op2 .mul (.var 3) (.cst (.int 16807))) (.var 4)) (.cst (.int 1)))]) (.cst (.int 65537))),
    .app 2 (.op2 .mod (.bi .int [(.var 3)]) (.cst (.int 997)))]
def iDr : List IS := [.setO 2 (.lst []),
    .set (.slot 3) (.cst (.int 7)),
    .for_ (.slot 4) (.bi .range [(.bi .len [(.var 0)])]) dB,
    .for_ (.slot 4) (.bi .range [(.var 1)]) dC,
    .ret (.slice (.pk 2) (.cst .non) (.op1 .chkI (.var 1)))]
section
variable {C : Nat → List D → Or → R D} {o : Or} {sc : D} {mn : D}
theorem mulOk_r {a b : Int} (h0 : 0 ≤ b) (h : b ≤ 1000000) : mulOk a b = true := by
  simp only [mulOk, Bool.or_eq_true, Bool.and_eq_true, decide_eq_true_eq]
  right; omega
theorem pow_1018 : op2 .pow (.int 10) (.int 18) = some (.int 1000000000000000000) := by
  show (if 0 ≤ (18 : Int) ∧ (18 : Int) ≤ 1000 ∧ (10 : Int).natAbs < 1000 then some (D.int (10 ^ (18 : Int).toNat)) else none) = _
  rw [if_pos (by decide)]
  rfl
theorem app_int {ds : List Int} {ρ : Env} {i : Nat} {e : IE} {n : Int} {o1 : Or} (h : getS ρ i = .own (LI ds)) (he : evE C e ρ o = .ok (.int n) o1) (hl : ds.length < cap) : evS C (.app i e) ρ o = .nx (setS ρ i (.own (LI (ds ++ [n])))) o1 := by
  rw [st_app (xs := ds.map .int) h he (by simpa using hl)]
  simp [LI]
def dE (sc mn : D) (ds : List Int) (m : Int) (x4 x5 x6 x7 : Sl) : Env := [.val sc, .val mn, .own (LI ds), .val (.int m), x4, x5, x6, x7]
theorem dA_ok (ds : List Int) (m : Int) (x4 x5 : Sl) (r : Int) (x7 : Sl) (hl : ds.length < cap) : ∃ (ds' : List Int) (r' : Int), evSs C dA (dE sc mn ds m x4 x5 (.val (.int r)) x7) o = .nx (dE sc mn ds' m x4 x5 (.val (.int r')) x7) o ∧ ds'.length ≤ ds.length + 1 := by
  have e : evE C (.op2 .gt (.var 6) (.cst (.int 0))) (dE sc mn ds m x4 x5 (.val (.int r)) x7) o = .ok (.bool (decide (0 < r))) o := ev_op2 (ev_var rfl) ev_cst (op2_gt_int _ _)
  by_cases h : 0 < r
  · rw [decide_eq_true h] at e
    exact ⟨ds ++ [r % 997], r / 997, stp (ifT e (stp (app_int rfl (ev_op2 (ev_bi1 (ev_var rfl) (bi_int _)) ev_cst (op2_mod_int (by decide))) hl) (stp (st_set (ev_op2 (ev_var rfl) ev_cst (op2_fdiv_int (by decide) (by decide)))) (evSs_nil' _ _ _)))) (evSs_nil' _ _ _), by simp⟩
  · rw [decide_eq_false h] at e
    exact ⟨ds, r, stp (ifF e (evSs_nil' _ _ _)) (evSs_nil' _ _ _), by omega⟩
theorem dFor_ok (ds : List Int) (m : Int) (x4 x5 : Sl) (r : Int) (x7 : Sl) (hl : ds.length + 60 ≤ cap) : ∃ (ds' : List Int) (r' : Int) (x7' : Sl), evS C (.for_ (.slot 7) (.bi .range [(.cst (.int 60))]) dA) (dE sc mn ds m x4 x5 (.val (.int r)) x7) o = .nx (dE sc mn ds' m x4 x5 (.val (.int r')) x7') o ∧ ds'.length ≤ ds.length + 60 := by
  obtain ⟨ρ', o', e, rfl, ds', r', x', rfl, hb⟩ := forM_RI (n := 60) (f := fun x ρ o => evSs C dA (setS ρ 7 (.val x)) o) (I := fun j ρ o' => o' = o ∧ ∃ ds' r' x', ρ = dE sc mn ds' m x4 x5 (.val (.int r')) x' ∧ ds'.length ≤ ds.length + j)
    (ρ := dE sc mn ds m x4 x5 (.val (.int r)) x7) (o := o) (fun j hj ρ o' ⟨ho, ds1, r1, x1, hρ, hb⟩ => by
      subst ho
      subst hρ
      obtain ⟨ds2, r2, e, hl2⟩ := dA_ok (C := C) (o := o') (sc := sc) (mn := mn) ds1 m x4 x5 r1 (.val (.int j)) (by omega)
      exact ⟨_, _, .inl e, rfl, ds2, r2, _, rfl, by omega⟩) ⟨rfl, ds, r, x7, rfl, by omega⟩
  exact ⟨ds', r', x', st_forI (ev_rangeN (n := 60) ev_cst (by decide)) e, hb⟩
theorem dB_ok (sc : List Int) (k : Nat) (hk : k < sc.length) (ds : List Int) (m : Int) (x5 x6 x7 : Sl) (hl : ds.length + 62 ≤ cap) : ∃ (ds' : List Int) (m' : Int) (y5 y6 y7 : Sl), evSs C dB (dE (LI sc) mn ds m (.val (.int k)) x5 x6 x7) o = .nx (dE (LI sc) mn ds' m' (.val (.int k)) y5 y6 y7) o ∧ ds'.length ≤ ds.length + 62 := by
  have e1 : ∀ x5 x6 x7, evS C (.set (.slot 5) (.bi .abs [(.bi .int [(.op2 .ix (.var 0) (.var 4))])])) (dE (LI sc) mn ds m (.val (.int k)) x5 x6 x7) o = .nx (dE (LI sc) mn ds m (.val (.int k)) (.val (.int (if sc.getD k 0 < 0 then -sc.getD k 0 else sc.getD k 0))) x6 x7) o := fun x5 x6 x7 =>
    st_set (ev_bi1 (ev_bi1 (ev_op2 (ev_var rfl) (ev_var rfl) (ix_LI (by omega) (by omega))) (bi_int _)) (bi_abs _))
  generalize hc : (if sc.getD k 0 < 0 then -sc.getD k 0 else sc.getD k 0) = c at e1
  refine Exists.imp (fun ds' => Exists.imp fun m' => Exists.imp fun y5 => Exists.imp fun y6 => Exists.imp fun y7 (h : _ ∧ _) => ⟨stp (e1 _ _ _) (stp (st_set (ev_op2 (ev_bi1 (ev_op2 (ev_op2 (ev_op2 (ev_var rfl) ev_cst (op2_mul_int (mulOk_r (by decide) (by decide)))) (ev_op2 (ev_var rfl) ev_cst (op2_mod_int (by decide))) (op2_add_int _ _)) (ev_var rfl) (op2_add_int _ _)) (bi_int _)) ev_cst (op2_mod_int (by decide)))) (stp (st_set ev_cst) h.1)), h.2⟩) ?_
  generalize (m * 48271 + c % 1000003 + (k : Int)) % 65537 = m2
  show ∃ ds' m' x5 x6 x7', evSs C _ (dE (LI sc) mn ds m2 (.val (.int k)) (.val (.int c)) (.val (.int 0)) x7) o = _ ∧ _
  have e2 : evE C (.op2 .ge (.var 5) (.op2 .pow (.cst (.int 10)) (.cst (.int 18)))) (dE (LI sc) mn ds m2 (.val (.int k)) (.val (.int c)) (.val (.int 0)) x7) o = .ok (.bool (decide (1000000000000000000 ≤ c))) o := ev_op2 (ev_var rfl) (ev_op2 ev_cst ev_cst pow_1018) (op2_ge_int _ _)
  by_cases hh : 1000000000000000000 ≤ c
  · rw [decide_eq_true hh] at e2
    obtain ⟨ds', r', x7', e3, hl3⟩ := dFor_ok (C := C) (o := o) (sc := LI sc) (mn := mn) ds m2 (.val (.int k)) (.val (.int c)) c x7 (by omega)
    exact ⟨ds', m2, _, _, x7', stp (ifT e2 (stp (st_set (ev_var rfl)) (evSs_nil' _ _ _))) (stp e3 (evSs_nil' _ _ _)), by omega⟩
  · rw [decide_eq_false hh] at e2
    obtain ⟨ds', r', x7', e3, hl3⟩ := dFor_ok (C := C) (o := o) (sc := LI sc) (mn := mn) (ds ++ [c % 997] ++ [(m2 * 69621 + 5) % 65521 % 997]) m2 (.val (.int k)) (.val (.int c)) 0 x7 (by simp; omega)
    refine ⟨ds', m2, _, _, x7', stp (ifF e2 (stp (app_int rfl (ev_op2 (ev_bi1 (ev_var rfl) (bi_int _)) ev_cst (op2_mod_int (by decide))) (by omega)) (stp (app_int rfl (ev_op2 (ev_op2 (ev_bi1 (ev_op2 (ev_op2 (ev_var rfl) ev_cst (op2_mul_int (mulOk_r (by decide) (by decide)))) ev_cst (op2_add_int _ _)) (bi_int _)) ev_cst (op2_mod_int (by decide))) ev_cst (op2_mod_int (by decide))) (by simp; omega)) (evSs_nil' _ _ _)))) (stp e3 (evSs_nil' _ _ _)), by simp at hl3; omega⟩
theorem draws_ok {T : Nat → Fn} {f : Nat} (h : T f = ⟨2, 8, iDr⟩) (k : Nat) (sc : List Int) (hs : sc.length ≤ 63) (mn : Nat) (hm : mn ≤ 1000) (o : Or) : ∃ ns : List Int, callN T (k + 1) f [LI sc, .int mn] o = .ok (LI ns) o := by
  obtain ⟨ρ1, o1, e1, rfl, ds1, m1, x4, x5, x6, x7, rfl, hb1⟩ := forM_RI (n := sc.length) (f := fun x ρ o => evSs (callN T k) dB (setS ρ 4 (.val x)) o) (I := fun j ρ o' => o' = o ∧ ∃ ds' m' x4 x5 x6 x7, ρ = dE (LI sc) (.int mn) ds' m' x4 x5 x6 x7 ∧ ds'.length ≤ 62 * j)
    (ρ := dE (LI sc) (.int mn) [] 7 .un .un .un .un) (o := o) (fun j hj ρ o' ⟨ho, ds1, m1, x4, x5, x6, x7, hρ, hb⟩ => by
      subst ho
      subst hρ
      obtain ⟨ds2, m2, y5, y6, y7, e, hl2⟩ := dB_ok (C := callN T k) (o := o') (mn := .int mn) sc j hj ds1 m1 x5 x6 x7 (by show _ ≤ 16777216; omega)
      exact ⟨_, _, .inl e, rfl, ds2, m2, _, y5, y6, y7, rfl, by omega⟩) ⟨rfl, [], 7, .un, .un, .un, .un, rfl, by simp⟩
  obtain ⟨ρ2, o2, e2, rfl, ds2, m2, y4, rfl, hb2⟩ := forM_RI (n := mn) (f := fun x ρ o => evSs (callN T k) dC (setS ρ 4 (.val x)) o) (I := fun j ρ o' => o' = o1 ∧ ∃ ds' m' x4, ρ = dE (LI sc) (.int mn) ds' m' x4 x5 x6 x7 ∧ ds'.length ≤ 4000 + j)
    (ρ := dE (LI sc) (.int mn) ds1 m1 x4 x5 x6 x7) (o := o1) (fun j hj ρ o' ⟨ho, ds1, m1, x4, hρ, hb⟩ => by
      subst ho
      subst hρ
      refine ⟨_, _, .inl (stp (st_set (ev_op2 (ev_bi1 (ev_op2 (ev_op2 (ev_op2 (ev_var rfl) ev_cst (op2_mul_int (mulOk_r (by decide) (by decide)))) (ev_var rfl) (op2_add_int _ _)) ev_cst (op2_add_int _ _)) (bi_int _)) ev_cst (op2_mod_int (by decide)))) (stp (app_int (ds := ds1) rfl (ev_op2 (ev_bi1 (ev_var rfl) (bi_int _)) ev_cst (op2_mod_int (by decide))) (by show _ < 16777216; omega)) (evSs_nil' _ _ _))), rfl, ds1 ++ [(m1 * 16807 + j + 1) % 65537 % 997], _, _, rfl, by simp; omega⟩) ⟨rfl, ds1, m1, x4, rfl, by omega⟩
  refine ⟨ds2.take mn, ?_⟩
  have er : evE (callN T k) (.bi .range [.bi .len [.var 0]]) (dE (LI sc) (.int mn) [] 7 .un .un .un .un) o2 = .ok (.lst (RI sc.length)) o2 := ev_rangeN (ev_bi1 (ev_var rfl) (bi_len_LI _)) (by show _ ≤ 16777216; omega)
  have es : evE (callN T k) (.slice (.pk 2) (.cst .non) (.op1 .chkI (.var 1))) (dE (LI sc) (.int mn) ds2 m2 y4 x5 x6 x7) o2 = .ok (.lst (cut (ds2.map .int) none (some (mn : Int)))) o2 := ev_sliceL (ev_pkO rfl) ev_cst (ev_op1 (ev_var rfl) (op1_chkI _)) rfl rfl
  have ec : cut (ds2.map D.int) none (some (mn : Int)) = (ds2.take mn).map .int := by
    simp only [cut, sIx, List.drop_zero, Nat.sub_zero]
    rw [if_neg (by omega), Int.toNat_natCast, List.map_take]
    rcases Nat.le_total mn ds2.length with h | h
    · rw [Nat.min_eq_left (by simpa using h)]
    · rw [Nat.min_eq_right (by simpa using h), List.take_of_length_le (by simp), List.take_of_length_le (by simpa using h)]
  rw [ec] at es
  exact call_rt h (stp (st_setO (ev_lst evs_nil)) (stp (ρ1 := dE (LI sc) (.int mn) [] 7 .un .un .un .un) (st_set ev_cst) (stp (st_forI er e1) (stp (st_forI (ev_rangeN (ev_var rfl) (by show _ ≤ 16777216; omega)) e2) (stR (st_ret es))))))
end
end BV

end
/-! text: k61_IR.lean -/
section
namespace Lk61
open BV
/-- is_number(thing); 0:thing -/
def i0 : List IS := [.ret (.and (.bi (.isT .int) [(.var 0)]) (.op1 .not (.bi (.isT .bool) [(.var 0)])))]
/-- is_from(thing, least); 0:thing 1:least -/
def i1 : List IS := [.ret (.and (.call 0 [(.var 0)]) (.op2 .ge (.var 0) (.var 1)))]
/-- are_counts(thing); 0:thing 1:one -/
def i2 : List IS := [.ret (.and (.bi (.isT .tup) [(.var 0)]) (.and (.op2 .ne (.var 0) (.tup [])) (.bi .all [(.comp (.slot 1) (.var 0) (.cst (.bool true)) (.call 1 [(.var 1), (.cst (.int 1))]))])))]
/-- struck(counts, at, times); 0:counts 1:at 2:times 3:k -/
def i3 : List IS := [.ret (.bi .tuple [(.comp (.slot 3) (.bi .range [(.var 2)]) (.cst (.bool true)) (.op2 .ix (.var 0) (.op2 .mod (.op2 .add (.var 1) (.var 3)) (.bi .len [(.var 0)]))))])]
/-- teeth_of(counts); 0:counts 1:found 2:total 3:count -/
def i4 : List IS := [.par [(1, true), (2, false)] [(.lst []), (.cst (.int 0))],
    .for_ (.slot 3) (.var 0) [.app 1 (.var 2),
    .aug 2 .add (.var 3)],
    .ret (.tup [(.var 2), (.bi .tuple [(.pk 1)])])]
/-- in_step(counts, due, at, hour); 0:counts 1:due 2:at 3:hour 4:round_of 5:k -/
def i5 : List IS := [.set (.slot 4) (.op2 .mul (.bi .len [(.var 0)]) (.bi .len [(.var 1)])),
    .ret (.bi .all [(.comp (.slot 5) (.bi .range [(.var 4)]) (.cst (.bool true)) (.op2 .eq (.op2 .ix (.var 0) (.op2 .mod (.op2 .add (.var 2) (.var 5)) (.bi .len [(.var 0)]))) (.op2 .ix (.var 1) (.op2 .mod (.op2 .add (.var 3) (.var 5)) (.bi .len [(.var 1)])))))])]
/-- trips_to(counts, due, at, hour); 0:counts 1:due 2:at 3:hour 4:many -/
def i6 : List IS := [.for_ (.slot 4) (.bi .range [(.bi .len [(.var 0)])]) [.ifs (.call 5 [(.var 0), (.var 1), (.op2 .add (.var 2) (.var 4)), (.var 3)]) [.ret (.var 4)] []],
    .ret (.cst .non)]
/-- strokes_to(counts, due, at, hour); 0:counts 1:due 2:at 3:hour 4:many -/
def i7 : List IS := [.set (.slot 4) (.call 6 [(.var 0), (.var 1), (.var 2), (.var 3)]),
    .ret (.ite (.op2 .is (.var 4) (.cst .non)) (.cst .non) (.bi .sum [(.call 3 [(.var 0), (.var 2), (.var 4)])]))]
/-- places_heard(counts, heard); 0:counts 1:heard 2:at -/
def i8 : List IS := [.ret (.bi .tuple [(.comp (.slot 2) (.bi .range [(.bi .len [(.var 0)])]) (.op2 .eq (.call 3 [(.var 0), (.var 2), (.bi .len [(.var 1)])]) (.bi .tuple [(.var 1)])) (.var 2))])]
/-- wrong_hours(counts, due, at); 0:counts 1:due 2:at 3:hour -/
def i9 : List IS := [.ret (.bi .tuple [(.comp (.slot 3) (.bi .range [(.bi .len [(.var 1)])]) (.op2 .ne (.op2 .ix (.var 0) (.op2 .mod (.op2 .add (.var 2) (.var 3)) (.bi .len [(.var 0)]))) (.op2 .ix (.var 1) (.var 3))) (.var 3))])]
/-- best_place(counts, due); 0:counts 1:due 2:told 3:at -/
def i10 : List IS := [.set (.slot 2) (.comp (.slot 3) (.bi .range [(.bi .len [(.var 0)])]) (.cst (.bool true)) (.bi .len [(.call 9 [(.var 0), (.var 1), (.var 3)])])),
    .ret (.tup [(.mth .index (.var 2) [(.bi .min1 [(.var 2)])]), (.bi .min1 [(.var 2)])])]
/-- is_round(counts, due); 0:counts 1:due 2:at -/
def i11 : List IS := [.ret (.and (.op2 .eq (.bi .len [(.var 0)]) (.bi .len [(.var 1)])) (.bi .any [(.comp (.slot 2) (.bi .range [(.bi .len [(.var 0)])]) (.cst (.bool true)) (.op2 .eq (.call 3 [(.var 0), (.var 2), (.bi .len [(.var 1)])]) (.bi .tuple [(.var 1)])))]))]
/-- wheel_for(due); 0:due 1:size -/
def i12 : List IS := [.for_ (.slot 1) (.bi .range [(.cst (.int 1)), (.op2 .add (.bi .len [(.var 0)]) (.cst (.int 1)))]) [.ifs (.and (.op2 .eq (.op2 .mod (.bi .len [(.var 0)]) (.var 1)) (.cst (.int 0))) (.op2 .eq (.var 0) (.op2 .mul (.slice (.var 0) (.cst .non) (.op1 .chkI (.var 1))) (.op2 .fdiv (.bi .len [(.var 0)]) (.var 1))))) [.ret (.slice (.var 0) (.cst .non) (.op1 .chkI (.var 1)))] []],
    .ret (.var 0)]
/-- after_strokes(counts, at, strokes); 0:counts 1:at 2:strokes 3:left 4:k -/
def i13 : List IS := [.set (.slot 3) (.op2 .mod (.var 2) (.bi .sum [(.var 0)])),
    .set (.slot 4) (.op2 .mod (.var 1) (.bi .len [(.var 0)])),
    .whl 100000000 (.op2 .ge (.var 3) (.op2 .ix (.var 0) (.var 4))) [.aug 3 .sub (.op2 .ix (.var 0) (.var 4)),
    .set (.slot 4) (.op2 .mod (.op2 .add (.var 4) (.cst (.int 1))) (.bi .len [(.var 0)]))],
    .ret (.tup [(.var 4), (.var 3)])]
/-- lost_step(counts, due, hours, missed); 0:counts 1:due 2:hours 3:missed 4:found 5:at 6:hour -/
def i14 : List IS := [.par [(4, true), (5, false)] [(.lst []), (.cst (.int 0))],
    .for_ (.slot 6) (.bi .range [(.var 2)]) [.ifs (.op2 .isIn (.var 6) (.var 3)) [.app 4 (.cst (.int 0))] [.app 4 (.op2 .ix (.var 0) (.op2 .mod (.var 5) (.bi .len [(.var 0)]))),
    .aug 5 .add (.cst (.int 1))]],
    .ret (.bi .tuple [(.pk 4)])]
/-- misses_for(counts, heard); 0:counts 1:heard 2:at 3:found 4:hour -/
def i15 : List IS := [.par [(2, false), (3, true)] [(.cst (.int 0)), (.lst [])],
    .for_ (.slot 4) (.bi .range [(.bi .len [(.var 1)])]) [.ifs (.op2 .eq (.op2 .ix (.var 1) (.var 4)) (.cst (.int 0))) [.app 3 (.var 4)] [.ifs (.op2 .eq (.op2 .ix (.var 1) (.var 4)) (.op2 .ix (.var 0) (.op2 .mod (.var 2) (.bi .len [(.var 0)])))) [.aug 2 .add (.cst (.int 1))] [.ret (.cst .non)]]],
    .ret (.bi .tuple [(.pk 3)])]
/-- _law_draws(script, many); 0:script 1:many 2:draws 3:mixed 4:k 5:cell 6:rest 7:turn -/
def i16 : List IS := [.setO 2 (.lst []),
    .set (.slot 3) (.cst (.int 7)),
    .for_ (.slot 4) (.bi .range [(.bi .len [(.var 0)])]) [.set (.slot 5) (.bi .abs [(.bi .int [(.op2 .ix (.var 0) (.var 4))])]),
    .set (.slot 3) (.op2 .mod (.bi .int [(.op2 .add (.op2 .add (.op2 .mul (.var 3) (.cst (.int 48271))) (.op2 .mod (.var 5) (.cst (.int 1000003)))) (.var 4))]) (.cst (.int 65537))),
    .set (.slot 6) (.cst (.int 0)),
    .ifs (.op2 .ge (.var 5) (.op2 .pow (.cst (.int 10)) (.cst (.int 18)))) [.set (.slot 6) (.var 5)] [.app 2 (.op2 .mod (.bi .int [(.var 5)]) (.cst (.int 997))),
    .app 2 (.op2 .mod (.op2 .mod (.bi .int [(.op2 .add (.op2 .mul (.var 3) (.cst (.int 69621))) (.cst (.int 5)))]) (.cst (.int 65521))) (.cst (.int 997)))],
    .for_ (.slot 7) (.bi .range [(.cst (.int 60))]) [.ifs (.op2 .gt (.var 6) (.cst (.int 0))) [.app 2 (.op2 .mod (.bi .int [(.var 6)]) (.cst (.int 997))),
    .set (.slot 6) (.op2 .fdiv (.var 6) (.cst (.int 997)))] []]],
    .for_ (.slot 4) (.bi .range [(.var 1)]) [.set (.slot 3) (.op2 .mod (.bi .int [(.op2 .add (.op2 .add (.op2 .mul (.var 3) (.cst (.int 16807))) (.var 4)) (.cst (.int 1)))]) (.cst (.int 65537))),
    .app 2 (.op2 .mod (.bi .int [(.var 3)]) (.cst (.int 997)))],
    .ret (.slice (.pk 2) (.cst .non) (.op1 .chkI (.var 1)))]
/-- _law_next(w, many); 0:w 1:many -/
def i17 : List IS := [.ret (.draw (.var 0) (.var 1))]
/-- _law_pick(w, rows); 0:w 1:rows -/
def i18 : List IS := [.ret (.op2 .ix (.var 1) (.call 17 [(.var 0), (.bi .len [(.var 1)])]))]
/-- _law_alike(given, due); 0:given 1:due 2:k -/
def i19 : List IS := [.ifs (.bi (.isT .tup) [(.var 1)]) [.ifs (.or (.op1 .not (.bi (.isT .tup) [(.var 0)])) (.op2 .ne (.bi .len [(.var 0)]) (.bi .len [(.var 1)]))) [.ret (.cst (.bool false))] [],
    .ret (.op2 .eq (.comp (.slot 2) (.bi .range [(.bi .len [(.var 1)])]) (.op1 .not (.call 19 [(.op2 .ix (.var 0) (.var 2)), (.op2 .ix (.var 1) (.var 2))])) (.var 2)) (.lst []))] [],
    .ifs (.op2 .is (.var 1) (.cst .non)) [.ret (.op2 .is (.var 0) (.cst .non))] [],
    .ifs (.bi (.isT .bool) [(.var 1)]) [.ret (.and (.bi (.isT .bool) [(.var 0)]) (.op2 .eq (.var 0) (.var 1)))] [],
    .ifs (.bi (.isT .int) [(.var 1)]) [.ret (.and (.bi (.isT .int) [(.var 0)]) (.and (.op1 .not (.bi (.isT .bool) [(.var 0)])) (.op2 .eq (.var 0) (.var 1))))] [],
    .ret (.and (.bi (.isT .str) [(.var 0)]) (.op2 .eq (.var 0) (.var 1)))]
/-- _law_at(counts, k); 0:counts 1:k -/
def i20 : List IS := [.ret (.op2 .ix (.var 0) (.op2 .mod (.bi .int [(.var 1)]) (.bi .len [(.var 0)])))]
/-- _law_steps(counts, due, at, hour); 0:counts 1:due 2:at 3:hour 4:k -/
def i21 : List IS := [.ret (.op2 .eq (.comp (.slot 4) (.bi .range [(.op2 .mul (.bi .len [(.var 0)]) (.bi .len [(.var 1)]))]) (.op2 .ne (.call 20 [(.var 0), (.op2 .add (.var 2) (.var 4))]) (.call 20 [(.var 1), (.op2 .add (.var 3) (.var 4))])) (.var 4)) (.lst []))]
/-- law(script); 0:script 1:w 2:turn 3:k 4:counts 5:at 6:hour 7:turns 8:due 9:times 10:able 11:heard 12:h 13:wrong 14:row 15:many 16:short 17:strokes 18:place 19:left 20:hours 21:missed 22:goes 23:bent 24:found 25:thing 26:size 27:one 28:j -/
def i22 : List IS := [.for_ (.slot 2) (.bi .range [(.cst (.int 8))]) [.set (.slot 4) (.bi .tuple [(.comp (.slot 3) (.bi .range [(.op2 .add (.cst (.int 1)) (.call 17 [(.var 1), (.cst (.int 6))]))]) (.cst (.bool true)) (.op2 .add (.cst (.int 1)) (.call 17 [(.var 1), (.cst (.int 4))])))]),
    .ifs (.op2 .eq (.call 17 [(.var 1), (.cst (.int 3))]) (.cst (.int 0))) [.set (.slot 4) (.op2 .mul (.slice (.var 4) (.cst .non) (.op1 .chkI (.cst (.int 2)))) (.op2 .add (.cst (.int 1)) (.call 17 [(.var 1), (.cst (.int 3))])))] [],
    .par [(5, false), (6, false), (7, false)] [(.call 17 [(.var 1), (.bi .len [(.var 4)])]), (.call 17 [(.var 1), (.cst (.int 12))]), (.call 17 [(.var 1), (.bi .len [(.var 4)])])],
    .set (.slot 8) (.call 18 [(.var 1), (.lst [(.var 4), (.op2 .add (.slice (.var 4) (.op1 .chkI (.var 7)) (.cst .non)) (.slice (.var 4) (.cst .non) (.op1 .chkI (.var 7)))), (.op2 .mul (.var 4) (.cst (.int 2))), (.op2 .add (.slice (.var 4) (.cst .non) (.op1 .chkI (.op1 .neg (.cst (.int 1))))) (.tup [(.op2 .add (.cst (.int 1)) (.call 17 [(.var 1), (.cst (.int 4))]))])), (.bi .tuple [(.comp (.slot 3) (.bi .range [(.op2 .add (.cst (.int 1)) (.call 17 [(.var 1), (.cst (.int 5))]))]) (.cst (.bool true)) (.op2 .add (.cst (.int 1)) (.call 17 [(.var 1), (.cst (.int 3))])))])])]),
    .set (.slot 9) (.call 17 [(.var 1), (.cst (.int 9))]),
    .ifs (.or (.op1 .not (.call 19 [(.call 3 [(.var 4), (.var 5), (.var 9)]), (.bi .tuple [(.comp (.slot 3) (.bi .range [(.var 9)]) (.cst (.bool true)) (.call 20 [(.var 4), (.op2 .add (.var 5) (.var 3))]))])])) (.op1 .not (.call 19 [(.call 4 [(.var 4)]), (.tup [(.bi .sum [(.var 4)]), (.bi .tuple [(.comp (.slot 3) (.bi .range [(.bi .len [(.var 4)])]) (.cst (.bool true)) (.bi .sum [(.slice (.var 4) (.cst .non) (.op1 .chkI (.var 3)))]))])])]))) [.ret (.cst (.bool false))] [],
    .set (.slot 10) (.comp (.slot 3) (.bi .range [(.bi .len [(.var 4)])]) (.call 21 [(.var 4), (.var 8), (.op2 .add (.var 5) (.var 3)), (.var 6)]) (.var 3)),
    .ifs (.or (.op1 .not (.call 19 [(.call 5 [(.var 4), (.var 8), (.var 5), (.var 6)]), (.call 21 [(.var 4), (.var 8), (.var 5), (.var 6)])])) (.op1 .not (.call 19 [(.call 6 [(.var 4), (.var 8), (.var 5), (.var 6)]), (.ite (.op2 .ne (.var 10) (.lst [])) (.op2 .ix (.var 10) (.cst (.int 0))) (.cst .non))]))) [.ret (.cst (.bool false))] [],
    .ifs (.op1 .not (.call 19 [(.call 7 [(.var 4), (.var 8), (.var 5), (.var 6)]), (.ite (.op2 .ne (.var 10) (.lst [])) (.bi .sum [(.comp (.slot 3) (.bi .range [(.op2 .ix (.var 10) (.cst (.int 0)))]) (.cst (.bool true)) (.call 20 [(.var 4), (.op2 .add (.var 5) (.var 3))]))]) (.cst .non))])) [.ret (.cst (.bool false))] [],
    .set (.slot 11) (.bi .tuple [(.comp (.slot 3) (.bi .range [(.call 17 [(.var 1), (.cst (.int 5))])]) (.cst (.bool true)) (.call 20 [(.var 4), (.op2 .add (.var 5) (.var 3))]))]),
    .set (.slot 11) (.ite (.op2 .gt (.call 17 [(.var 1), (.cst (.int 4))]) (.cst (.int 0))) (.var 11) (.op2 .add (.var 11) (.tup [(.cst (.int 1))]))),
    .ifs (.op1 .not (.call 19 [(.call 8 [(.var 4), (.var 11)]), (.bi .tuple [(.comp (.slot 3) (.bi .range [(.bi .len [(.var 4)])]) (.op2 .eq (.comp (.slot 28) (.bi .range [(.bi .len [(.var 11)])]) (.op2 .ne (.call 20 [(.var 4), (.op2 .add (.var 3) (.var 28))]) (.op2 .ix (.var 11) (.var 28))) (.var 28)) (.lst [])) (.var 3))])])) [.ret (.cst (.bool false))] [],
    .set (.slot 13) (.comp (.slot 3) (.bi .range [(.bi .len [(.var 4)])]) (.cst (.bool true)) (.comp (.slot 12) (.bi .range [(.bi .len [(.var 8)])]) (.op2 .ne (.call 20 [(.var 4), (.op2 .add (.var 3) (.var 12))]) (.op2 .ix (.var 8) (.var 12))) (.var 12))),
    .set (.slot 15) (.comp (.slot 14) (.var 13) (.cst (.bool true)) (.bi .len [(.pk 14)])),
    .ifs (.or (.op1 .not (.call 19 [(.call 9 [(.var 4), (.var 8), (.var 5)]), (.bi .tuple [(.op2 .ix (.var 13) (.var 5))])])) (.op1 .not (.call 19 [(.call 10 [(.var 4), (.var 8)]), (.tup [(.mth .index (.var 15) [(.bi .min1 [(.var 15)])]), (.bi .min1 [(.var 15)])])]))) [.ret (.cst (.bool false))] [],
    .set (.slot 16) (.comp (.slot 26) (.bi .range [(.cst (.int 1)), (.op2 .add (.bi .len [(.var 8)]) (.cst (.int 1)))]) (.and (.op2 .eq (.comp (.slot 3) (.bi .range [(.bi .len [(.var 8)])]) (.op2 .ne (.op2 .ix (.var 8) (.var 3)) (.op2 .ix (.var 8) (.op2 .mod (.bi .int [(.var 3)]) (.var 26)))) (.var 3)) (.lst [])) (.op2 .eq (.op2 .mod (.bi .int [(.bi .len [(.var 8)])]) (.var 26)) (.cst (.int 0)))) (.var 26)),
    .ifs (.or (.op1 .not (.call 19 [(.call 12 [(.var 8)]), (.slice (.var 8) (.cst .non) (.op1 .chkI (.op2 .ix (.var 16) (.cst (.int 0)))))])) (.op1 .not (.call 19 [(.call 11 [(.var 4), (.var 8)]), (.and (.op2 .eq (.bi .len [(.var 4)]) (.bi .len [(.var 8)])) (.op2 .isIn (.cst (.int 0)) (.var 15)))]))) [.ret (.cst (.bool false))] [],
    .par [(17, false), (18, false), (19, false)] [(.call 17 [(.var 1), (.cst (.int 60))]), (.var 5), (.cst (.int 0))],
    .for_ (.slot 3) (.bi .range [(.var 17)]) [.aug 19 .add (.cst (.int 1)),
    .ifs (.op2 .eq (.var 19) (.call 20 [(.var 4), (.var 18)])) [.par [(18, false), (19, false)] [(.op2 .mod (.bi .int [(.op2 .add (.var 18) (.cst (.int 1)))]) (.bi .len [(.var 4)])), (.cst (.int 0))]] []],
    .ifs (.op1 .not (.call 19 [(.call 13 [(.var 4), (.var 5), (.var 17)]), (.tup [(.var 18), (.var 19)])])) [.ret (.cst (.bool false))] [],
    .set (.slot 20) (.call 17 [(.var 1), (.cst (.int 12))]),
    .set (.slot 21) (.bi .tuple [(.comp (.slot 12) (.bi .range [(.var 20)]) (.op2 .eq (.call 17 [(.var 1), (.cst (.int 4))]) (.cst (.int 0))) (.var 12))]),
    .par [(14, true), (22, false)] [(.lst []), (.cst (.int 0))],
    .for_ (.slot 12) (.bi .range [(.var 20)]) [.app 14 (.ite (.op2 .isIn (.var 12) (.var 21)) (.cst (.int 0)) (.call 20 [(.var 4), (.var 22)])),
    .aug 22 .add (.ite (.op2 .isIn (.var 12) (.var 21)) (.cst (.int 0)) (.cst (.int 1)))],
    .ifs (.or (.op1 .not (.call 19 [(.call 14 [(.var 4), (.var 8), (.var 20), (.var 21)]), (.bi .tuple [(.pk 14)])])) (.op1 .not (.call 19 [(.call 15 [(.var 4), (.bi .tuple [(.pk 14)])]), (.var 21)]))) [.ret (.cst (.bool false))] [],
    .ifs (.op2 .ne (.pk 14) (.lst [])) [.set (.slot 3) (.call 17 [(.var 1), (.bi .len [(.pk 14)])]),
    .par [(23, false), (22, false), (24, false)] [(.bi .tuple [(.op2 .add (.op2 .add (.slice (.pk 14) (.cst .non) (.op1 .chkI (.var 3))) (.lst [(.op2 .add (.op2 .ix (.pk 14) (.var 3)) (.cst (.int 1)))])) (.slice (.pk 14) (.op1 .chkI (.op2 .add (.var 3) (.cst (.int 1)))) (.cst .non)))]), (.cst (.int 0)), (.lst [])],
    .for_ (.slot 12) (.bi .range [(.var 20)]) [.ifs (.op2 .eq (.op2 .ix (.var 23) (.var 12)) (.cst (.int 0))) [.set (.slot 24) (.ite (.op2 .isNot (.var 24) (.cst .non)) (.op2 .add (.var 24) (.lst [(.var 12)])) (.cst .non))] [.set (.slot 24) (.ite (.op2 .eq (.op2 .ix (.var 23) (.var 12)) (.call 20 [(.var 4), (.var 22)])) (.var 24) (.cst .non)),
    .aug 22 .add (.cst (.int 1))]],
    .ifs (.op1 .not (.call 19 [(.call 15 [(.var 4), (.var 23)]), (.ite (.op2 .isNot (.var 24) (.cst .non)) (.bi .tuple [(.var 24)]) (.cst .non))])) [.ret (.cst (.bool false))] []] [],
    .for_ (.slot 25) (.tup [(.var 4), (.tup []), (.cst .non), (.bi .list [(.var 4)]), (.op2 .add (.var 4) (.tup [(.cst (.int 0))])), (.op2 .add (.var 4) (.tup [(.cst (.bool true))])), (.op2 .add (.var 4) (.tup [(.cst (.int 7))])), (.op2 .add (.var 4) (.tup [(.cst .non)]))]) [.ifs (.op1 .not (.call 19 [(.call 2 [(.var 25)]), (.and (.bi (.isT .tup) [(.var 25)]) (.and (.op2 .ne (.var 25) (.tup [])) (.op2 .eq (.comp (.slot 27) (.var 25) (.or (.op1 .not (.bi (.isT .int) [(.var 27)])) (.or (.bi (.isT .bool) [(.var 27)]) (.op2 .lt (.var 27) (.cst (.int 1))))) (.var 27)) (.lst []))))])) [.ret (.cst (.bool false))] []]],
    .ret (.cst (.bool true))]
def tab : Nat → Fn
  | 0 => ⟨1, 1, i0⟩
  | 1 => ⟨2, 2, i1⟩
  | 2 => ⟨1, 2, i2⟩
  | 3 => ⟨3, 4, i3⟩
  | 4 => ⟨1, 4, i4⟩
  | 5 => ⟨4, 6, i5⟩
  | 6 => ⟨4, 5, i6⟩
  | 7 => ⟨4, 5, i7⟩
  | 8 => ⟨2, 3, i8⟩
  | 9 => ⟨3, 4, i9⟩
  | 10 => ⟨2, 4, i10⟩
  | 11 => ⟨2, 3, i11⟩
  | 12 => ⟨1, 2, i12⟩
  | 13 => ⟨3, 5, i13⟩
  | 14 => ⟨4, 7, i14⟩
  | 15 => ⟨2, 5, i15⟩
  | 16 => ⟨2, 8, i16⟩
  | 17 => ⟨2, 2, i17⟩
  | 18 => ⟨2, 2, i18⟩
  | 19 => ⟨2, 3, i19⟩
  | 20 => ⟨2, 2, i20⟩
  | 21 => ⟨4, 5, i21⟩
  | 22 => ⟨1, 29, i22⟩
  | _ => ⟨0, 0, []⟩
/-- the call that makes the draws -/
def iDraws : IE := (.call 16 [(.var 0), (.cst (.int 600))])
/-- THE PLAIN LAW: the evaluator gives True -/
def Plain (k : Nat) : Prop := ∀ script : List Int, script.length ≤ 63 → ∃ (ns : List Int) (o : Or), evE (callN tab k) iDraws (startS 29 [.lst (script.map D.int)]) [] = .ok (.lst (ns.map D.int)) o ∧
  ∃ o', evSs (callN tab k) i22 (setS (startS 29 [.lst (script.map D.int)]) 1 (.val .tok)) ns = .rt (.bool true) o' 
end Lk61

end
/-! text: k61_M1.lean -/
section
set_option autoImplicit false
set_option maxRecDepth 100000
namespace Lk61
open BV
abbrev C (k : Nat) := callN tab k
theorem cap_v : cap = 16777216 := rfl
/-- _law_at -/
theorem s20 (k : Nat) {cs : List Int} (h : 0 < cs.length) (i : Int) (o : Or) : C (k + 1) 20 [TI cs, .int i] o = .ok (.int (at_ cs i)) o :=
  call_rt rfl (stR (st_ret (ev_op2 (ev_var rfl) (ev_op2 (ev_bi1 (ev_var rfl) (bi_int _)) (ev_bi1 (ev_var rfl) (bi_len_TI _)) (op2_mod_int (by omega))) (ix_at h i))))
def struckL (cs : List Int) (a : Int) (t : Nat) : List Int := (List.range t).map fun k : Nat => at_ cs (a + k)
theorem struckL_len (cs : List Int) (a : Int) (t : Nat) : (struckL cs a t).length = t := by simp [struckL]
theorem struckL_map (cs : List Int) (a : Int) (t : Nat) : ((List.range t).map fun k : Nat => D.int (at_ cs (a + k))) = (struckL cs a t).map .int := by rw [struckL, List.map_map]; rfl
/-- struck -/
theorem s3 (k : Nat) {cs : List Int} (h : 0 < cs.length) (a : Int) (t : Nat) (hc : t ≤ cap) (o : Or) : C (k + 1) 3 [TI cs, .int a, .int t] o = .ok (TI (struckL cs a t)) o := by
  refine call_rt rfl (stR (st_ret (ev_bi1 (ev_comp (n := t) (g := fun k : Nat => D.int (at_ cs (a + k))) (ev_rangeN (n := t) (ev_var rfl) hc) fun j hj => ?_) (by rw [bi_tuple_lst, struckL_map]; rfl))))
  exact ev_op2 (ev_var rfl) (ev_op2 (ev_op2 (ev_var rfl) (ev_var rfl) (op2_add_int _ _)) (ev_bi1 (ev_var rfl) (bi_len_TI _)) (op2_mod_int (by omega))) (ix_at h _)
/-- teeth_of -/
def prefs (cs : List Int) : List Int := (List.range cs.length).map fun k => (cs.take k).sum
theorem prefs_snoc (cs : List Int) (x : Int) : prefs (cs ++ [x]) = prefs cs ++ [cs.sum] := by
  simp only [prefs, List.length_append, List.length_singleton, List.range_succ, List.map_append, List.map_cons, List.map_nil]
  congr 1
  · refine List.map_congr_left fun k hk => ?_
    rw [List.take_append_of_le_length (Nat.le_of_lt (List.mem_range.mp hk))]
  · simp
theorem prefs_len (cs : List Int) : (prefs cs).length = cs.length := by simp [prefs]
theorem s4 (k : Nat) {cs : List Int} (hc : cs.length ≤ 1000) (o : Or) : C (k + 1) 4 [TI cs] o = .ok (.tup [.int cs.sum, TI (prefs cs)]) o := by
  have L := forM_inv (xs := cs.map D.int) (f := fun x ρ o => evSs (callN tab k) [.app 1 (.var 2), .aug 2 .add (.var 3)] (setS ρ 3 (.val x)) o)
    (I := fun r ρ o' => o' = o ∧ ∃ (pre suf : List Int) (x : Sl), cs = pre ++ suf ∧ r = suf.map D.int ∧ ρ = [.val (TI cs), .own (LI (prefs pre)), .val (.int pre.sum), x])
    (fun x r ρ o' ⟨ho, pre, suf, y, h1, h2, h3⟩ => by
      subst ho
      cases suf with
      | nil => cases h2
      | cons n suf =>
        cases h2
        subst h3
        have hl : pre.length < 1000 := by have := congrArg List.length h1; simp at this; omega
        refine ⟨_, _, .inl (stp (st_app (xs := (prefs pre).map .int) rfl (ev_var rfl) (by rw [List.length_map, prefs_len, cap_v]; omega)) (stp (st_aug rfl rfl (ev_var rfl) (op2_add_int _ _)) (evSs_nil' _ _ _))), rfl, pre ++ [n], suf, .val (.int n), by simp [h1], rfl, ?_⟩
        simp [setS, prefs_snoc, LI])
    (ρ := [.val (TI cs), .own (LI []), .val (.int 0), .un]) (o := o) ⟨rfl, [], cs, .un, rfl, rfl, rfl⟩
  obtain ⟨ρ', o', e, ho, pre, suf, x, h1, h2, h3⟩ := L
  subst ho
  have : suf = [] := by cases suf with | nil => rfl | cons _ _ => cases h2
  subst this
  rw [List.append_nil] at h1
  subst h1
  subst h3
  exact call_rt rfl (stp (st_par (evs_cons (ev_lst evs_nil) (evs_cons ev_cst evs_nil)) rfl) (stp (st_forT (ev_var rfl) e) (stR (st_ret (ev_tup (evs_cons (ev_var rfl) (evs_cons (ev_bi1 (ev_pkO rfl) (bi_tuple_lst _)) evs_nil)))))))
def steps (cs ds : List Int) (a h : Int) : Bool := (List.range (cs.length * ds.length)).all fun k : Nat => decide (at_ cs (a + k) = at_ ds (h + k))
theorem mul_cap {a b : Nat} (h : a ≤ 1000) (h2 : b ≤ 1000) : a * b ≤ cap := by
  have : a * b ≤ 1000 * 1000 := Nat.mul_le_mul h h2
  rw [cap_v]; omega
section
variable {cs ds : List Int} (hc : 0 < cs.length) (hd : 0 < ds.length) (hc2 : cs.length ≤ 1000) (hd2 : ds.length ≤ 1000)
include hc hd hc2 hd2
/-- in_step -/
theorem s5 (k : Nat) (a h : Int) (o : Or) : C (k + 1) 5 [TI cs, TI ds, .int a, .int h] o = .ok (.bool (steps cs ds a h)) o := by
  refine call_rt rfl (stp (st_set (ev_op2 (ev_bi1 (ev_var rfl) (bi_len_TI _)) (ev_bi1 (ev_var rfl) (bi_len_TI _)) (op2_mul_nat (by omega)))) (stR (st_ret (ev_bi1 (x := .lst (((List.range (cs.length * ds.length)).map fun k : Nat => decide (at_ cs (a + k) = at_ ds (h + k))).map .bool)) ?_ ?_))))
  · rw [List.map_map]
    refine ev_comp (g := fun k : Nat => D.bool (decide (at_ cs (a + k) = at_ ds (h + k)))) (n := cs.length * ds.length) (ev_rangeN (ev_var rfl) (mul_cap hc2 hd2)) fun j hj => ?_
    exact ev_op2 (ev_op2 (ev_var rfl) (ev_op2 (ev_op2 (ev_var rfl) (ev_var rfl) (op2_add_int _ _)) (ev_bi1 (ev_var rfl) (bi_len_TI _)) (op2_mod_int (by omega))) (ix_at hc _)) (ev_op2 (ev_var rfl) (ev_op2 (ev_op2 (ev_var rfl) (ev_var rfl) (op2_add_int _ _)) (ev_bi1 (ev_var rfl) (bi_len_TI _)) (op2_mod_int (by omega))) (ix_at hd _)) (op2_eq_int _ _)
  · rw [bi_all, List.all_map]; rfl
/-- _law_steps -/
theorem s21 (k : Nat) (a h : Int) (o : Or) : C (k + 2) 21 [TI cs, TI ds, .int a, .int h] o = .ok (.bool (steps cs ds a h)) o := by
  refine call_rt rfl (stR (st_ret ?_))
  rw [evI_nil (ev_compF (n := cs.length * ds.length) (o1 := o) (p := fun k : Nat => !decide (at_ cs (a + k) = at_ ds (h + k))) (g := fun k : Nat => .int k) (ev_rangeN (ev_op2 (ev_bi1 (ev_var rfl) (bi_len_TI _)) (ev_bi1 (ev_var rfl) (bi_len_TI _)) (op2_mul_nat (by omega))) (mul_cap hc2 hd2)) ?_ fun j _ _ => ev_var rfl) (ok_nats _ _), isEmpty_map, filt_all]
  · rfl
  · exact fun j hj => ev_op2 (ev_call2 (ev_var rfl) (ev_op2 (ev_var rfl) (ev_var rfl) (op2_add_int _ _)) (s20 k hc _ _)) (ev_call2 (ev_var rfl) (ev_op2 (ev_var rfl) (ev_var rfl) (op2_add_int _ _)) (s20 k hd _ _)) (op2_ne_int _ _)
def fnd (cs ds : List Int) (a h : Int) : Option Nat := (List.range cs.length).find? fun k : Nat => steps cs ds (a + k) h
/-- trips_to -/
theorem s6 (k : Nat) (a h : Int) (o : Or) : C (k + 2) 6 [TI cs, TI ds, .int a, .int h] o = .ok (optD (fnd cs ds a h)) o := by
  have L := forM_find (f := fun x ρ o => evSs (callN tab (k + 1)) [.ifs (.call 5 [(.var 0), (.var 1), (.op2 .add (.var 2) (.var 4)), (.var 3)]) [.ret (.var 4)] []] (setS ρ 4 (.val x)) o) (p := fun j : Nat => steps cs ds (a + j) h) (r := fun j : Nat => D.int j) (o := o)
    (I := fun ρ => ∃ x, ρ = [.val (TI cs), .val (TI ds), .val (.int a), .val (.int h), x]) (fun j : Nat => D.int j) (List.range cs.length) (fun j hj ρ ⟨x, hρ⟩ => by
      subst hρ
      have e : evE (callN tab (k + 1)) (.call 5 [(.var 0), (.var 1), (.op2 .add (.var 2) (.var 4)), (.var 3)]) [.val (TI cs), .val (TI ds), .val (.int a), .val (.int h), .val (.int j)] o = .ok (.bool (steps cs ds (a + j) h)) o :=
        ev_call4 (ev_var rfl) (ev_var rfl) (ev_op2 (ev_var rfl) (ev_var rfl) (op2_add_int _ _)) (ev_var rfl) (s5 hc hd hc2 hd2 k _ _ _)
      cases hs : steps cs ds (a + j) h with
      | true => rw [hs] at e; rw [if_pos rfl]; exact stR (ifT e (stR (st_ret (ev_var rfl))))
      | false => rw [hs] at e; rw [if_neg (by decide)]; exact ⟨_, stp (ifF e (evSs_nil' _ _ _)) (evSs_nil' _ _ _), _, rfl⟩)
    (ρ := startS 5 [TI cs, TI ds, .int a, .int h]) ⟨.un, rfl⟩
  have L : match fnd cs ds a h with
    | some k1 => forM (fun x ρ o => evSs (callN tab (k + 1)) [.ifs (.call 5 [(.var 0), (.var 1), (.op2 .add (.var 2) (.var 4)), (.var 3)]) [.ret (.var 4)] []] (setS ρ 4 (.val x)) o) (RI cs.length) (startS 5 [TI cs, TI ds, .int a, .int h]) o = .rt (.int k1) o
    | none => ∃ ρ', forM (fun x ρ o => evSs (callN tab (k + 1)) [.ifs (.call 5 [(.var 0), (.var 1), (.op2 .add (.var 2) (.var 4)), (.var 3)]) [.ret (.var 4)] []] (setS ρ 4 (.val x)) o) (RI cs.length) (startS 5 [TI cs, TI ds, .int a, .int h]) o = .nx ρ' o ∧ ∃ x, ρ' = [.val (TI cs), .val (TI ds), .val (.int a), .val (.int h), x] := L
  have hr : evE (callN tab (k + 1)) (.bi .range [.bi .len [.var 0]]) (startS 5 [TI cs, TI ds, .int a, .int h]) o = .ok (.lst (RI cs.length)) o := ev_rangeN (ev_bi1 (ev_var rfl) (bi_len_TI _)) (by rw [cap_v]; omega)
  cases hf : fnd cs ds a h with
  | some j => rw [hf] at L; exact call_rt rfl (stR (st_forI hr L))
  | none => rw [hf] at L; obtain ⟨ρ', L, _⟩ := L; exact call_rt rfl (stp (st_forI hr L) (stR (st_ret ev_cst)))
theorem fnd_lt {a h : Int} {j : Nat} (e : fnd cs ds a h = some j) : j < cs.length := List.mem_range.mp (List.mem_of_find?_eq_some e)
/-- strokes_to -/
def strk (cs ds : List Int) (a h : Int) : D := match fnd cs ds a h with
  | some j => .int (struckL cs a j).sum
  | none => .non
theorem s7 (k : Nat) (a h : Int) (o : Or) : C (k + 3) 7 [TI cs, TI ds, .int a, .int h] o = .ok (strk cs ds a h) o := by
  refine call_rt rfl (stp (st_set (ev_call4 (ev_var rfl) (ev_var rfl) (ev_var rfl) (ev_var rfl) (s6 hc hd hc2 hd2 k a h o))) (stR (st_ret ?_)))
  unfold strk
  cases hf : fnd cs ds a h with
  | none => exact ev_iteT (ev_op2 (ev_var rfl) ev_cst (op2_is_non _)) ev_cst
  | some j =>
    have := fnd_lt hc hd hc2 hd2 hf
    exact ev_iteF (ev_op2 (ev_var rfl) ev_cst (op2_is_non _)) (ev_bi1 (ev_call3 (ev_var rfl) (ev_var rfl) (ev_var rfl) (s3 (k + 1) hc a j (by rw [cap_v]; omega) o)) (bi_sum_tup _))
end
end Lk61

end
/-! text: k61_M2.lean -/
section
set_option autoImplicit false
set_option maxRecDepth 100000
namespace Lk61
open BV
/-- places_heard -/
def heardAt (cs hd : List Int) : List Nat := (List.range cs.length).filter fun k : Nat => decide (struckL cs k hd.length = hd)
theorem s8 (k : Nat) {cs : List Int} (hc : 0 < cs.length) (hc2 : cs.length ≤ 1000) (hd : List Int) (hd2 : hd.length ≤ 1000) (o : Or) : C (k + 2) 8 [TI cs, TI hd] o = .ok (TI (ni (heardAt cs hd))) o := by
  refine call_rt rfl (stR (st_ret (ev_bi1 (ev_compF (n := cs.length) (o1 := o) (p := fun k : Nat => decide (struckL cs k hd.length = hd)) (g := fun k : Nat => .int k) (ev_rangeN (ev_bi1 (ev_var rfl) (bi_len_TI _)) (by rw [cap_v]; omega)) ?_ fun j _ _ => ev_var rfl) (by rw [bi_tuple_lst, ni_map]; rfl))))
  exact fun j hj => ev_op2 (ev_call3 (ev_var rfl) (ev_var rfl) (ev_bi1 (ev_var rfl) (bi_len_TI _)) (s3 k hc _ _ (by rw [cap_v]; omega) _)) (ev_bi1 (x := TI hd) (ev_var rfl) (bi_tuple_tup _)) (op2_eq_TI _ _)
theorem struck_eq (cs hd : List Int) (k : Int) : struckL cs k hd.length = hd ↔ (List.range hd.length).all (fun j : Nat => decide (at_ cs (k + j) = hd.getD j 0)) = true := by
  rw [struckL, eq_range, List.all_eq_true]
  simp only [List.mem_range, decide_eq_true_eq]
theorem heard_eq (cs hd : List Int) : ((List.range cs.length).filter fun k : Nat => ((List.range hd.length).filter fun j : Nat => !decide (at_ cs (k + j) = hd.getD j 0)).isEmpty) = heardAt cs hd := by
  unfold heardAt
  refine List.filter_congr fun k _ => ?_
  rw [filt_all, Bool.eq_iff_iff, decide_eq_true_eq, struck_eq]
/-- wrong_hours -/
def wrongs (cs ds : List Int) (a : Int) : List Nat := (List.range ds.length).filter fun h : Nat => !decide (at_ cs (a + h) = ds.getD h 0)
theorem ix_nat {cs : List Int} {k : Nat} (h : k < cs.length) : op2 .ix (TI cs) (.int k) = some (.int (cs.getD k 0)) := by
  rw [ix_TI (by omega) (by omega), Int.toNat_natCast]
theorem s9 (k : Nat) {cs : List Int} (hc : 0 < cs.length) (ds : List Int) (hd2 : ds.length ≤ 1000) (a : Int) (o : Or) : C (k + 1) 9 [TI cs, TI ds, .int a] o = .ok (TI (ni (wrongs cs ds a))) o := by
  refine call_rt rfl (stR (st_ret (ev_bi1 (ev_compF (n := ds.length) (o1 := o) (p := fun h : Nat => !decide (at_ cs (a + h) = ds.getD h 0)) (g := fun k : Nat => .int k) (ev_rangeN (ev_bi1 (ev_var rfl) (bi_len_TI _)) (by rw [cap_v]; omega)) ?_ fun j _ _ => ev_var rfl) (by rw [bi_tuple_lst, ni_map]; rfl))))
  exact fun j hj => ev_op2 (ev_op2 (ev_var rfl) (ev_op2 (ev_op2 (ev_var rfl) (ev_var rfl) (op2_add_int _ _)) (ev_bi1 (ev_var rfl) (bi_len_TI _)) (op2_mod_int (by omega))) (ix_at hc _)) (ev_op2 (ev_var rfl) (ev_var rfl) (ix_nat hj)) (op2_ne_int _ _)
def tolds (cs ds : List Int) : List Int := (List.range cs.length).map fun a : Nat => ((wrongs cs ds a).length : Int)
theorem tolds_len (cs ds : List Int) : (tolds cs ds).length = cs.length := by simp [tolds]
/-- best_place -/
def bestD (ns : List Int) : D := match indexO (.lst (ns.map .int)) (.int (minL ns)) with
  | some j => .tup [j, .int (minL ns)]
  | none => .non
theorem best_ev {k : Nat} {ρ : Env} {o : Or} {ns : List Int} {i : Nat} (h : 0 < ns.length) (hi : getS ρ i = .val (LI ns)) : evE (C k) (.tup [(.mth .index (.var i) [(.bi .min1 [(.var i)])]), (.bi .min1 [(.var i)])]) ρ o = .ok (bestD ns) o := by
  cases ns with
  | nil => simp at h
  | cons n ns =>
    obtain ⟨j, hj⟩ := indexO_ints (minL_mem n ns)
    unfold bestD
    rw [hj]
    exact ev_tup (evs_cons (ev_mthI (ev_var hi) (ev_bi1 (ev_var hi) (bi_min n ns)) hj) (evs_cons (ev_bi1 (ev_var hi) (bi_min n ns)) evs_nil))
theorem bestD_pl (ns : List Int) (h : 0 < ns.length) : plD 1 (bestD ns) = true := by
  cases ns with
  | nil => simp at h
  | cons n ns =>
    obtain ⟨j, hj⟩ := indexO_ints (minL_mem n ns)
    unfold bestD
    rw [hj]
    rfl
theorem s10 (k : Nat) {cs : List Int} (hc : 0 < cs.length) (hc2 : cs.length ≤ 1000) (ds : List Int) (hd2 : ds.length ≤ 1000) (o : Or) : C (k + 2) 10 [TI cs, TI ds] o = .ok (bestD (tolds cs ds)) o := by
  refine call_rt rfl (stp (st_set (d := LI (tolds cs ds)) (o1 := o) ?_) (stR (st_ret (best_ev (by rw [tolds_len]; exact hc) rfl))))
  rw [LI, tolds, List.map_map]
  exact ev_comp (n := cs.length) (ev_rangeN (ev_bi1 (ev_var rfl) (bi_len_TI _)) (by rw [cap_v]; omega)) fun j hj => ev_bi1 (ev_call3 (ev_var rfl) (ev_var rfl) (ev_var rfl) (s9 k hc ds hd2 _ _)) (by rw [bi_len_TI, ni_len]; rfl)
/-- is_round -/
def roundB (cs ds : List Int) : Bool := decide ((cs.length : Int) = ds.length) && (List.range cs.length).any fun a : Nat => decide (struckL cs a ds.length = ds)
theorem s11 (k : Nat) {cs : List Int} (hc : 0 < cs.length) (hc2 : cs.length ≤ 1000) (ds : List Int) (hd2 : ds.length ≤ 1000) (o : Or) : C (k + 2) 11 [TI cs, TI ds] o = .ok (.bool (roundB cs ds)) o := by
  refine call_rt rfl (stR (st_ret (ev_and2 (ev_op2 (ev_bi1 (ev_var rfl) (bi_len_TI _)) (ev_bi1 (ev_var rfl) (bi_len_TI _)) (op2_eq_int _ _)) fun _ => ?_)))
  refine ev_bi1 (x := .lst (((List.range cs.length).map fun a : Nat => decide (struckL cs a ds.length = ds)).map .bool)) (o1 := o) ?_ (by rw [bi_any, List.any_map]; rfl)
  rw [List.map_map]
  exact ev_comp (n := cs.length) (ev_rangeN (ev_bi1 (ev_var rfl) (bi_len_TI _)) (by rw [cap_v]; omega)) fun j hj => ev_op2 (ev_call3 (ev_var rfl) (ev_var rfl) (ev_bi1 (ev_var rfl) (bi_len_TI _)) (s3 k hc _ _ (by rw [cap_v]; omega) _)) (ev_bi1 (x := TI ds) (ev_var rfl) (bi_tuple_tup _)) (op2_eq_TI _ _)
theorem round_eq (cs ds : List Int) : (decide ((cs.length : Int) = ds.length) && (tolds cs ds).any fun n => decide (n = 0)) = roundB cs ds := by
  unfold roundB tolds
  congr 1
  rw [List.any_map]
  congr 1
  funext a
  show decide (((wrongs cs ds a).length : Int) = 0) = decide (struckL cs a ds.length = ds)
  rw [Bool.eq_iff_iff, decide_eq_true_eq, decide_eq_true_eq, struck_eq, ← filt_all]
  show ((wrongs cs ds a).length : Int) = 0 ↔ (wrongs cs ds a).isEmpty = true
  rw [List.isEmpty_iff_length_eq_zero]
  omega
/-- wheel_for -/
def isWh (ds : List Int) (s : Nat) : Bool := decide (((ds.length : Int) % s) = 0) && decide (ds = rep (ds.take s) (ds.length / s))
def wheel (ds : List Int) : List Int := match (List.range ds.length).find? fun j : Nat => isWh ds (1 + j) with
  | some j => ds.take (1 + j)
  | none => ds
theorem rep_map {α β : Type} (f : α → β) (xs : List α) (k : Nat) : (rep xs k).map f = rep (xs.map f) k := by
  simp [rep, List.map_flatten, List.map_replicate]
theorem rep_len {α : Type} (xs : List α) (k : Nat) : (rep xs k).length = k * xs.length := by simp [rep]
theorem range_two (n : Nat) (h : n ≤ 1000000) : rangeO 1 ((n : Int) + 1) = some (.lst ((List.range n).map fun j : Nat => .int ((1 + j : Nat) : Int))) := by
  rw [rangeO_two (by omega) (by omega) (by omega) (by omega) (by rw [cap_v]; omega)]
  rw [show ((n : Int) + 1 - 1).toNat = n by omega]
  congr 3
theorem isWh_ev {k : Nat} {ds : List Int} (hd2 : ds.length ≤ 1000) {ρ : Env} {o : Or} {i j : Nat} {s : Nat} (hs : 1 ≤ s) (hs2 : s ≤ ds.length) (hi : getS ρ i = .val (TI ds)) (hj : getS ρ j = .val (.int s)) :
    evE (C k) (.and (.op2 .eq (.op2 .mod (.bi .len [(.var i)]) (.var j)) (.cst (.int 0))) (.op2 .eq (.var i) (.op2 .mul (.slice (.var i) (.cst .non) (.op1 .chkI (.var j))) (.op2 .fdiv (.bi .len [(.var i)]) (.var j))))) ρ o = .ok (.bool (isWh ds s)) o := by
  refine ev_and2 (ev_op2 (ev_op2 (ev_bi1 (ev_var hi) (bi_len_TI _)) (ev_var hj) (op2_mod_int (by omega))) ev_cst (op2_eq_int _ _)) fun _ => ?_
  have hq : (1 : Int) ≤ (ds.length : Int) / s := by
    have := (Int.le_ediv_iff_mul_le (a := 1) (b := (ds.length : Int)) (c := s) (by omega)).mpr (by omega)
    exact this
  have hq2 : (ds.length : Int) / s ≤ 1000 := Int.le_trans (Int.ediv_le_self _ (by omega)) (by omega)
  have e : op2 .mul (.tup (cut (ds.map D.int) none (some (s : Int)))) (.int ((ds.length : Int) / s)) = some (TI (rep (ds.take s) (ds.length / s))) := by
    rw [cut_hi _ _ (by simpa using hs2), ← List.map_take, op2_mul_tup]
    · rw [TI, rep_map]
      congr 4
    · simp only [repOk, List.length_map, List.length_take, Nat.min_eq_left hs2, Bool.and_eq_true, decide_eq_true_eq]
      exact ⟨⟨⟨hq, hq2⟩, hs⟩, by omega⟩
  exact ev_op2 (ev_var hi) (ev_op2 (ev_slice (ev_var hi) ev_cst (ev_op1 (ev_var hj) (op1_chkI _)) rfl rfl) (ev_op2 (ev_bi1 (ev_var hi) (bi_len_TI _)) (ev_var hj) (op2_fdiv_int (by omega) (by omega))) e) (op2_eq_TI _ _)
end Lk61

end
/-! text: k61_M3.lean -/
section
set_option autoImplicit false
set_option maxRecDepth 100000
namespace Lk61
open BV
theorem rep_getD (xs : List Int) : ∀ (q k : Nat), k < q * xs.length → (rep xs q).getD k 0 = xs.getD (k % xs.length) 0
  | 0, k, h => by simp at h
  | q + 1, k, h => by
    have e : rep xs (q + 1) = xs ++ rep xs q := by simp [rep, List.replicate_succ]
    have hp : 0 < xs.length := by
      rcases Nat.eq_zero_or_pos xs.length with h0 | h0
      · rw [h0] at h; simp at h
      · exact h0
    rw [e, List.getD_eq_getElem?_getD, List.getElem?_append]
    by_cases hk : k < xs.length
    · rw [if_pos hk, Nat.mod_eq_of_lt hk, List.getD_eq_getElem?_getD]
    · rw [if_neg hk, ← List.getD_eq_getElem?_getD, rep_getD xs q _ (by rw [Nat.succ_mul] at h; omega), ← Nat.mod_eq_sub_mod (by omega)]
theorem getD_take (xs : List Int) (s j : Nat) (h : j < s) : (xs.take s).getD j 0 = xs.getD j 0 := by
  rw [List.getD_eq_getElem?_getD, List.getElem?_take, if_pos h, List.getD_eq_getElem?_getD]
/-- what the law says of a size -/
def isWh' (ds : List Int) (s : Nat) : Bool := (List.range ds.length).all (fun k : Nat => decide (ds.getD k 0 = ds.getD (k % s) 0)) && decide (((ds.length : Int) % s) = 0)
theorem isWh_eq (ds : List Int) {s : Nat} (hs : 1 ≤ s) (hs2 : s ≤ ds.length) : isWh' ds s = isWh ds s := by
  unfold isWh' isWh
  rw [Bool.and_comm]
  by_cases h : ((ds.length : Int) % s) = 0
  rotate_left
  · simp [h]
  congr 1
  have hm : ds.length % s = 0 := by omega
  have hq : ds.length / s * s = ds.length := Nat.div_mul_cancel (Nat.dvd_of_mod_eq_zero hm)
  have hl : (ds.take s).length = s := by rw [List.length_take, Nat.min_eq_left hs2]
  rw [Bool.eq_iff_iff, decide_eq_true_eq, List.all_eq_true]
  simp only [List.mem_range, decide_eq_true_eq]
  have key : ∀ k < ds.length, (rep (ds.take s) (ds.length / s)).getD k 0 = ds.getD (k % s) 0 := fun k hk => by
    rw [rep_getD _ _ _ (by rw [hl, hq]; exact hk), hl, getD_take _ _ _ (Nat.mod_lt _ (by omega))]
  constructor
  · intro h
    refine List.ext_getElem (by rw [rep_len, hl, hq]) fun k h1 h2 => ?_
    have a := h k h1
    rw [← key k h1] at a
    simpa [List.getD_eq_getElem?_getD, List.getElem?_eq_getElem h1, List.getElem?_eq_getElem h2] using a
  · intro h k hk
    rw [← key k hk, ← h]
theorem isWh_full (ds : List Int) (h : 0 < ds.length) : isWh ds ds.length = true := by
  have : ds.length / ds.length = 1 := Nat.div_self h
  simp [isWh, this, rep]
theorem wheel_some (ds : List Int) (h : 0 < ds.length) : ∃ j, (List.range ds.length).find? (fun j : Nat => isWh ds (1 + j)) = some j := by
  cases e : (List.range ds.length).find? (fun j : Nat => isWh ds (1 + j)) with
  | some j => exact ⟨j, rfl⟩
  | none =>
    have := List.find?_eq_none.mp e (ds.length - 1) (List.mem_range.mpr (by omega))
    rw [show 1 + (ds.length - 1) = ds.length by omega, isWh_full ds h] at this
    exact absurd rfl this
/-- wheel_for -/
theorem s12 (k : Nat) {ds : List Int} (hd : 0 < ds.length) (hd2 : ds.length ≤ 1000) (o : Or) : C (k + 1) 12 [TI ds] o = .ok (TI (wheel ds)) o := by
  have L := forM_find (f := fun x ρ o => evSs (callN tab k) [.ifs (.and (.op2 .eq (.op2 .mod (.bi .len [(.var 0)]) (.var 1)) (.cst (.int 0))) (.op2 .eq (.var 0) (.op2 .mul (.slice (.var 0) (.cst .non) (.op1 .chkI (.var 1))) (.op2 .fdiv (.bi .len [(.var 0)]) (.var 1))))) [.ret (.slice (.var 0) (.cst .non) (.op1 .chkI (.var 1)))] []] (setS ρ 1 (.val x)) o) (p := fun j : Nat => isWh ds (1 + j)) (r := fun j : Nat => TI (ds.take (1 + j))) (o := o)
    (I := fun ρ => ∃ x, ρ = [.val (TI ds), x]) (fun j : Nat => D.int ((1 + j : Nat) : Int)) (List.range ds.length) (fun j hj ρ ⟨x, hρ⟩ => by
      subst hρ
      have hj' := List.mem_range.mp hj
      have e := isWh_ev (k := k) hd2 (ρ := [.val (TI ds), .val (.int ((1 + j : Nat) : Int))]) (o := o) (i := 0) (j := 1) (s := 1 + j) (by omega) (by omega) rfl rfl
      cases hs : isWh ds (1 + j) with
      | true =>
        rw [hs] at e; rw [if_pos rfl]
        refine stR (ifT e (stR (st_ret ?_)))
        have := ev_slice (C := callN tab k) (ρ := [.val (TI ds), .val (.int ((1 + j : Nat) : Int))]) (o := o) (a := .var 0) (e2 := .cst .non) (e3 := .op1 .chkI (.var 1)) (xs := ds.map .int) (ev_var rfl) ev_cst (ev_op1 (ev_var rfl) (op1_chkI _)) rfl rfl
        rw [cut_hi _ _ (by simp; omega), ← List.map_take] at this
        exact this
      | false => rw [hs] at e; rw [if_neg (by decide)]; exact ⟨_, stp (ifF e (evSs_nil' _ _ _)) (evSs_nil' _ _ _), _, rfl⟩)
    (ρ := startS 2 [TI ds]) ⟨.un, rfl⟩
  obtain ⟨j, hj⟩ := wheel_some ds hd
  unfold wheel
  rw [hj] at L ⊢
  refine call_rt rfl (stR (st_forI (xs := (List.range ds.length).map fun j : Nat => .int ((1 + j : Nat) : Int)) (o1 := o) ?_ L))
  refine ev_bi2 ev_cst (ev_op2 (ev_bi1 (ev_var rfl) (bi_len_TI _)) ev_cst (op2_add_int _ _)) ?_
  rw [bi_rng2, range_two _ (by omega)]
/-! after_strokes -/
def st1 (cs : List Int) (s : Int × Int) : Int × Int := if s.2 + 1 = at_ cs s.1 then ((s.1 + 1) % cs.length, 0) else (s.1, s.2 + 1)
def sim (cs : List Int) : Nat → Int × Int → Int × Int
  | 0, s => s
  | n + 1, s => st1 cs (sim cs n s)
theorem sim_add (cs : List Int) (a : Nat) (s : Int × Int) : ∀ b, sim cs (a + b) s = sim cs b (sim cs a s)
  | 0 => rfl
  | b + 1 => by rw [← Nat.add_assoc, sim, sim_add cs a s b, sim]
section
variable {cs : List Int} (hp : ∀ n ∈ cs, (1 : Int) ≤ n)
include hp
theorem at_pos (h : 0 < cs.length) (p : Int) : 1 ≤ at_ cs p := by
  have h1 := Int.emod_nonneg p (b := cs.length) (by omega)
  have h2 := Int.emod_lt_of_pos p (b := cs.length) (by omega)
  unfold at_
  rw [List.getD_eq_getElem?_getD, List.getElem?_eq_getElem (by omega)]
  exact hp _ (List.getElem_mem _)
theorem sim_low (p : Int) : ∀ x : Nat, (x : Int) < at_ cs p → sim cs x (p, 0) = (p, (x : Int))
  | 0, _ => rfl
  | x + 1, h => by
    rw [sim, sim_low p x (by omega), st1, if_neg (by simp only; omega)]
    simp
theorem sim_whole (h : 0 < cs.length) (p : Int) : sim cs (at_ cs p).toNat (p, 0) = ((p + 1) % cs.length, 0) := by
  have := at_pos hp h p
  obtain ⟨m, hm⟩ : ∃ m : Nat, at_ cs p = (m : Int) + 1 := ⟨(at_ cs p - 1).toNat, by omega⟩
  rw [hm, show ((m : Int) + 1).toNat = m + 1 by omega, sim, sim_low hp p m (by omega), st1, if_pos (by simp only; omega)]
theorem sim_high (h : 0 < cs.length) (p : Int) (x : Nat) (hx : at_ cs p ≤ x) : sim cs x (p, 0) = sim cs (x - (at_ cs p).toNat) ((p + 1) % cs.length, 0) := by
  have := at_pos hp h p
  conv => lhs; rw [show x = (at_ cs p).toNat + (x - (at_ cs p).toNat) by omega, sim_add, sim_whole hp h]
/-- j whole places -/
theorem sim_places (h : 0 < cs.length) (p : Int) (hp0 : 0 ≤ p) (hp1 : p < cs.length) : ∀ j : Nat, sim cs (struckL cs p j).sum.toNat (p, 0) = ((p + j) % cs.length, 0) ∧ 0 ≤ (struckL cs p j).sum
  | 0 => by simp [struckL, sim, Int.emod_eq_of_lt hp0 hp1]
  | j + 1 => by
    obtain ⟨e, h0⟩ := sim_places h p hp0 hp1 j
    have es : (struckL cs p (j + 1)).sum = (struckL cs p j).sum + at_ cs (p + j) := by
      simp [struckL, List.range_succ]
    have h1 := at_pos hp h (p + j)
    have am : at_ cs ((p + j) % cs.length) = at_ cs (p + j) := by rw [at_, at_, Int.emod_emod]
    refine ⟨?_, by omega⟩
    rw [es, Int.toNat_add h0 (by omega), sim_add, e, ← am, sim_whole hp h, Int.emod_add_emod]
    simp [Int.add_assoc]
omit hp in
theorem struck_round (h : 0 < cs.length) (p : Nat) (hp1 : p < cs.length) : struckL cs p cs.length = cs.drop p ++ cs.take p := by
  refine List.ext_getElem (by simp [struckL]; omega) fun k h1 h2 => ?_
  have hk : k < cs.length := by simpa [struckL] using h1
  simp only [struckL, List.getElem_map, List.getElem_range, at_]
  rw [List.getElem_append]
  by_cases hh : k < cs.length - p
  · rw [dif_pos (by simpa using hh), List.getElem_drop]
    have : (((p : Int) + k) % cs.length).toNat = p + k := by rw [Int.emod_eq_of_lt (by omega) (by omega)]; omega
    rw [this, List.getD_eq_getElem?_getD, List.getElem?_eq_getElem (by omega)]; rfl
  · rw [dif_neg (by simpa using hh), List.getElem_take]
    have : (((p : Int) + k) % cs.length).toNat = k - (cs.length - p) := by
      have : ((p : Int) + k) = (((k - (cs.length - p) : Nat) : Int)) + cs.length := by omega
      rw [this, Int.add_emod_right, Int.emod_eq_of_lt (by omega) (by omega)]; omega
    rw [this, List.getD_eq_getElem?_getD, List.getElem?_eq_getElem (by omega)]
    simp
omit hp in
theorem struck_sum (h : 0 < cs.length) (p : Int) (h0 : 0 ≤ p) (hp1 : p < cs.length) : (struckL cs p cs.length).sum = cs.sum := by
  have := struck_round h p.toNat (by omega)
  rw [Int.toNat_of_nonneg h0] at this
  rw [this, List.sum_append]
  conv => rhs; rw [← List.take_append_drop p.toNat cs, List.sum_append]
  omega
theorem sim_total (h : 0 < cs.length) (p : Int) (h0 : 0 ≤ p) (hp1 : p < cs.length) : sim cs cs.sum.toNat (p, 0) = (p, 0) := by
  have := (sim_places hp h p h0 hp1 cs.length).1
  rw [struck_sum h p h0 hp1] at this
  rw [this, Int.add_emod_right, Int.emod_eq_of_lt h0 hp1]
theorem sum_pos (h : 0 < cs.length) : 1 ≤ cs.sum := by
  cases cs with
  | nil => simp at h
  | cons n ns =>
    have : ∀ l : List Int, (∀ n ∈ l, (1 : Int) ≤ n) → 0 ≤ l.sum := by
      intro l
      induction l with
      | nil => intro _; simp
      | cons a l ih => intro hl; have := ih fun n hn => hl n (by simp [hn]); have := hl a (by simp); simp; omega
    have h1 := this ns fun n hn => hp n (by simp [hn])
    have h2 := hp n (by simp)
    simp; omega
theorem sim_mod (h : 0 < cs.length) (p : Int) (h0 : 0 ≤ p) (hp1 : p < cs.length) (s : Nat) : sim cs s (p, 0) = sim cs (s % cs.sum.toNat) (p, 0) := by
  have hs : 0 < cs.sum.toNat := by have := sum_pos hp h; omega
  induction s using Nat.strongRecOn with
  | ind s ih =>
    by_cases hl : s < cs.sum.toNat
    · rw [Nat.mod_eq_of_lt hl]
    · rw [Nat.mod_eq_sub_mod (by omega), ← ih (s - cs.sum.toNat) (by omega)]
      conv => lhs; rw [show s = cs.sum.toNat + (s - cs.sum.toNat) by omega, sim_add, sim_total hp h p h0 hp1]
end
end Lk61

end
/-! text: k61_M4.lean -/
section
set_option autoImplicit false
set_option maxRecDepth 100000
namespace Lk61
open BV
theorem ix_in {cs : List Int} {p : Int} (h0 : 0 ≤ p) (h1 : p < cs.length) : op2 .ix (TI cs) (.int p) = some (.int (at_ cs p)) := by
  rw [ix_TI h0 h1, at_, Int.emod_eq_of_lt h0 h1]
section
variable {cs : List Int} (hp : ∀ n ∈ cs, (1 : Int) ≤ n) (h : 0 < cs.length)
include hp h
theorem whl13 (k : Nat) (u v : Sl) (o : Or) : ∀ (N x : Nat), x < N → ∀ p : Int, 0 ≤ p → p < cs.length →
    whileM (fun ρ o => evE (callN tab k) (.op2 .ge (.var 3) (.op2 .ix (.var 0) (.var 4))) ρ o) (fun ρ o => evSs (callN tab k) [.aug 3 .sub (.op2 .ix (.var 0) (.var 4)), .set (.slot 4) (.op2 .mod (.op2 .add (.var 4) (.cst (.int 1))) (.bi .len [(.var 0)]))] ρ o) N
      [.val (TI cs), u, v, .val (.int x), .val (.int p)] o = .nx [.val (TI cs), u, v, .val (.int (sim cs x (p, 0)).2), .val (.int (sim cs x (p, 0)).1)] o
  | 0, x, hx, _, _, _ => by omega
  | N + 1, x, hx, p, h0, h1 => by
    have e : evE (callN tab k) (.op2 .ge (.var 3) (.op2 .ix (.var 0) (.var 4))) [.val (TI cs), u, v, .val (.int x), .val (.int p)] o = .ok (.bool (decide (at_ cs p ≤ x))) o :=
      ev_op2 (ev_var rfl) (ev_op2 (ev_var rfl) (ev_var rfl) (ix_in h0 h1)) (op2_ge_int _ _)
    rw [whileM, e, R.out_ok]
    have hc := at_pos hp h p
    by_cases hx2 : at_ cs p ≤ x
    · rw [decide_eq_true hx2]
      have b : evSs (callN tab k) [.aug 3 .sub (.op2 .ix (.var 0) (.var 4)), .set (.slot 4) (.op2 .mod (.op2 .add (.var 4) (.cst (.int 1))) (.bi .len [(.var 0)]))] [.val (TI cs), u, v, .val (.int x), .val (.int p)] o = .nx [.val (TI cs), u, v, .val (.int ((x - (at_ cs p).toNat : Nat) : Int)), .val (.int ((p + 1) % cs.length))] o := by
        have ex : ((x - (at_ cs p).toNat : Nat) : Int) = (x : Int) - at_ cs p := by omega
        rw [ex]
        exact stp (st_aug rfl rfl (ev_op2 (ev_var rfl) (ev_var rfl) (ix_in h0 h1)) (op2_sub_int _ _)) (stp (st_set (ev_op2 (ev_op2 (ev_var rfl) ev_cst (op2_add_int _ _)) (ev_bi1 (ev_var rfl) (bi_len_TI _)) (op2_mod_int (by omega)))) (evSs_nil' _ _ _))
      simp only [truth, b, Out.turn]
      rw [whl13 k u v o N (x - (at_ cs p).toNat) (by omega) _ (Int.emod_nonneg _ (by omega)) (Int.emod_lt_of_pos _ (by omega)), ← sim_high hp h p x hx2]
    · rw [decide_eq_false hx2, sim_low hp p x (by omega)]
      simp only [truth]
/-- after_strokes -/
theorem s13 (k : Nat) (hs : cs.sum ≤ 1000000) (a : Nat) (ha : a < cs.length) (s : Nat) (o : Or) : C (k + 1) 13 [TI cs, .int a, .int s] o = .ok (.tup [.int (sim cs s (a, 0)).1, .int (sim cs s (a, 0)).2]) o := by
  have hsp := sum_pos hp h
  have es : ((s : Int) % cs.sum) = ((s % cs.sum.toNat : Nat) : Int) := by
    conv => lhs; rw [show cs.sum = (cs.sum.toNat : Int) by omega]
    rfl
  have ea : ((a : Int) % cs.length) = a := Int.emod_eq_of_lt (by omega) (by omega)
  have hm : s % cs.sum.toNat < cs.sum.toNat := Nat.mod_lt _ (by omega)
  have W := whl13 hp h k (.val (.int a)) (.val (.int s)) o 100000000 (s % cs.sum.toNat) (by omega) a (by omega) (by omega)
  rw [← sim_mod hp h a (by omega) (by omega)] at W
  refine call_rt rfl (stp (st_set (ev_op2 (ev_var rfl) (ev_bi1 (ev_var rfl) (bi_sum_tup _)) (op2_mod_int (by omega)))) (stp (st_set (ev_op2 (ev_var rfl) (ev_bi1 (ev_var rfl) (bi_len_TI _)) (op2_mod_int (by omega)))) (stp (ρ1 := [.val (TI cs), .val (.int a), .val (.int s), .val (.int (sim cs s (a, 0)).2), .val (.int (sim cs s (a, 0)).1)]) (o1 := o) ?_ (stR (st_ret (ev_tup (evs_cons (ev_var rfl) (evs_cons (ev_var rfl) evs_nil))))))))
  rw [es, ea, evS]
  exact W
end
/-- the rows with lost steps: what has been heard, how many steps -/
def rows (cs ms : List Int) : Nat → List Int × Nat
  | 0 => ([], 0)
  | n + 1 => if ms.any (fun m => decide (m = (n : Int))) then ((rows cs ms n).1 ++ [0], (rows cs ms n).2) else ((rows cs ms n).1 ++ [at_ cs (rows cs ms n).2], (rows cs ms n).2 + 1)
theorem rows_len (cs ms : List Int) : ∀ n, (rows cs ms n).1.length = n
  | 0 => rfl
  | n + 1 => by
    rw [rows]
    split <;> simp [rows_len cs ms n]
/-- lost_step -/
theorem s14 (k : Nat) {cs : List Int} (h : 0 < cs.length) (ms : List Int) (du : D) (n : Nat) (hn : n ≤ 1000) (o : Or) : C (k + 1) 14 [TI cs, du, .int n, TI ms] o = .ok (TI (rows cs ms n).1) o := by
  obtain ⟨ρ', o', e, rfl, x, rfl⟩ := forM_RI (n := n) (f := fun x ρ o => evSs (callN tab k) [.ifs (.op2 .isIn (.var 6) (.var 3)) [.app 4 (.cst (.int 0))] [.app 4 (.op2 .ix (.var 0) (.op2 .mod (.var 5) (.bi .len [(.var 0)]))), .aug 5 .add (.cst (.int 1))]] (setS ρ 6 (.val x)) o)
    (I := fun j ρ o' => o' = o ∧ ∃ x, ρ = [.val (TI cs), .val du, .val (.int n), .val (TI ms), .own (LI (rows cs ms j).1), .val (.int (rows cs ms j).2), x])
    (ρ := [.val (TI cs), .val du, .val (.int n), .val (TI ms), .own (LI []), .val (.int 0), .un]) (o := o)
    (fun j hj ρ o' ⟨ho, x, hρ⟩ => by
      subst ho
      subst hρ
      have hl : ((rows cs ms j).1.map D.int).length < cap := by rw [List.length_map, rows_len, cap_v]; omega
      have e := ev_op2 (C := callN tab k) (ρ := [.val (TI cs), .val du, .val (.int n), .val (TI ms), .own (LI (rows cs ms j).1), .val (.int (rows cs ms j).2), .val (.int j)]) (o := o') (a := .var 6) (b := .var 3) (ev_var rfl) (ev_var rfl) (inO_TI ms j)
      rw [rows]
      cases hm : ms.any (fun m => decide (m = (j : Int))) with
      | true =>
        rw [hm] at e
        refine ⟨_, _, .inl (stp (ifT e (stp (st_app rfl ev_cst hl) (evSs_nil' _ _ _))) (evSs_nil' _ _ _)), rfl, .val (.int j), ?_⟩
        simp [setS, LI]
      | false =>
        rw [hm] at e
        refine ⟨_, _, .inl (stp (ifF e (stp (st_app rfl (ev_op2 (ev_var rfl) (ev_op2 (ev_var rfl) (ev_bi1 (ev_var rfl) (bi_len_TI _)) (op2_mod_int (by omega))) (ix_at h _)) hl) (stp (st_aug rfl rfl ev_cst (op2_add_int _ _)) (evSs_nil' _ _ _)))) (evSs_nil' _ _ _)), rfl, .val (.int j), ?_⟩
        simp [setS, LI])
    ⟨rfl, .un, rfl⟩
  exact call_rt rfl (stp (st_par (evs_cons (ev_lst evs_nil) (evs_cons ev_cst evs_nil)) rfl) (stp (st_forI (ev_rangeN (ev_var rfl) (by rw [cap_v]; omega)) e) (stR (st_ret (ev_bi1 (ev_pkO rfl) (bi_tuple_lst _))))))
/-- the misses that fit what is heard -/
def mis (cs hd : List Int) : Nat → Option (List Int × Nat)
  | 0 => some ([], 0)
  | n + 1 => match mis cs hd n with
    | none => none
    | some (l, g) => if hd.getD n 0 = 0 then some (l ++ [(n : Int)], g) else if hd.getD n 0 = at_ cs g then some (l, g + 1) else none
def misD (cs hd : List Int) : D := match mis cs hd hd.length with
  | some (l, _) => TI l
  | none => .non
theorem mis_none (cs hd : List Int) {n : Nat} (h : mis cs hd n = none) : ∀ m, mis cs hd (n + m) = none
  | 0 => h
  | m + 1 => by rw [← Nat.add_assoc, mis, mis_none cs hd h m]
theorem mis_len (cs hd : List Int) : ∀ (n : Nat) {l : List Int} {g : Nat}, mis cs hd n = some (l, g) → l.length ≤ n
  | 0, l, g, h => by cases h; simp
  | n + 1, l, g, h => by
    rw [mis] at h
    cases e : mis cs hd n with
    | none => rw [e] at h; cases h
    | some p =>
      obtain ⟨l0, g0⟩ := p
      have := mis_len cs hd n e
      rw [e] at h
      simp only at h
      split at h
      · cases h; simp; omega
      · split at h
        · cases h; omega
        · cases h
def b15 : List IS := [.ifs (.op2 .eq (.op2 .ix (.var 1) (.var 4)) (.cst (.int 0))) [.app 3 (.var 4)] [.ifs (.op2 .eq (.op2 .ix (.var 1) (.var 4)) (.op2 .ix (.var 0) (.op2 .mod (.var 2) (.bi .len [(.var 0)])))) [.aug 2 .add (.cst (.int 1))] [.ret (.cst .non)]]]
def F15 (k : Nat) : D → Env → Or → Out := fun x ρ o => evSs (callN tab k) b15 (setS ρ 4 (.val x)) o
def E15 (cs hd : List Int) (l : List Int) (g : Nat) (x : Sl) : Env := [.val (TI cs), .val (TI hd), .val (.int g), .own (LI l), x]
theorem t15 (k : Nat) {cs : List Int} (h : 0 < cs.length) {hd : List Int} (hn : hd.length ≤ 1000) (o : Or) {n : Nat} (hm : n < hd.length) {l : List Int} {g : Nat} (x : Sl) (e : mis cs hd n = some (l, g)) :
    F15 k (.int n) (E15 cs hd l g x) o = match mis cs hd (n + 1) with
      | some (l', g') => .nx (E15 cs hd l' g' (.val (.int n))) o
      | none => .rt .non o := by
  have el := mis_len cs hd n e
  have hx := ev_op2 (C := callN tab k) (ρ := E15 cs hd l g (.val (.int n))) (o := o) (a := .op2 .ix (.var 1) (.var 4)) (b := .cst (.int 0)) (ev_op2 (ev_var rfl) (ev_var rfl) (ix_nat hm)) ev_cst (op2_eq_int _ _)
  have hy := ev_op2 (C := callN tab k) (ρ := E15 cs hd l g (.val (.int n))) (o := o) (a := .op2 .ix (.var 1) (.var 4)) (b := .op2 .ix (.var 0) (.op2 .mod (.var 2) (.bi .len [(.var 0)]))) (ev_op2 (ev_var rfl) (ev_var rfl) (ix_nat hm)) (ev_op2 (ev_var rfl) (ev_op2 (ev_var rfl) (ev_bi1 (ev_var rfl) (bi_len_TI _)) (op2_mod_int (by omega))) (ix_at h _)) (op2_eq_int _ _)
  rw [mis, e]
  simp only
  by_cases h0 : hd.getD n 0 = 0
  · rw [if_pos h0]
    rw [decide_eq_true h0] at hx
    have e2 : E15 cs hd (l ++ [(n : Int)]) g (.val (.int n)) = setS (E15 cs hd l g (.val (.int n))) 3 (.own (.lst (l.map .int ++ [.int n]))) := by simp [E15, setS, LI]
    simp only [e2]
    exact stp (ifT hx (stp (st_app rfl (ev_var rfl) (by rw [List.length_map, cap_v]; omega)) (evSs_nil' _ _ _))) (evSs_nil' _ _ _)
  · rw [if_neg h0]
    rw [decide_eq_false h0] at hx
    by_cases h1 : hd.getD n 0 = at_ cs g
    · rw [if_pos h1]
      rw [decide_eq_true h1] at hy
      exact stp (ifF hx (stp (ifT hy (stp (st_aug rfl rfl ev_cst (op2_add_int _ _)) (evSs_nil' _ _ _))) (evSs_nil' _ _ _))) (evSs_nil' _ _ _)
    · rw [if_neg h1]
      rw [decide_eq_false h1] at hy
      exact stR (ifF hx (stR (ifF hy (stR (st_ret ev_cst)))))
theorem l15 (k : Nat) {cs : List Int} (h : 0 < cs.length) {hd : List Int} (hn : hd.length ≤ 1000) (o : Or) : ∀ (m n : Nat) (l : List Int) (g : Nat) (x : Sl), n + m = hd.length → mis cs hd n = some (l, g) →
      match mis cs hd hd.length with
      | some (l', g') => ∃ x', forM (F15 k) ((List.range m).map fun j : Nat => D.int ((n + j : Nat) : Int)) (E15 cs hd l g x) o = .nx (E15 cs hd l' g' x') o
      | none => forM (F15 k) ((List.range m).map fun j : Nat => D.int ((n + j : Nat) : Int)) (E15 cs hd l g x) o = .rt .non o
  | 0, n, l, g, x, hm, e => by
    rw [Nat.add_zero] at hm
    rw [← hm, e]
    exact ⟨x, rfl⟩
  | m + 1, n, l, g, x, hm, e => by
    have r : (List.range (m + 1)).map (fun j : Nat => D.int ((n + j : Nat) : Int)) = D.int (n : Int) :: (List.range m).map fun j : Nat => D.int ((n + 1 + j : Nat) : Int) := by
      rw [List.range_succ_eq_map, List.map_cons, List.map_map]
      congr 1
      refine List.map_congr_left fun j _ => ?_
      simp only [Function.comp, D.int.injEq]
      omega
    have b := t15 k h hn o (by omega) x e
    rw [r]
    simp only [BV.forM, b]
    cases e1 : mis cs hd (n + 1) with
    | none =>
      have := mis_none cs hd e1 m
      rw [show n + 1 + m = hd.length by omega] at this
      rw [this]
      rfl
    | some p =>
      obtain ⟨l1, g1⟩ := p
      have := l15 k h hn o m (n + 1) l1 g1 (.val (.int n)) (by omega) e1
      simp only [Out.turn]
      exact this
/-- misses_for -/
theorem s15 (k : Nat) {cs : List Int} (h : 0 < cs.length) (hd : List Int) (hn : hd.length ≤ 1000) (o : Or) : C (k + 1) 15 [TI cs, TI hd] o = .ok (misD cs hd) o := by
  have L := l15 k h hn o hd.length 0 [] 0 .un (Nat.zero_add _) rfl
  simp only [Nat.zero_add] at L
  have hr : evE (callN tab k) (.bi .range [.bi .len [.var 1]]) (E15 cs hd [] 0 .un) o = .ok (.lst (RI hd.length)) o := ev_rangeN (ev_bi1 (ev_var rfl) (bi_len_TI _)) (by rw [cap_v]; omega)
  unfold misD
  cases hf : mis cs hd hd.length with
  | some p =>
    obtain ⟨l', g'⟩ := p
    rw [hf] at L
    obtain ⟨x', L⟩ := L
    exact call_rt rfl (stp (ρ1 := E15 cs hd [] 0 .un) (st_par (evs_cons ev_cst (evs_cons (ev_lst evs_nil) evs_nil)) rfl) (stp (st_forI hr L) (stR (st_ret (ev_bi1 (ev_pkO rfl) (bi_tuple_lst _))))))
  | none =>
    rw [hf] at L
    exact call_rt rfl (stp (ρ1 := E15 cs hd [] 0 .un) (st_par (evs_cons ev_cst (evs_cons (ev_lst evs_nil) evs_nil)) rfl) (stR (st_forI hr L)))
/-- int, bool or None -/
def sm : D → Bool
  | .int _ => true
  | .bool _ => true
  | .non => true
  | _ => false
def okc : D → Bool
  | .int i => decide (1 ≤ i)
  | _ => false
def isn : D → Bool
  | .int _ => true
  | _ => false
/-- is_number -/
theorem s1 (k : Nat) {x : D} (hx : sm x = true) (o : Or) : C (k + 2) 1 [x, .int 1] o = .ok (.bool (okc x)) o := by
  have h0 : C (k + 1) 0 [x] o = .ok (.bool (isn x)) o := by
    refine call_rt rfl (stR (st_ret ?_))
    cases x <;> first | (cases hx; done) | skip
    · exact ev_andF (ev_bi1 (ev_var rfl) (bi_isT rfl))
    · exact ev_andT (ev_bi1 (ev_var rfl) (bi_isT rfl)) (ev_not (q := true) (ev_bi1 (ev_var rfl) (bi_isT rfl)))
    · exact ev_andT (ev_bi1 (ev_var rfl) (bi_isT rfl)) (ev_not (q := false) (ev_bi1 (ev_var rfl) (bi_isT rfl)))
  refine call_rt rfl (stR (st_ret ?_))
  cases x <;> first | (cases hx; done) | skip
  · exact ev_andF (ev_call1 (ev_var rfl) h0)
  · exact ev_andF (ev_call1 (ev_var rfl) h0)
  · exact ev_andT (ev_call1 (ev_var rfl) h0) (ev_op2 (ev_var rfl) (ev_var rfl) (op2_ge_int _ _))
theorem sm_ok {xs : List D} (h : xs.all sm = true) (n : Nat) : xs.all (okN n) = true := by
  rw [List.all_eq_true] at h ⊢
  intro x hx
  have := h x hx
  cases x <;> first | (cases this; done) | simp [okN]
/-- are_counts of a tuple -/
theorem s2 (k : Nat) {xs : List D} (hx : xs.all sm = true) (o : Or) : C (k + 3) 2 [.tup xs] o = .ok (.bool (!xs.isEmpty && xs.all okc)) o := by
  refine call_rt rfl (stR (st_ret (ev_andT (ev_bi1 (ev_var rfl) (bi_isT rfl)) (ev_and2 (ev_op2 (ev_var rfl) (ev_tup evs_nil) (op2_ne (eqO_nilT (sm_ok hx _)))) fun _ => ?_))))
  refine ev_bi1 (x := .lst ((xs.map okc).map .bool)) (o1 := o) ?_ (by rw [bi_all, List.all_map]; rfl)
  rw [List.map_map]
  refine ev_compX (f := fun x => .bool (okc x)) (xs := xs) (o1 := o) (by rw [ev_var (d := .tup xs) rfl]; rfl) fun x hm => ?_
  exact ev_call2 (ev_var rfl) ev_cst (s1 k (List.all_eq_true.mp hx x hm) o)
/-- are_counts of what is no tuple -/
theorem s2n (k : Nat) {x : D} (hx : isTy .tup x = some false) (o : Or) : C (k + 1) 2 [x] o = .ok (.bool false) o :=
  call_rt rfl (stR (st_ret (ev_andF (ev_bi1 (ev_var rfl) (bi_isT hx)))))
end Lk61

end
/-! text: k61_M5.lean -/
section
set_option autoImplicit false
set_option maxRecDepth 100000
namespace Lk61
open BV
def bT : List IS := match i22 with
  | [.for_ _ _ b, _] => b
  | _ => []
theorem nxN {T : Nat → Fn} {i : Nat} (h : T i = ⟨2, 2, [.ret (.draw (.var 0) (.var 1))]⟩) (k : Nat) (m : Nat) (o : Or) (hm : 0 < m) : ∃ (v : Nat) (o' : Or), v < m ∧ callN T (k + 1) i [.tok, .int m] o = .ok (.int v) o' := by
  obtain ⟨v, o', h0, h1, e⟩ := nx_of h k m o (by omega)
  obtain ⟨v, rfl⟩ := Int.eq_ofNat_of_zero_le h0
  exact ⟨v, o', by omega, e⟩
theorem nx (m : Nat) (o : Or) (hm : 0 < m) : ∃ (v : Nat) (o' : Or), v < m ∧ C 60 17 [.tok, .int m] o = .ok (.int v) o' := nxN rfl 59 m o hm
theorem s18 (rows : List D) (hr : 0 < rows.length) (o : Or) : ∃ (j : Nat) (hj : j < rows.length) (o' : Or), C 60 18 [.tok, .lst rows] o = .ok rows[j] o' := by
  obtain ⟨v, o', hv, e⟩ := nxN (T := tab) (i := 17) rfl 58 rows.length o hr
  exact ⟨v, hv, o', call_rt rfl (stR (st_ret (ev_op2 (ev_var rfl) (ev_call2 (ev_var rfl) (ev_bi1 (ev_var rfl) (bi_len_lst _)) e) (by rw [op2_ix_lst, atI_nat' _ _ hv]))))⟩
structure Base (ρ : Env) (cs ds : List Int) (a h : Nat) : Prop where
  w : getS ρ 1 = .val .tok
  e4 : getS ρ 4 = .val (TI cs)
  e5 : getS ρ 5 = .val (.int a)
  e6 : getS ρ 6 = .val (.int h)
  e8 : getS ρ 8 = .val (TI ds)
  c0 : 0 < cs.length
  c1 : cs.length ≤ 6
  d0 : 0 < ds.length
  d1 : ds.length ≤ 12
  ha : a < cs.length
  cp : ∀ n ∈ cs, (1 : Int) ≤ n
  cq : ∀ n ∈ cs, n ≤ (4 : Int)
/-- a tuple of drawn numbers -/
theorem drawn {ρ : Env} {o : Or} {s : IE} {n m i : Nat} (hw : getS ρ 1 = .val .tok) (hi : i ≠ 1) (hm : 0 < m) (hs : evE (C 60) s ρ o = .ok (.lst (RI n)) o) : ∃ (ns : List Int) (o' : Or), evE (C 60) (.bi .tuple [(.comp (.slot i) s (.cst (.bool true)) (.op2 .add (.cst (.int 1)) (.call 17 [(.var 1), (.cst (.int m))])))]) ρ o = .ok (TI ns) o' ∧ ns.length = n ∧ ∀ x ∈ ns, (1 : Int) ≤ x ∧ x ≤ m := by
  obtain ⟨ns, o', e, hl, hp⟩ := ev_compN (C := C 60) (i := i) (P := fun x => (1 : Int) ≤ x ∧ x ≤ m) (e := .op2 .add (.cst (.int 1)) (.call 17 [(.var 1), (.cst (.int m))])) hs fun k hk o => by
    obtain ⟨v, o', hv, e⟩ := nx m o hm
    exact ⟨_, o', ev_op2 ev_cst (ev_call2 (ev_var (by rw [getS_set_ne _ _ _ _ hi]; exact hw)) ev_cst e) (op2_add_int _ _), by omega, by omega⟩
  exact ⟨ns, o', ev_bi1 e (bi_tuple_lst _), hl, hp⟩
theorem mem_rep {α : Type} {x : α} {xs : List α} {k : Nat} (h : x ∈ rep xs k) : x ∈ xs := by
  simp only [rep, List.mem_flatten, List.mem_replicate] at h
  obtain ⟨l, ⟨_, rfl⟩, h⟩ := h
  exact h
theorem segA (ρ : Env) (o : Or) (hl : ρ.length = 29) (hw : getS ρ 1 = .val .tok) : Gd 29 (evSs (C 60) (bT.take 5) ρ o) fun ρ _ => ∃ cs ds a h, Base ρ cs ds a h ∧ ∃ t : Nat, t < 9 ∧ getS ρ 9 = .val (.int t) := by
  obtain ⟨a0, a1, a2, a3, a4, a5, a6, a7, a8, a9, a10, a11, a12, a13, a14, a15, a16, a17, a18, a19, a20, a21, a22, a23, a24, a25, a26, a27, a28, rfl⟩ := list29 hl
  obtain rfl : a1 = .val .tok := hw
  -- counts
  obtain ⟨v, o1, hv, e⟩ := nx 6 o (by decide)
  have hs : evE (C 60) (.bi .range [(.op2 .add (.cst (.int 1)) (.call 17 [(.var 1), (.cst (.int 6))]))]) [a0, .val .tok, a2, a3, a4, a5, a6, a7, a8, a9, a10, a11, a12, a13, a14, a15, a16, a17, a18, a19, a20, a21, a22, a23, a24, a25, a26, a27, a28] o = .ok (.lst (RI (1 + v))) o1 :=
    ev_rangeN (ev_op2 ev_cst (ev_call2 (ev_var rfl) ev_cst e) (by rw [op2_add_int, Int.natCast_add]; rfl)) (by rw [cap_v]; omega)
  obtain ⟨ns, o2, e2, hl2, hp2⟩ := ev_compN (C := C 60) (i := 3) (P := fun x => (1 : Int) ≤ x ∧ x ≤ 4) (e := .op2 .add (.cst (.int 1)) (.call 17 [(.var 1), (.cst (.int 4))])) hs fun k hk o => by
    obtain ⟨v, o', hv, e⟩ := nx 4 o (by decide)
    exact ⟨_, o', ev_op2 ev_cst (ev_call2 (ev_var rfl) ev_cst e) (op2_add_int _ _), by omega, by omega⟩
  refine stpG (st_set (ev_bi1 e2 (bi_tuple_lst _))) ?_
  simp only [setS]
  -- doubled
  have H2 : ∃ cs o3, evS (C 60) (.ifs (.op2 .eq (.call 17 [(.var 1), (.cst (.int 3))]) (.cst (.int 0))) [.set (.slot 4) (.op2 .mul (.slice (.var 4) (.cst .non) (.op1 .chkI (.cst (.int 2)))) (.op2 .add (.cst (.int 1)) (.call 17 [(.var 1), (.cst (.int 3))])))] []) [a0, .val .tok, a2, a3, .val (TI ns), a5, a6, a7, a8, a9, a10, a11, a12, a13, a14, a15, a16, a17, a18, a19, a20, a21, a22, a23, a24, a25, a26, a27, a28] o2 = .nx [a0, .val .tok, a2, a3, .val (TI cs), a5, a6, a7, a8, a9, a10, a11, a12, a13, a14, a15, a16, a17, a18, a19, a20, a21, a22, a23, a24, a25, a26, a27, a28] o3 ∧ 0 < cs.length ∧ cs.length ≤ 6 ∧ (∀ n ∈ cs, (1 : Int) ≤ n) ∧ ∀ n ∈ cs, n ≤ (4 : Int) := by
    obtain ⟨v2, o3, hv2, e3⟩ := nx 3 o2 (by decide)
    have ec := ev_op2 (C := C 60) (ρ := [a0, .val .tok, a2, a3, .val (TI ns), a5, a6, a7, a8, a9, a10, a11, a12, a13, a14, a15, a16, a17, a18, a19, a20, a21, a22, a23, a24, a25, a26, a27, a28]) (o := o2) (a := .call 17 [(.var 1), (.cst (.int 3))]) (b := .cst (.int 0)) (ev_call2 (ev_var rfl) ev_cst e3) ev_cst (op2_eq_int _ _)
    by_cases hz : (v2 : Int) = 0
    · rw [decide_eq_true hz] at ec
      obtain ⟨v3, o4, hv3, e4⟩ := nx 3 o3 (by decide)
      have em : op2 .mul (.tup (cut (ns.map D.int) none (some 2))) (.int (1 + (v3 : Int))) = some (TI (rep (ns.take 2) (1 + v3))) := by
        rw [show (2 : Int) = ((2 : Nat) : Int) from rfl, cut_hiA, ← List.map_take, op2_mul_tup]
        · rw [TI, rep_map]
          congr 3
        · simp only [repOk, List.length_map, List.length_take, Bool.and_eq_true, decide_eq_true_eq]
          refine ⟨⟨⟨by omega, by omega⟩, by omega⟩, by omega⟩
      refine ⟨_, o4, ifT ec (stp (st_set (ev_op2 (ev_slice (ev_var rfl) ev_cst (ev_op1 ev_cst (op1_chkI _)) rfl rfl) (ev_op2 ev_cst (ev_call2 (ev_var rfl) ev_cst e4) (op2_add_int _ _)) em)) (evSs_nil' _ _ _)), ?_, ?_, ?_, ?_⟩
      · rw [rep_len, List.length_take]
        exact Nat.mul_pos (by omega) (by omega)
      · rw [rep_len, List.length_take]
        have : (1 + v3) * min 2 ns.length ≤ 3 * 2 := Nat.mul_le_mul (by omega) (by omega)
        omega
      · exact fun n hn => (hp2 n (List.mem_of_mem_take (mem_rep hn))).1
      · exact fun n hn => (hp2 n (List.mem_of_mem_take (mem_rep hn))).2
    · rw [decide_eq_false hz] at ec
      exact ⟨ns, o3, ifF ec (evSs_nil' _ _ _), by omega, by omega, fun n hn => (hp2 n hn).1, fun n hn => (hp2 n hn).2⟩
  obtain ⟨cs, o3, e3, c0, c1, cp, cq⟩ := H2
  refine stpG e3 ?_
  obtain ⟨a, o4, ha, e4⟩ := nx cs.length o3 c0
  obtain ⟨h, o5, hh, e5⟩ := nx 12 o4 (by decide)
  obtain ⟨t, o6, ht, e6⟩ := nx cs.length o5 c0
  refine stpG (st_par (evs_cons (ev_call2 (ev_var rfl) (ev_bi1 (ev_var rfl) (bi_len_TI _)) e4) (evs_cons (ev_call2 (ev_var rfl) ev_cst e5) (evs_cons (ev_call2 (ev_var rfl) (ev_bi1 (ev_var rfl) (bi_len_TI _)) e6) evs_nil))) rfl) ?_
  simp only [setS]
  -- the round that is due
  obtain ⟨x4, o7, hx4, e7⟩ := nx 4 o6 (by decide)
  obtain ⟨v5, o8, hv5, e8⟩ := nx 5 o7 (by decide)
  have hs5 : evE (C 60) (.bi .range [(.op2 .add (.cst (.int 1)) (.call 17 [(.var 1), (.cst (.int 5))]))]) [a0, .val .tok, a2, a3, .val (TI cs), .val (.int a), .val (.int h), .val (.int t), a8, a9, a10, a11, a12, a13, a14, a15, a16, a17, a18, a19, a20, a21, a22, a23, a24, a25, a26, a27, a28] o7 = .ok (.lst (RI (1 + v5))) o8 :=
    ev_rangeN (ev_op2 ev_cst (ev_call2 (ev_var rfl) ev_cst e8) (by rw [op2_add_int, Int.natCast_add]; rfl)) (by rw [cap_v]; omega)
  obtain ⟨ms, o9, e9, hl9, hp9⟩ := ev_compN (C := C 60) (i := 3) (P := fun x => (1 : Int) ≤ x ∧ x ≤ 3) (e := .op2 .add (.cst (.int 1)) (.call 17 [(.var 1), (.cst (.int 3))])) hs5 fun k hk o => by
    obtain ⟨v, o', hv, e⟩ := nx 3 o (by decide)
    exact ⟨_, o', ev_op2 ev_cst (ev_call2 (ev_var rfl) ev_cst e) (op2_add_int _ _), by omega, by omega⟩
  have r2 : op2 .add (.tup (cut (cs.map D.int) (some (t : Int)) none)) (.tup (cut (cs.map D.int) none (some (t : Int)))) = some (TI (cs.drop t ++ cs.take t)) := by
    rw [cut_hiA, cut_lo _ _ (by simp; omega), op2_add_tup (by simp; rw [cap_v]; omega), ← List.map_drop, ← List.map_take, ← List.map_append]; rfl
  have r3 : op2 .mul (.tup (cs.map D.int)) (.int 2) = some (TI (rep cs 2)) := by
    rw [op2_mul_tup (by simp only [repOk, List.length_map, Bool.and_eq_true, decide_eq_true_eq]; refine ⟨⟨⟨by omega, by omega⟩, by omega⟩, by omega⟩), TI, rep_map]; rfl
  have r4 : op2 .add (.tup (cut (cs.map D.int) none (some (-1)))) (.tup [.int (1 + (x4 : Int))]) = some (TI (cs.take (cs.length - 1) ++ [1 + (x4 : Int)])) := by
    rw [cut_m1 _ (by simpa using c0), op2_add_tup (by simp; rw [cap_v]; omega), ← List.map_take, List.length_map]
    simp [TI]
  obtain ⟨j, hj, o10, e10⟩ := s18 [TI cs, TI (cs.drop t ++ cs.take t), TI (rep cs 2), TI (cs.take (cs.length - 1) ++ [1 + (x4 : Int)]), TI ms] (by simp) o9
  have hd : ∃ ds : List Int, [TI cs, TI (cs.drop t ++ cs.take t), TI (rep cs 2), TI (cs.take (cs.length - 1) ++ [1 + (x4 : Int)]), TI ms][j] = TI ds ∧ 0 < ds.length ∧ ds.length ≤ 12 := by
    have : j < 5 := hj
    match j, this with
    | 0, _ => exact ⟨cs, rfl, by omega, by omega⟩
    | 1, _ => exact ⟨_, rfl, by simp; omega, by simp; omega⟩
    | 2, _ => exact ⟨_, rfl, by rw [rep_len]; omega, by rw [rep_len]; omega⟩
    | 3, _ => exact ⟨_, rfl, by simp, by simp; omega⟩
    | 4, _ => exact ⟨ms, rfl, by omega, by omega⟩
  obtain ⟨ds, hde, d0, d1⟩ := hd
  rw [hde] at e10
  refine stpG (st_set (ev_call2 (ev_var rfl) (ev_lst (evs_cons (ev_var rfl) (evs_cons (ev_op2 (ev_slice (ev_var rfl) (ev_op1 (ev_var rfl) (op1_chkI _)) ev_cst rfl rfl) (ev_slice (ev_var rfl) ev_cst (ev_op1 (ev_var rfl) (op1_chkI _)) rfl rfl) r2) (evs_cons (ev_op2 (ev_var rfl) ev_cst r3) (evs_cons (ev_op2 (ev_slice (ev_var rfl) ev_cst (ev_op1 (ev_op1 ev_cst (op1_neg_int _)) (op1_chkI _)) rfl rfl) (ev_tup (evs_cons (ev_op2 ev_cst (ev_call2 (ev_var rfl) ev_cst e7) (op2_add_int _ _)) evs_nil)) r4) (evs_cons (ev_bi1 e9 (bi_tuple_lst _)) evs_nil)))))) e10)) ?_
  simp only [setS]
  obtain ⟨v9, o11, hv9, e11⟩ := nx 9 o10 (by decide)
  refine stpG (st_set (ev_call2 (ev_var rfl) ev_cst e11)) ?_
  refine ⟨_, _, evSs_nil' _ _ _, rfl, cs, ds, a, h, ⟨rfl, rfl, rfl, rfl, rfl, c0, c1, d0, d1, ha, cp, cq⟩, v9, hv9, rfl⟩
end Lk61

end
/-! text: k61_M6.lean -/
section
set_option autoImplicit false
set_option maxRecDepth 100000
namespace Lk61
open BV
theorem alk {ρ : Env} {o o1 o2 : Or} {a b : IE} {x y : D} (ha : evE (C 60) a ρ o = .ok x o1) (hb : evE (C 60) b ρ o1 = .ok y o2) (e : x = y) (hp : plD 3 x = true) : evE (C 60) (.op1 .not (.call 19 [a, b])) ρ o = .ok (.bool false) o2 :=
  ev_alike (T := tab) (i := 19) (k := 56) (n := 3) rfl ha hb e hp
/-- a tuple of numbers in turn -/
theorem turned {ρ : Env} {o o1 : Or} {s : IE} {t i p q : Nat} {cs : List Int} {a : Nat} (h : 0 < cs.length) (hi : i < ρ.length) (hp : getS ρ p = .val (TI cs)) (hq : getS ρ q = .val (.int a)) (ip : i ≠ p) (iq : i ≠ q) (hs : evE (C 60) s ρ o = .ok (.lst (RI t)) o1) :
    evE (C 60) (.comp (.slot i) s (.cst (.bool true)) (.call 20 [(.var p), (.op2 .add (.var q) (.var i))])) ρ o = .ok (.lst ((struckL cs a t).map .int)) o1 := by
  rw [← struckL_map]
  exact ev_comp hs fun k hk => ev_call2 (ev_var (by rw [getS_set_ne _ _ _ _ ip]; exact hp)) (ev_op2 (ev_var (by rw [getS_set_ne _ _ _ _ iq]; exact hq)) (ev_var (getS_set_eq _ _ _ hi)) (op2_add_int _ _)) (s20 59 h _ _)
theorem plTI {ns : List Int} (h : ns.length ≤ 1000) (n : Nat) : plD (n + 1) (TI ns) = true := plD_TI n ns (by rw [cap_v]; omega)
theorem pl_pair {x y : D} {n : Nat} (hx : plD n x = true) (hy : plD n y = true) : plD (n + 1) (.tup [x, y]) = true := by
  simp [plD, hx, hy, cap]
def ableL (cs ds : List Int) (a h : Int) : List Int := ni ((List.range cs.length).filter fun k : Nat => steps cs ds (a + k) h)
theorem head_able (cs ds : List Int) (a h : Int) : (ableL cs ds a h).head? = (fnd cs ds a h).map fun k : Nat => (k : Int) := by
  rw [ableL, ni, List.head?_map, List.head?_filter]; rfl
theorem ix0 (x : Int) (L : List Int) : op2 .ix (.lst ((x :: L).map .int)) (.int 0) = some (.int x) := by
  rw [op2_ix_lst]; exact atI_nat' _ 0 (by simp)
theorem segB (ρ : Env) (o : Or) (hl : ρ.length = 29) {cs ds : List Int} {a h t : Nat} (B : Base ρ cs ds a h) (ht : t < 9) (h9 : getS ρ 9 = .val (.int t)) : Gd 29 (evSs (C 60) ((bT.drop 5).take 4) ρ o) fun ρ _ => Base ρ cs ds a h := by
  obtain ⟨a0, a1, a2, a3, a4, a5, a6, a7, a8, a9, a10, a11, a12, a13, a14, a15, a16, a17, a18, a19, a20, a21, a22, a23, a24, a25, a26, a27, a28, rfl⟩ := list29 hl
  obtain ⟨hw, e4, e5, e6, e8, c0, c1, d0, d1, ha, cp, cq⟩ := B
  obtain rfl : a1 = .val .tok := hw
  obtain rfl : a4 = .val (TI cs) := e4
  obtain rfl : a5 = .val (.int a) := e5
  obtain rfl : a6 = .val (.int h) := e6
  obtain rfl : a8 = .val (TI ds) := e8
  obtain rfl : a9 = .val (.int t) := h9
  -- struck, teeth_of
  refine stpG (ifF (ev_orF (alk (ev_call3 (ev_var rfl) (ev_var rfl) (ev_var rfl) (s3 59 c0 a t (by rw [cap_v]; omega) o)) (ev_bi1 (turned c0 (by show 3 < 29; decide) rfl rfl (by decide) (by decide) (ev_rangeN (ev_var rfl) (by rw [cap_v]; omega))) (bi_tuple_lst _)) rfl (plTI (by rw [struckL_len]; omega) 2)) (alk (ev_call1 (ev_var rfl) (s4 59 (by omega) o)) (ev_tup (evs_cons (ev_bi1 (ev_var rfl) (bi_sum_tup _)) (evs_cons (ev_bi1 (x := .lst ((prefs cs).map .int)) (o1 := o) ?_ (bi_tuple_lst _)) evs_nil))) rfl (pl_pair (plD_int _ _) (plTI (by rw [prefs_len]; omega) 1)))) (evSs_nil' _ _ _)) ?_
  · rw [prefs, List.map_map]
    refine ev_comp (ev_rangeN (ev_bi1 (ev_var rfl) (bi_len_TI _)) (by rw [cap_v]; omega)) fun j hj => ?_
    have e := ev_slice (C := C 60) (ρ := setS [a0, .val .tok, a2, a3, .val (TI cs), .val (.int a), .val (.int h), a7, .val (TI ds), .val (.int t), a10, a11, a12, a13, a14, a15, a16, a17, a18, a19, a20, a21, a22, a23, a24, a25, a26, a27, a28] 3 (.val (.int j))) (o := o) (a := .var 4) (e2 := .cst .non) (e3 := .op1 .chkI (.var 3)) (xs := cs.map .int) (ev_var rfl) ev_cst (ev_op1 (ev_var rfl) (op1_chkI _)) rfl rfl
    rw [cut_hiA, ← List.map_take] at e
    exact ev_bi1 e (bi_sum_tup _)
  -- able
  refine stpG (st_set (ev_compF (n := cs.length) (o1 := o) (p := fun k : Nat => steps cs ds (a + k) h) (g := fun k : Nat => .int k) (ev_rangeN (ev_bi1 (ev_var rfl) (bi_len_TI _)) (by rw [cap_v]; omega)) (fun j hj => ev_call4 (ev_var rfl) (ev_var rfl) (ev_op2 (ev_var rfl) (ev_var rfl) (op2_add_int _ _)) (ev_var rfl) (s21 c0 d0 (by omega) (by omega) 58 _ _ _)) fun j _ _ => ev_var rfl)) ?_
  rw [ni_map]
  simp only [setS]
  have hA : ni ((List.range cs.length).filter fun k : Nat => steps cs ds (a + k) h) = ableL cs ds a h := rfl
  rw [hA]
  -- in_step, trips_to
  have ev1 : evE (C 60) (.ite (.op2 .ne (.var 10) (.lst [])) (.op2 .ix (.var 10) (.cst (.int 0))) (.cst .non)) [a0, .val .tok, a2, a3, .val (TI cs), .val (.int a), .val (.int h), a7, .val (TI ds), .val (.int t), .val (.lst ((ableL cs ds a h).map .int)), a11, a12, a13, a14, a15, a16, a17, a18, a19, a20, a21, a22, a23, a24, a25, a26, a27, a28] o = .ok (optD (fnd cs ds a h)) o := by
    have hh := head_able cs ds a h
    have e1 := evI_nnil (C := C 60) (e := .var 10) (ρ := [a0, .val .tok, a2, a3, .val (TI cs), .val (.int a), .val (.int h), a7, .val (TI ds), .val (.int t), .val (.lst ((ableL cs ds a h).map .int)), a11, a12, a13, a14, a15, a16, a17, a18, a19, a20, a21, a22, a23, a24, a25, a26, a27, a28]) (o := o) (ev_var rfl) (ok_ints _ _)
    rw [isEmpty_map] at e1
    generalize ableL cs ds a h = L at hh e1
    cases L with
    | nil =>
      cases hf : fnd cs ds a h with
      | some k => rw [hf] at hh; cases hh
      | none => exact ev_iteF e1 ev_cst
    | cons x L =>
      cases hf : fnd cs ds a h with
      | none => rw [hf] at hh; cases hh
      | some k =>
        rw [hf] at hh
        obtain rfl : x = k := by simpa using hh
        exact ev_iteT e1 (ev_op2 (ev_var rfl) ev_cst (ix0 _ _))
  refine stpG (ifF (ev_orF (alk (ev_call4 (ev_var rfl) (ev_var rfl) (ev_var rfl) (ev_var rfl) (s5 c0 d0 (by omega) (by omega) 59 _ _ _)) (ev_call4 (ev_var rfl) (ev_var rfl) (ev_var rfl) (ev_var rfl) (s21 c0 d0 (by omega) (by omega) 58 _ _ _)) rfl rfl) (alk (ev_call4 (ev_var rfl) (ev_var rfl) (ev_var rfl) (ev_var rfl) (s6 c0 d0 (by omega) (by omega) 58 _ _ _)) ev1 rfl (by cases fnd cs ds a h <;> rfl))) (evSs_nil' _ _ _)) ?_
  -- strokes_to
  have ev2 : evE (C 60) (.ite (.op2 .ne (.var 10) (.lst [])) (.bi .sum [(.comp (.slot 3) (.bi .range [(.op2 .ix (.var 10) (.cst (.int 0)))]) (.cst (.bool true)) (.call 20 [(.var 4), (.op2 .add (.var 5) (.var 3))]))]) (.cst .non)) [a0, .val .tok, a2, a3, .val (TI cs), .val (.int a), .val (.int h), a7, .val (TI ds), .val (.int t), .val (.lst ((ableL cs ds a h).map .int)), a11, a12, a13, a14, a15, a16, a17, a18, a19, a20, a21, a22, a23, a24, a25, a26, a27, a28] o = .ok (strk cs ds a h) o := by
    have hh := head_able cs ds a h
    have e1 := evI_nnil (C := C 60) (e := .var 10) (ρ := [a0, .val .tok, a2, a3, .val (TI cs), .val (.int a), .val (.int h), a7, .val (TI ds), .val (.int t), .val (.lst ((ableL cs ds a h).map .int)), a11, a12, a13, a14, a15, a16, a17, a18, a19, a20, a21, a22, a23, a24, a25, a26, a27, a28]) (o := o) (ev_var rfl) (ok_ints _ _)
    rw [isEmpty_map] at e1
    generalize ableL cs ds a h = L at hh e1
    unfold strk
    cases L with
    | nil =>
      cases hf : fnd cs ds a h with
      | some k => rw [hf] at hh; cases hh
      | none => exact ev_iteF e1 ev_cst
    | cons x L =>
      cases hf : fnd cs ds a h with
      | none => rw [hf] at hh; cases hh
      | some k =>
        rw [hf] at hh
        obtain rfl : x = k := by simpa using hh
        have := fnd_lt c0 d0 (by omega) (by omega) hf
        exact ev_iteT e1 (ev_bi1 (turned c0 (by show 3 < 29; decide) rfl rfl (by decide) (by decide) (ev_rangeN (n := k) (ev_op2 (ev_var rfl) ev_cst (ix0 _ _)) (by rw [cap_v]; omega))) (bi_sum_lst _))
  refine stpG (ifF (alk (ev_call4 (ev_var rfl) (ev_var rfl) (ev_var rfl) (ev_var rfl) (s7 c0 d0 (by omega) (by omega) 57 _ _ _)) ev2 rfl (by unfold strk; cases fnd cs ds a h <;> rfl)) (evSs_nil' _ _ _)) ?_
  exact ⟨_, _, evSs_nil' _ _ _, rfl, rfl, rfl, rfl, rfl, rfl, c0, c1, d0, d1, ha, cp, cq⟩
end Lk61

end
/-! text: k61_M7.lean -/
section
set_option autoImplicit false
set_option maxRecDepth 100000
namespace Lk61
open BV
theorem segC (ρ : Env) (o : Or) (hl : ρ.length = 29) {cs ds : List Int} {a h : Nat} (B : Base ρ cs ds a h) : Gd 29 (evSs (C 60) ((bT.drop 9).take 3) ρ o) fun ρ _ => Base ρ cs ds a h := by
  obtain ⟨a0, a1, a2, a3, a4, a5, a6, a7, a8, a9, a10, a11, a12, a13, a14, a15, a16, a17, a18, a19, a20, a21, a22, a23, a24, a25, a26, a27, a28, rfl⟩ := list29 hl
  obtain ⟨hw, e4, e5, e6, e8, c0, c1, d0, d1, ha, cp, cq⟩ := B
  obtain rfl : a1 = .val .tok := hw
  obtain rfl : a4 = .val (TI cs) := e4
  obtain rfl : a5 = .val (.int a) := e5
  obtain rfl : a6 = .val (.int h) := e6
  obtain rfl : a8 = .val (TI ds) := e8
  obtain ⟨m, o1, hm, e1⟩ := nx 5 o (by decide)
  refine stpG (st_set (ev_bi1 (turned c0 (by show 3 < 29; decide) rfl rfl (by decide) (by decide) (ev_rangeN (ev_call2 (ev_var rfl) ev_cst e1) (by rw [cap_v]; omega))) (bi_tuple_lst _))) ?_
  simp only [setS]
  have H : ∃ (hd : List Int) (o2 : Or), evS (C 60) (.set (.slot 11) (.ite (.op2 .gt (.call 17 [(.var 1), (.cst (.int 4))]) (.cst (.int 0))) (.var 11) (.op2 .add (.var 11) (.tup [(.cst (.int 1))])))) [a0, .val .tok, a2, a3, .val (TI cs), .val (.int a), .val (.int h), a7, .val (TI ds), a9, a10, .val (.tup ((struckL cs a m).map .int)), a12, a13, a14, a15, a16, a17, a18, a19, a20, a21, a22, a23, a24, a25, a26, a27, a28] o1 = .nx [a0, .val .tok, a2, a3, .val (TI cs), .val (.int a), .val (.int h), a7, .val (TI ds), a9, a10, .val (TI hd), a12, a13, a14, a15, a16, a17, a18, a19, a20, a21, a22, a23, a24, a25, a26, a27, a28] o2 ∧ hd.length ≤ 5 := by
    obtain ⟨v, o2, hv, e2⟩ := nx 4 o1 (by decide)
    have ec := ev_op2 (C := C 60) (ρ := [a0, .val .tok, a2, a3, .val (TI cs), .val (.int a), .val (.int h), a7, .val (TI ds), a9, a10, .val (.tup ((struckL cs a m).map .int)), a12, a13, a14, a15, a16, a17, a18, a19, a20, a21, a22, a23, a24, a25, a26, a27, a28]) (o := o1) (a := .call 17 [(.var 1), (.cst (.int 4))]) (b := .cst (.int 0)) (ev_call2 (ev_var rfl) ev_cst e2) ev_cst (op2_gt_int _ _)
    by_cases hz : (0 : Int) < v
    · rw [decide_eq_true hz] at ec
      exact ⟨struckL cs a m, o2, st_set (ev_iteT ec (ev_var rfl)), by rw [struckL_len]; omega⟩
    · rw [decide_eq_false hz] at ec
      refine ⟨struckL cs a m ++ [1], o2, st_set (ev_iteF ec (ev_op2 (ev_var rfl) (ev_tup (evs_cons ev_cst evs_nil)) ?_)), by simp [struckL_len]; omega⟩
      rw [op2_add_tup (by simp [struckL_len]; rw [cap_v]; omega)]
      simp [TI]
  obtain ⟨hd, o2, e2, hh⟩ := H
  refine stpG e2 ?_
  refine stpG (ifF (alk (ev_call2 (ev_var rfl) (ev_var rfl) (s8 58 c0 (by omega) hd (by omega) o2)) (ev_bi1 (x := .lst ((ni (heardAt cs hd)).map .int)) (o1 := o2) ?_ (bi_tuple_lst _)) rfl (plTI (by rw [ni_len]; exact Nat.le_trans (List.length_filter_le _ _) (by simp; omega)) 2)) (evSs_nil' _ _ _)) ?_
  · rw [← ni_map, ← heard_eq]
    refine ev_compF (n := cs.length) (p := fun k : Nat => ((List.range hd.length).filter fun j : Nat => !decide (at_ cs (k + j) = hd.getD j 0)).isEmpty) (ev_rangeN (ev_bi1 (ev_var rfl) (bi_len_TI _)) (by rw [cap_v]; omega)) (fun k hk => ?_) fun k _ _ => ev_var rfl
    have := evI_nil (C := C 60) (ρ := setS [a0, .val .tok, a2, a3, .val (TI cs), .val (.int a), .val (.int h), a7, .val (TI ds), a9, a10, .val (TI hd), a12, a13, a14, a15, a16, a17, a18, a19, a20, a21, a22, a23, a24, a25, a26, a27, a28] 3 (.val (.int k))) (o := o2)
      (ev_compF (i := 28) (s := .bi .range [.bi .len [.var 11]]) (c := .op2 .ne (.call 20 [(.var 4), (.op2 .add (.var 3) (.var 28))]) (.op2 .ix (.var 11) (.var 28))) (e := .var 28) (n := hd.length) (o1 := o2) (p := fun j : Nat => !decide (at_ cs (k + j) = hd.getD j 0)) (g := fun j : Nat => .int j) (ev_rangeN (ev_bi1 (ev_var rfl) (bi_len_TI _)) (by rw [cap_v]; omega)) (fun j hj => ev_op2 (ev_call2 (ev_var rfl) (ev_op2 (ev_var rfl) (ev_var rfl) (op2_add_int _ _)) (s20 59 c0 _ _)) (ev_op2 (ev_var rfl) (ev_var rfl) (ix_nat hj)) (op2_ne_int _ _)) fun j _ _ => ev_var rfl) (ok_nats _ _)
    rw [isEmpty_map] at this
    exact this
  exact ⟨_, _, evSs_nil' _ _ _, rfl, rfl, rfl, rfl, rfl, rfl, c0, c1, d0, d1, ha, cp, cq⟩
theorem segD (ρ : Env) (o : Or) (hl : ρ.length = 29) {cs ds : List Int} {a h : Nat} (B : Base ρ cs ds a h) : Gd 29 (evSs (C 60) ((bT.drop 12).take 5) ρ o) fun ρ _ => Base ρ cs ds a h := by
  obtain ⟨a0, a1, a2, a3, a4, a5, a6, a7, a8, a9, a10, a11, a12, a13, a14, a15, a16, a17, a18, a19, a20, a21, a22, a23, a24, a25, a26, a27, a28, rfl⟩ := list29 hl
  obtain ⟨hw, e4, e5, e6, e8, c0, c1, d0, d1, ha, cp, cq⟩ := B
  obtain rfl : a1 = .val .tok := hw
  obtain rfl : a4 = .val (TI cs) := e4
  obtain rfl : a5 = .val (.int a) := e5
  obtain rfl : a6 = .val (.int h) := e6
  obtain rfl : a8 = .val (TI ds) := e8
  -- wrong
  refine stpG (st_set (d := .lst ((List.range cs.length).map fun k : Nat => D.lst ((wrongs cs ds k).map fun j : Nat => .int j))) (o1 := o) (ev_comp (n := cs.length) (ev_rangeN (ev_bi1 (ev_var rfl) (bi_len_TI _)) (by rw [cap_v]; omega)) fun k hk => ?_)) ?_
  · exact ev_compF (n := ds.length) (p := fun j : Nat => !decide (at_ cs (k + j) = ds.getD j 0)) (g := fun j : Nat => .int j) (ev_rangeN (ev_bi1 (ev_var rfl) (bi_len_TI _)) (by rw [cap_v]; omega)) (fun j hj => ev_op2 (ev_call2 (ev_var rfl) (ev_op2 (ev_var rfl) (ev_var rfl) (op2_add_int _ _)) (s20 59 c0 _ _)) (ev_op2 (ev_var rfl) (ev_var rfl) (ix_nat hj)) (op2_ne_int _ _)) fun j _ _ => ev_var rfl
  simp only [setS]
  -- many
  refine stpG (st_set (d := LI (tolds cs ds)) (o1 := o) ?_) ?_
  · have := ev_compX (C := C 60) (ρ := [a0, .val .tok, a2, a3, .val (TI cs), .val (.int a), .val (.int h), a7, .val (TI ds), a9, a10, a11, a12, .val (.lst ((List.range cs.length).map fun k : Nat => D.lst ((wrongs cs ds k).map fun j : Nat => .int j))), a14, a15, a16, a17, a18, a19, a20, a21, a22, a23, a24, a25, a26, a27, a28]) (o := o) (s := .var 13) (i := 14) (e := .bi .len [(.pk 14)]) (f := fun x => match x with | .lst ys => .int ys.length | _ => .non) (xs := (List.range cs.length).map fun k : Nat => D.lst ((wrongs cs ds k).map fun j : Nat => .int j)) (o1 := o) (by rw [ev_var (d := .lst ((List.range cs.length).map fun k : Nat => D.lst ((wrongs cs ds k).map fun j : Nat => .int j))) rfl]; rfl) (fun x hx => by
      obtain ⟨k, _, rfl⟩ := List.mem_map.mp hx
      exact ev_bi1 (ev_pk rfl) (bi_len_lst _))
    rw [List.map_map] at this
    rw [LI, tolds, List.map_map]
    rw [this]
    congr 2
    refine List.map_congr_left fun k _ => ?_
    simp [Function.comp]
  simp only [setS]
  -- wrong_hours, best_place
  have hx : op2 .ix (.lst ((List.range cs.length).map fun k : Nat => D.lst ((wrongs cs ds k).map fun j : Nat => .int j))) (.int a) = some (.lst ((ni (wrongs cs ds a)).map .int)) := by
    rw [op2_ix_lst, atI_nat' _ _ (by simpa using ha), ← ni_map]
    simp
  refine stpG (ifF (ev_orF (alk (ev_call3 (ev_var rfl) (ev_var rfl) (ev_var rfl) (s9 59 c0 ds (by omega) _ o)) (ev_bi1 (ev_op2 (ev_var rfl) (ev_var rfl) hx) (bi_tuple_lst _)) rfl (plTI (by rw [ni_len]; exact Nat.le_trans (List.length_filter_le _ _) (by simp; omega)) 2)) (alk (ev_call2 (ev_var rfl) (ev_var rfl) (s10 58 c0 (by omega) ds (by omega) o)) (best_ev (by rw [tolds_len]; exact c0) rfl) rfl ?_)) (evSs_nil' _ _ _)) ?_
  · cases ht : tolds cs ds with
    | nil => have := tolds_len cs ds; rw [ht] at this; simp at this; omega
    | cons n ns =>
      obtain ⟨j, hj⟩ := indexO_ints (minL_mem n ns)
      unfold bestD
      rw [hj]
      rfl
  -- short
  refine stpG (st_set (d := LI (((List.range ds.length).filter fun j : Nat => isWh ds (1 + j)).map fun j : Nat => ((1 + j : Nat) : Int))) (o1 := o) ?_) ?_
  · have hr : (evE (C 60) (.bi .range [(.cst (.int 1)), (.op2 .add (.bi .len [(.var 8)]) (.cst (.int 1)))]) [a0, .val .tok, a2, a3, .val (TI cs), .val (.int a), .val (.int h), a7, .val (TI ds), a9, a10, a11, a12, .val (.lst ((List.range cs.length).map fun k : Nat => D.lst ((wrongs cs ds k).map fun j : Nat => .int j))), a14, .val (LI (tolds cs ds)), a16, a17, a18, a19, a20, a21, a22, a23, a24, a25, a26, a27, a28] o).seq = .ok ((List.range ds.length).map fun j : Nat => .int ((1 + j : Nat) : Int)) o := by
      rw [ev_bi2 ev_cst (ev_op2 (ev_bi1 (ev_var rfl) (bi_len_TI _)) ev_cst (op2_add_int _ _)) (by rw [bi_rng2, range_two _ (by omega)])]
      rfl
    rw [show LI (((List.range ds.length).filter fun j : Nat => isWh ds (1 + j)).map fun j : Nat => ((1 + j : Nat) : Int)) = .lst (((List.range ds.length).filter fun j : Nat => isWh ds (1 + j)).map fun j : Nat => .int ((1 + j : Nat) : Int)) by rw [LI, List.map_map]; rfl]
    refine ev_compG (p := fun j : Nat => isWh ds (1 + j)) hr (fun j hj => ?_) fun j _ _ => ev_var rfl
    have hj' := List.mem_range.mp hj
    rw [← isWh_eq ds (by omega) (by omega)]
    unfold isWh'
    refine ev_and2 ?_ fun _ => ev_op2 (ev_op2 (ev_bi1 (ev_bi1 (ev_var rfl) (bi_len_TI _)) (bi_int _)) (ev_var rfl) (op2_mod_int (by omega))) ev_cst (op2_eq_int _ _)
    rw [evI_nil (ev_compF (n := ds.length) (o1 := o) (p := fun k : Nat => !decide (ds.getD k 0 = ds.getD (k % (1 + j)) 0)) (g := fun k : Nat => .int k) (ev_rangeN (ev_bi1 (ev_var rfl) (bi_len_TI _)) (by rw [cap_v]; omega)) (fun k hk => ev_op2 (ev_op2 (ev_var rfl) (ev_var rfl) (ix_nat hk)) (ev_op2 (ev_var rfl) (ev_op2 (ev_bi1 (ev_var rfl) (bi_int _)) (ev_var rfl) (z := .int ((k % (1 + j) : Nat) : Int)) (by rw [op2_mod_int (by omega), Int.natCast_emod])) (ix_nat (Nat.lt_of_le_of_lt (Nat.mod_le _ _) hk))) (op2_ne_int _ _)) fun k _ _ => ev_var rfl) (ok_nats _ _), isEmpty_map, filt_all]
  simp only [setS]
  -- wheel_for, is_round
  obtain ⟨j, hj⟩ := wheel_some ds d0
  have hjl : j < ds.length := List.mem_range.mp (List.mem_of_find?_eq_some hj)
  have hw : wheel ds = ds.take (1 + j) := by unfold wheel; rw [hj]
  have hs : ∃ L, ((List.range ds.length).filter fun j : Nat => isWh ds (1 + j)).map (fun j : Nat => ((1 + j : Nat) : Int)) = ((1 + j : Nat) : Int) :: L := by
    have e : ((List.range ds.length).filter fun j : Nat => isWh ds (1 + j)).head? = some j := by rw [List.head?_filter, hj]
    cases hf : (List.range ds.length).filter fun j : Nat => isWh ds (1 + j) with
    | nil => rw [hf] at e; cases e
    | cons x xs => rw [hf] at e; cases e; exact ⟨_, rfl⟩
  obtain ⟨L, hL⟩ := hs
  rw [hL]
  have ew : ∀ ρ : Env, getS ρ 8 = .val (TI ds) → getS ρ 16 = .val (LI (((1 + j : Nat) : Int) :: L)) → evE (C 60) (.slice (.var 8) (.cst .non) (.op1 .chkI (.op2 .ix (.var 16) (.cst (.int 0))))) ρ o = .ok (TI (wheel ds)) o := fun ρ h8 h16 => by
    have e := ev_slice (C := C 60) (ρ := ρ) (o := o) (a := .var 8) (e2 := .cst .non) (e3 := .op1 .chkI (.op2 .ix (.var 16) (.cst (.int 0)))) (xs := ds.map .int) (ev_var h8) ev_cst (ev_op1 (ev_op2 (ev_var h16) ev_cst (ix0 _ _)) (op1_chkI _)) rfl rfl
    rw [cut_hi _ _ (by simp; omega), ← List.map_take] at e
    rw [hw]
    exact e
  refine stpG (ifF (ev_orF (alk (ev_call1 (ev_var rfl) (s12 59 d0 (by omega) o)) (ew _ rfl rfl) rfl (plTI (by rw [hw, List.length_take]; omega) 2)) (alk (ev_call2 (ev_var rfl) (ev_var rfl) (s11 58 c0 (by omega) ds (by omega) o)) (ev_and2 (ev_op2 (ev_bi1 (ev_var rfl) (bi_len_TI _)) (ev_bi1 (ev_var rfl) (bi_len_TI _)) (op2_eq_int _ _)) fun _ => ev_op2 ev_cst (ev_var rfl) (inO_LI _ _)) (by rw [round_eq]) rfl)) (evSs_nil' _ _ _)) ?_
  exact ⟨_, _, evSs_nil' _ _ _, rfl, rfl, rfl, rfl, rfl, rfl, c0, c1, d0, d1, ha, cp, cq⟩
end Lk61

end
/-! text: k61_M8.lean -/
section
set_option autoImplicit false
set_option maxRecDepth 100000
namespace Lk61
open BV
theorem segE (ρ : Env) (o : Or) (hl : ρ.length = 29) {cs ds : List Int} {a h : Nat} (B : Base ρ cs ds a h) : Gd 29 (evSs (C 60) ((bT.drop 17).take 3) ρ o) fun ρ _ => Base ρ cs ds a h := by
  obtain ⟨a0, a1, a2, a3, a4, a5, a6, a7, a8, a9, a10, a11, a12, a13, a14, a15, a16, a17, a18, a19, a20, a21, a22, a23, a24, a25, a26, a27, a28, rfl⟩ := list29 hl
  obtain ⟨hw, e4, e5, e6, e8, c0, c1, d0, d1, ha, cp, cq⟩ := B
  obtain rfl : a1 = .val .tok := hw
  obtain rfl : a4 = .val (TI cs) := e4
  obtain rfl : a5 = .val (.int a) := e5
  obtain rfl : a6 = .val (.int h) := e6
  obtain rfl : a8 = .val (TI ds) := e8
  obtain ⟨s, o1, hs, e1⟩ := nx 60 o (by decide)
  refine stpG (st_par (evs_cons (ev_call2 (ev_var rfl) ev_cst e1) (evs_cons (ev_var rfl) (evs_cons ev_cst evs_nil))) rfl) ?_
  simp only [setS]
  have L := forM_RI (n := s) (f := fun x ρ o => evSs (C 60) [.aug 19 .add (.cst (.int 1)), .ifs (.op2 .eq (.var 19) (.call 20 [(.var 4), (.var 18)])) [.par [(18, false), (19, false)] [(.op2 .mod (.bi .int [(.op2 .add (.var 18) (.cst (.int 1)))]) (.bi .len [(.var 4)])), (.cst (.int 0))]] []] (setS ρ 3 (.val x)) o)
    (I := fun j ρ o' => o' = o1 ∧ ∃ x3, ρ = [a0, .val .tok, a2, x3, .val (TI cs), .val (.int a), .val (.int h), a7, .val (TI ds), a9, a10, a11, a12, a13, a14, a15, a16, .val (.int s), .val (.int (sim cs j (a, 0)).1), .val (.int (sim cs j (a, 0)).2), a20, a21, a22, a23, a24, a25, a26, a27, a28])
    (ρ := [a0, .val .tok, a2, a3, .val (TI cs), .val (.int a), .val (.int h), a7, .val (TI ds), a9, a10, a11, a12, a13, a14, a15, a16, .val (.int s), .val (.int a), .val (.int 0), a20, a21, a22, a23, a24, a25, a26, a27, a28]) (o := o1)
    (fun j hj ρ o' ⟨ho, x3, hρ⟩ => by
      subst ho
      subst hρ
      have e := ev_op2 (C := C 60) (ρ := [a0, .val .tok, a2, .val (.int j), .val (TI cs), .val (.int a), .val (.int h), a7, .val (TI ds), a9, a10, a11, a12, a13, a14, a15, a16, .val (.int s), .val (.int (sim cs j (a, 0)).1), .val (.int ((sim cs j (a, 0)).2 + 1)), a20, a21, a22, a23, a24, a25, a26, a27, a28]) (o := o') (a := .var 19) (b := .call 20 [(.var 4), (.var 18)]) (ev_var rfl) (ev_call2 (ev_var rfl) (ev_var rfl) (s20 59 c0 _ _)) (op2_eq_int _ _)
      by_cases hh : (sim cs j (a, 0)).2 + 1 = at_ cs (sim cs j (a, 0)).1
      · rw [decide_eq_true hh] at e
        refine ⟨_, _, .inl (stp (st_aug rfl rfl ev_cst (op2_add_int _ _)) (stp (ifT e (stp (st_par (evs_cons (ev_op2 (ev_bi1 (ev_op2 (ev_var rfl) ev_cst (op2_add_int _ _)) (bi_int _)) (ev_bi1 (ev_var rfl) (bi_len_TI _)) (op2_mod_int (by omega))) (evs_cons ev_cst evs_nil)) rfl) (evSs_nil' _ _ _))) (evSs_nil' _ _ _))), rfl, .val (.int j), ?_⟩
        rw [sim, st1, if_pos hh]
        rfl
      · rw [decide_eq_false hh] at e
        refine ⟨_, _, .inl (stp (st_aug rfl rfl ev_cst (op2_add_int _ _)) (stp (ifF e (evSs_nil' _ _ _)) (evSs_nil' _ _ _))), rfl, .val (.int j), ?_⟩
        rw [sim, st1, if_neg hh]
        rfl)
    ⟨rfl, a3, rfl⟩
  obtain ⟨ρ', o', e2, rfl, x3, rfl⟩ := L
  refine stpG (st_forI (ev_rangeN (ev_var rfl) (by rw [cap_v]; omega)) e2) ?_
  have hsum : cs.sum ≤ 1000000 := by
    have : ∀ l : List Int, (∀ n ∈ l, n ≤ (4 : Int)) → l.sum ≤ 4 * l.length := by
      intro l
      induction l with
      | nil => intro _; simp
      | cons x l ih => intro hx; have := ih fun n hn => hx n (by simp [hn]); have := hx x (by simp); simp; omega
    have := this cs cq
    omega
  refine stpG (ifF (alk (ev_call3 (ev_var rfl) (ev_var rfl) (ev_var rfl) (s13 cp c0 59 hsum a ha s o')) (ev_tup (evs_cons (ev_var rfl) (evs_cons (ev_var rfl) evs_nil))) rfl (pl_pair (plD_int _ _) (plD_int _ _))) (evSs_nil' _ _ _)) ?_
  exact ⟨_, _, evSs_nil' _ _ _, rfl, rfl, rfl, rfl, rfl, rfl, c0, c1, d0, d1, ha, cp, cq⟩
theorem compM_Q {f : D → Or → R (Option D)} : ∀ {ks : List Nat}, (∀ k ∈ ks, ∀ o, ∃ (b : Bool) (o' : Or), f (.int k) o = .ok (if b then some (.int k) else none) o') → ∀ o, ∃ (js : List Nat) (o' : Or), compM f (ks.map fun k : Nat => D.int k) o = .ok (js.map fun k : Nat => D.int k) o' ∧ js.Sublist ks
  | [], _, o => ⟨[], o, rfl, List.Sublist.slnil⟩
  | k :: ks, h, o => by
    obtain ⟨b, o1, e⟩ := h k (by simp) o
    obtain ⟨js, o2, e2, hj⟩ := compM_Q (ks := ks) (fun j hj => h j (by simp [hj])) o1
    rw [List.map_cons, compM, e, R.bind_ok, e2, R.bind_ok]
    cases b
    · exact ⟨js, o2, rfl, hj.cons k⟩
    · exact ⟨k :: js, o2, rfl, hj.cons_cons k⟩
theorem ev_compQ {C : Nat → List D → Or → R D} {ρ : Env} {o o1 : Or} {s c : IE} {i n : Nat} (hi : i < ρ.length) (hs : evE C s ρ o = .ok (.lst (RI n)) o1) (hc : ∀ k < n, ∀ o, ∃ (b : Bool) (o' : Or), evE C c (setS ρ i (.val (.int k))) o = .ok (.bool b) o') : ∃ (js : List Nat) (o' : Or), evE C (.comp (.slot i) s c (.var i)) ρ o = .ok (.lst ((ni js).map .int)) o' ∧ js.Sublist (List.range n) := by
  obtain ⟨js, o', e, hj⟩ := compM_Q (ks := List.range n) (f := fun x o => match bindP (.slot i) x (wipeS ρ (slotsP (.slot i))) with
        | none => .no
        | some ρ => (evE C c ρ o).test fun t _ o => if t then (evE C (.var i) ρ o).bind fun y o => .ok (some y) o else .ok none o) (fun k hk o => by
    obtain ⟨b, o', e⟩ := hc k (List.mem_range.mp hk) o
    refine ⟨b, o', ?_⟩
    simp only [bindP, wipeS, slotsP, setS_setS, e, test_bool]
    cases b
    · rfl
    · simp only [if_true, ev_var (getS_set_eq ρ i _ hi), R.bind_ok]) o1
  refine ⟨js, o', ?_, hj⟩
  rw [evE, hs, ← ni_map]
  simp only [R.seq, R.bind_ok, items, R.of_some]
  exact congrArg (fun r : R (List D) => r.pure.bind fun ys o => R.ok (D.lst ys) o) e
theorem sub_filter : ∀ {ks l : List Nat}, ks.Sublist l → l.Nodup → l.filter (fun x => ks.any fun y => decide (y = x)) = ks
  | _, _, .slnil, _ => rfl
  | ks, _, .cons a (l₂ := l) h, hn => by
    have hn' := List.nodup_cons.mp hn
    rw [List.filter_cons, if_neg, sub_filter h hn'.2]
    simp only [List.any_eq_true, decide_eq_true_eq, not_exists, not_and]
    rintro y hy rfl
    exact hn'.1 (h.subset hy)
  | _, _, .cons_cons a (l₁ := ks) (l₂ := l) h, hn => by
    have hn' := List.nodup_cons.mp hn
    rw [List.filter_cons, if_pos (by simp)]
    congr 1
    conv => rhs; rw [← sub_filter h hn'.2]
    refine List.filter_congr fun x hx => ?_
    rw [List.any_cons, decide_eq_false (by rintro rfl; exact hn'.1 hx), Bool.false_or]
theorem ni_any (ks : List Nat) (n : Nat) : (ni ks).any (fun m => decide (m = (n : Int))) = ks.any fun y => decide (y = n) := by
  rw [ni, List.any_map]
  congr 1
  funext y
  show decide ((y : Int) = (n : Int)) = _
  exact decide_eq_decide.mpr Int.ofNat_inj
theorem rows_get (cs ms : List Int) {n : Nat} : ∀ (d : Nat), (rows cs ms (n + 1 + d)).1.getD n 0 = if ms.any (fun m => decide (m = (n : Int))) then 0 else at_ cs (rows cs ms n).2
  | 0 => by
    have hl := rows_len cs ms n
    rw [Nat.add_zero, rows]
    split
    · simp only [List.getD_eq_getElem?_getD]; rw [List.getElem?_append_right (by omega)]; simp [hl]
    · simp only [List.getD_eq_getElem?_getD]; rw [List.getElem?_append_right (by omega)]; simp [hl]
  | d + 1 => by
    have hl := rows_len cs ms (n + 1 + d)
    rw [← rows_get cs ms d, ← Nat.add_assoc, rows]
    split
    · simp only [List.getD_eq_getElem?_getD]; rw [List.getElem?_append_left (by omega)]
    · simp only [List.getD_eq_getElem?_getD]; rw [List.getElem?_append_left (by omega)]
theorem mis_rows {cs : List Int} (hp : ∀ n ∈ cs, (1 : Int) ≤ n) (h : 0 < cs.length) (ms : List Int) (n : Nat) : ∀ m ≤ n, mis cs (rows cs ms n).1 m = some (ni ((List.range m).filter fun k : Nat => ms.any fun x => decide (x = (k : Int))), (rows cs ms m).2)
  | 0, _ => rfl
  | m + 1, hm => by
    have g := rows_get cs ms (n := m) (n - (m + 1))
    rw [show m + 1 + (n - (m + 1)) = n by omega] at g
    rw [mis, mis_rows hp h ms n m (by omega)]
    have h1 := at_pos hp h ((rows cs ms m).2 : Int)
    simp only [g, rows, List.range_succ, List.filter_append, List.filter_cons, List.filter_nil]
    by_cases hh : ms.any (fun x => decide (x = (m : Int))) = true
    · rw [if_pos hh, if_pos rfl, if_pos hh, if_pos hh]
      simp [ni]
    · rw [if_neg hh, if_neg (by omega), if_pos rfl, if_neg hh, if_neg hh]
      simp [ni]
theorem segF (ρ : Env) (o : Or) (hl : ρ.length = 29) {cs ds : List Int} {a h : Nat} (B : Base ρ cs ds a h) : Gd 29 (evSs (C 60) ((bT.drop 20).take 5) ρ o) fun ρ _ => Base ρ cs ds a h ∧ ∃ row : List Int, getS ρ 14 = .own (LI row) ∧ getS ρ 20 = .val (.int row.length) ∧ row.length < 12 := by
  obtain ⟨a0, a1, a2, a3, a4, a5, a6, a7, a8, a9, a10, a11, a12, a13, a14, a15, a16, a17, a18, a19, a20, a21, a22, a23, a24, a25, a26, a27, a28, rfl⟩ := list29 hl
  obtain ⟨hw, e4, e5, e6, e8, c0, c1, d0, d1, ha, cp, cq⟩ := B
  obtain rfl : a1 = .val .tok := hw
  obtain rfl : a4 = .val (TI cs) := e4
  obtain rfl : a5 = .val (.int a) := e5
  obtain rfl : a6 = .val (.int h) := e6
  obtain rfl : a8 = .val (TI ds) := e8
  obtain ⟨n, o1, hn, e1⟩ := nx 12 o (by decide)
  refine stpG (st_set (ev_call2 (ev_var rfl) ev_cst e1)) ?_
  simp only [setS]
  obtain ⟨ks, o2, e2, hk⟩ := ev_compQ (C := C 60) (ρ := [a0, .val .tok, a2, a3, .val (TI cs), .val (.int a), .val (.int h), a7, .val (TI ds), a9, a10, a11, a12, a13, a14, a15, a16, a17, a18, a19, .val (.int n), a21, a22, a23, a24, a25, a26, a27, a28]) (o := o1) (i := 12) (n := n) (s := .bi .range [(.var 20)]) (c := .op2 .eq (.call 17 [(.var 1), (.cst (.int 4))]) (.cst (.int 0))) (by show 12 < 29; decide) (ev_rangeN (ev_var rfl) (by rw [cap_v]; omega)) fun k hk o => by
    obtain ⟨v, o', hv, e⟩ := nx 4 o (by decide)
    exact ⟨_, o', ev_op2 (ev_call2 (ev_var rfl) ev_cst e) ev_cst (op2_eq_int _ _)⟩
  refine stpG (st_set (ev_bi1 e2 (bi_tuple_lst _))) ?_
  simp only [setS]
  refine stpG (st_par (evs_cons (ev_lst evs_nil) (evs_cons ev_cst evs_nil)) rfl) ?_
  simp only [setS]
  have L := forM_RI (n := n) (f := fun x ρ o => evSs (C 60) [.app 14 (.ite (.op2 .isIn (.var 12) (.var 21)) (.cst (.int 0)) (.call 20 [(.var 4), (.var 22)])), .aug 22 .add (.ite (.op2 .isIn (.var 12) (.var 21)) (.cst (.int 0)) (.cst (.int 1)))] (setS ρ 12 (.val x)) o)
    (I := fun j ρ o' => o' = o2 ∧ ∃ x, ρ = [a0, .val .tok, a2, a3, .val (TI cs), .val (.int a), .val (.int h), a7, .val (TI ds), a9, a10, a11, x, a13, .own (LI (rows cs (ni ks) j).1), a15, a16, a17, a18, a19, .val (.int n), .val (TI (ni ks)), .val (.int (rows cs (ni ks) j).2), a23, a24, a25, a26, a27, a28])
    (ρ := [a0, .val .tok, a2, a3, .val (TI cs), .val (.int a), .val (.int h), a7, .val (TI ds), a9, a10, a11, a12, a13, .own (LI []), a15, a16, a17, a18, a19, .val (.int n), .val (TI (ni ks)), .val (.int 0), a23, a24, a25, a26, a27, a28]) (o := o2)
    (fun j hj ρ o' ⟨ho, x, hρ⟩ => by
      subst ho
      subst hρ
      have hlr : ((rows cs (ni ks) j).1.map D.int).length < cap := by rw [List.length_map, rows_len, cap_v]; omega
      have e : ∀ y14, evE (C 60) (.op2 .isIn (.var 12) (.var 21)) [a0, .val .tok, a2, a3, .val (TI cs), .val (.int a), .val (.int h), a7, .val (TI ds), a9, a10, a11, .val (.int j), a13, y14, a15, a16, a17, a18, a19, .val (.int n), .val (TI (ni ks)), .val (.int (rows cs (ni ks) j).2), a23, a24, a25, a26, a27, a28] o' = .ok (.bool ((ni ks).any fun m => decide (m = (j : Int)))) o' := fun y14 => ev_op2 (ev_var rfl) (ev_var rfl) (inO_TI _ _)
      rw [rows]
      cases hm : (ni ks).any (fun m => decide (m = (j : Int))) with
      | true =>
        rw [hm] at e
        refine ⟨_, _, .inl (stp (st_app rfl (ev_iteT (e _) ev_cst) hlr) (stp (st_aug rfl rfl (ev_iteT (e _) ev_cst) (op2_add_int _ _)) (evSs_nil' _ _ _))), rfl, .val (.int j), ?_⟩
        simp [setS, LI]
      | false =>
        rw [hm] at e
        refine ⟨_, _, .inl (stp (st_app rfl (ev_iteF (e _) (ev_call2 (ev_var rfl) (ev_var rfl) (s20 59 c0 _ _))) hlr) (stp (st_aug rfl rfl (ev_iteF (e _) ev_cst) (op2_add_int _ _)) (evSs_nil' _ _ _))), rfl, .val (.int j), ?_⟩
        simp [setS, LI])
    ⟨rfl, a12, rfl⟩
  obtain ⟨ρ', o', e3, rfl, x12, rfl⟩ := L
  refine stpG (st_forI (ev_rangeN (ev_var rfl) (by rw [cap_v]; omega)) e3) ?_
  have hlr := rows_len cs (ni ks) n
  have hks : (List.range n).filter (fun k : Nat => (ni ks).any fun x => decide (x = (k : Int))) = ks := by
    rw [← sub_filter hk List.nodup_range]
    refine List.filter_congr fun k _ => ?_
    rw [ni_any, sub_filter hk List.nodup_range]
  have hks2 : ks.length ≤ n := by have := hk.length_le; simpa using this
  have hm : misD cs (rows cs (ni ks) n).1 = TI (ni ks) := by
    rw [misD, hlr, mis_rows cp c0 (ni ks) n n (Nat.le_refl _), hks]
  refine stpG (ifF (ev_orF (alk (ev_call4 (ev_var rfl) (ev_var rfl) (ev_var rfl) (ev_var rfl) (s14 59 c0 (ni ks) (TI ds) n (by omega) o')) (ev_bi1 (ev_pkO rfl) (bi_tuple_lst _)) rfl (plTI (by rw [hlr]; omega) 2)) (alk (ev_call2 (ev_var rfl) (ev_bi1 (ev_pkO rfl) (bi_tuple_lst _)) (s15 59 c0 (rows cs (ni ks) n).1 (by rw [hlr]; omega) o')) (ev_var rfl) hm (by rw [hm]; exact plTI (by rw [ni_len]; omega) 2))) (evSs_nil' _ _ _)) ?_
  refine ⟨_, _, evSs_nil' _ _ _, rfl, ⟨rfl, rfl, rfl, rfl, rfl, c0, c1, d0, d1, ha, cp, cq⟩, (rows cs (ni ks) n).1, rfl, ?_, by rw [hlr]; exact hn⟩
  rw [hlr]
  rfl
end Lk61

end
/-! text: k61_M9.lean -/
section
set_option autoImplicit false
set_option maxRecDepth 100000
namespace Lk61
open BV
theorem okN_sm (n : Nat) {xs : List D} (h : xs.all sm = true) : xs.all (okN n) = true := sm_ok h n
/-- statement 25: a row with one place more -/
def misO (o : Option (List Int × Nat)) : D := match o with
  | some (l, _) => LI l
  | none => .non
theorem st25 (ρ : Env) (o : Or) (hl : ρ.length = 29) {cs ds : List Int} {a h : Nat} (B : Base ρ cs ds a h) {row : List Int} (h14 : getS ρ 14 = .own (LI row)) (h20 : getS ρ 20 = .val (.int row.length)) (hr : row.length < 12) : Gd 29 (evSs (C 60) ((bT.drop 25).take 1) ρ o) fun ρ _ => Base ρ cs ds a h := by
  obtain ⟨a0, a1, a2, a3, a4, a5, a6, a7, a8, a9, a10, a11, a12, a13, a14, a15, a16, a17, a18, a19, a20, a21, a22, a23, a24, a25, a26, a27, a28, rfl⟩ := list29 hl
  obtain ⟨hw, e4, e5, e6, e8, c0, c1, d0, d1, ha, cp, cq⟩ := B
  obtain rfl : a1 = .val .tok := hw
  obtain rfl : a4 = .val (TI cs) := e4
  obtain rfl : a5 = .val (.int a) := e5
  obtain rfl : a6 = .val (.int h) := e6
  obtain rfl : a8 = .val (TI ds) := e8
  obtain rfl : a14 = .own (LI row) := h14
  obtain rfl : a20 = .val (.int row.length) := h20
  have e0 := evI_nnil (C := C 60) (e := .pk 14) (ρ := [a0, .val .tok, a2, a3, .val (TI cs), .val (.int a), .val (.int h), a7, .val (TI ds), a9, a10, a11, a12, a13, .own (LI row), a15, a16, a17, a18, a19, .val (.int row.length), a21, a22, a23, a24, a25, a26, a27, a28]) (o := o) (xs := row.map .int) (ev_pkO rfl) (ok_ints _ _)
  rw [isEmpty_map] at e0
  cases hrow : row.isEmpty with
  | true =>
    rw [hrow] at e0
    exact stpG (ifF e0 (evSs_nil' _ _ _)) ⟨_, _, evSs_nil' _ _ _, rfl, rfl, rfl, rfl, rfl, rfl, c0, c1, d0, d1, ha, cp, cq⟩
  | false =>
    rw [hrow] at e0
    have hr0 : 0 < row.length := by cases row with | nil => cases hrow | cons _ _ => simp
    obtain ⟨k, o1, hk, e1⟩ := nx row.length o hr0
    -- the new row
    have hb : ∃ bt : List Int, bt.length = row.length ∧ evE (C 60) (.bi .tuple [(.op2 .add (.op2 .add (.slice (.pk 14) (.cst .non) (.op1 .chkI (.var 3))) (.lst [(.op2 .add (.op2 .ix (.pk 14) (.var 3)) (.cst (.int 1)))])) (.slice (.pk 14) (.op1 .chkI (.op2 .add (.var 3) (.cst (.int 1)))) (.cst .non)))]) [a0, .val .tok, a2, .val (.int k), .val (TI cs), .val (.int a), .val (.int h), a7, .val (TI ds), a9, a10, a11, a12, a13, .own (LI row), a15, a16, a17, a18, a19, .val (.int row.length), a21, a22, a23, a24, a25, a26, a27, a28] o1 = .ok (TI bt) o1 := by
      refine ⟨row.take k ++ [row.getD k 0 + 1] ++ row.drop (k + 1), by simp; omega, ?_⟩
      have r1 : op2 .ix (LI row) (.int (k : Int)) = some (.int (row.getD k 0)) := by rw [ix_LI (by omega) (by omega), Int.toNat_natCast]
      have r2 : op2 .add (.lst (cut (row.map D.int) none (some (k : Int)))) (.lst [.int (row.getD k 0 + 1)]) = some (LI (row.take k ++ [row.getD k 0 + 1])) := by
        rw [cut_hiA, op2_add_lst (by simp; rw [cap_v]; omega), ← List.map_take]
        simp [LI]
      have r3 : op2 .add (LI (row.take k ++ [row.getD k 0 + 1])) (.lst (cut (row.map D.int) (some ((k : Int) + 1)) none)) = some (LI (row.take k ++ [row.getD k 0 + 1] ++ row.drop (k + 1))) := by
        rw [show (k : Int) + 1 = ((k + 1 : Nat) : Int) by omega, cut_lo _ _ (by simp; omega), LI, op2_add_lst (by simp; rw [cap_v]; omega), ← List.map_drop, ← List.map_append]
        rfl
      exact ev_bi1 (ev_op2 (ev_op2 (ev_sliceL (ev_pkO rfl) ev_cst (ev_op1 (ev_var rfl) (op1_chkI _)) rfl rfl) (ev_lst (evs_cons (ev_op2 (ev_op2 (ev_pkO rfl) (ev_var rfl) r1) ev_cst (op2_add_int _ _)) evs_nil)) r2) (ev_sliceL (ev_pkO rfl) (ev_op1 (ev_op2 (ev_var rfl) ev_cst (op2_add_int _ _)) (op1_chkI _)) ev_cst rfl rfl) r3) (bi_tuple_lst _)
    obtain ⟨bt, hbl, eb⟩ := hb
    -- the loop
    have L := forM_RI (n := row.length) (f := fun x ρ o => evSs (C 60) [.ifs (.op2 .eq (.op2 .ix (.var 23) (.var 12)) (.cst (.int 0))) [.set (.slot 24) (.ite (.op2 .isNot (.var 24) (.cst .non)) (.op2 .add (.var 24) (.lst [(.var 12)])) (.cst .non))] [.set (.slot 24) (.ite (.op2 .eq (.op2 .ix (.var 23) (.var 12)) (.call 20 [(.var 4), (.var 22)])) (.var 24) (.cst .non)),
    .aug 22 .add (.cst (.int 1))]] (setS ρ 12 (.val x)) o)
      (I := fun j ρ o' => o' = o1 ∧ ∃ (x : Sl) (g : Int), (∀ l g', mis cs bt j = some (l, g') → g = g') ∧ ρ = [a0, .val .tok, a2, .val (.int k), .val (TI cs), .val (.int a), .val (.int h), a7, .val (TI ds), a9, a10, a11, x, a13, .own (LI row), a15, a16, a17, a18, a19, .val (.int row.length), a21, .val (.int g), .val (TI bt), .val (misO (mis cs bt j)), a25, a26, a27, a28])
      (ρ := [a0, .val .tok, a2, .val (.int k), .val (TI cs), .val (.int a), .val (.int h), a7, .val (TI ds), a9, a10, a11, a12, a13, .own (LI row), a15, a16, a17, a18, a19, .val (.int row.length), a21, .val (.int 0), .val (TI bt), .val (LI []), a25, a26, a27, a28]) (o := o1)
      (fun j hj ρ o' ⟨ho, x, g, hg, hρ⟩ => by
        subst ho
        subst hρ
        have hx := ev_op2 (C := C 60) (ρ := [a0, .val .tok, a2, .val (.int k), .val (TI cs), .val (.int a), .val (.int h), a7, .val (TI ds), a9, a10, a11, .val (.int j), a13, .own (LI row), a15, a16, a17, a18, a19, .val (.int row.length), a21, .val (.int g), .val (TI bt), .val (misO (mis cs bt j)), a25, a26, a27, a28]) (o := o') (a := .op2 .ix (.var 23) (.var 12)) (b := .cst (.int 0)) (ev_op2 (ev_var rfl) (ev_var rfl) (ix_nat (by omega))) ev_cst (op2_eq_int _ _)
        have hy := ev_op2 (C := C 60) (ρ := [a0, .val .tok, a2, .val (.int k), .val (TI cs), .val (.int a), .val (.int h), a7, .val (TI ds), a9, a10, a11, .val (.int j), a13, .own (LI row), a15, a16, a17, a18, a19, .val (.int row.length), a21, .val (.int g), .val (TI bt), .val (misO (mis cs bt j)), a25, a26, a27, a28]) (o := o') (a := .op2 .ix (.var 23) (.var 12)) (b := .call 20 [(.var 4), (.var 22)]) (ev_op2 (ev_var rfl) (ev_var rfl) (ix_nat (by omega))) (ev_call2 (ev_var rfl) (ev_var rfl) (s20 59 c0 _ _)) (op2_eq_int _ _)
        have hz := ev_op2 (C := C 60) (ρ := [a0, .val .tok, a2, .val (.int k), .val (TI cs), .val (.int a), .val (.int h), a7, .val (TI ds), a9, a10, a11, .val (.int j), a13, .own (LI row), a15, a16, a17, a18, a19, .val (.int row.length), a21, .val (.int g), .val (TI bt), .val (misO (mis cs bt j)), a25, a26, a27, a28]) (o := o') (a := .var 24) (b := .cst .non) (ev_var rfl) ev_cst (op2_isNot_non _)
        by_cases h0 : bt.getD j 0 = 0
        · rw [decide_eq_true h0] at hx
          cases hm : mis cs bt j with
          | none =>
            rw [hm] at hx hz
            refine ⟨_, _, .inl (stp (ifT hx (stp (st_set (ev_iteF hz ev_cst)) (evSs_nil' _ _ _))) (evSs_nil' _ _ _)), rfl, .val (.int j), g, ?_, ?_⟩
            · intro l g' e; rw [mis, hm] at e; cases e
            · rw [mis, hm]; rfl
          | some p =>
            obtain ⟨l, g0⟩ := p
            obtain rfl := hg l g0 hm
            rw [hm] at hx hz
            have hln := mis_len cs bt j hm
            have ea : op2 .add (.lst (l.map D.int)) (.lst [.int (j : Int)]) = some (LI (l ++ [(j : Int)])) := by
              rw [op2_add_lst (by simp; rw [cap_v]; omega)]
              simp [LI]
            refine ⟨_, _, .inl (stp (ifT hx (stp (st_set (ev_iteT hz (ev_op2 (ev_var rfl) (ev_lst (evs_cons (ev_var rfl) evs_nil)) ea))) (evSs_nil' _ _ _))) (evSs_nil' _ _ _)), rfl, .val (.int j), g0, ?_, ?_⟩
            · intro l' g' e
              rw [mis, hm] at e
              simp only [if_pos h0] at e
              cases e; rfl
            · rw [mis, hm]
              simp only [if_pos h0]
              rfl
        · rw [decide_eq_false h0] at hx
          cases hm : mis cs bt j with
          | none =>
            rw [hm] at hx hy
            cases hd : decide (bt.getD j 0 = at_ cs g) with
            | true =>
              rw [hd] at hy
              refine ⟨_, _, .inl (stp (ifF hx (stp (st_set (ev_iteT hy (ev_var rfl))) (stp (st_aug rfl rfl ev_cst (op2_add_int _ _)) (evSs_nil' _ _ _)))) (evSs_nil' _ _ _)), rfl, .val (.int j), g + 1, ?_, ?_⟩
              · intro l g' e; rw [mis, hm] at e; cases e
              · rw [mis, hm]; rfl
            | false =>
              rw [hd] at hy
              refine ⟨_, _, .inl (stp (ifF hx (stp (st_set (ev_iteF hy ev_cst)) (stp (st_aug rfl rfl ev_cst (op2_add_int _ _)) (evSs_nil' _ _ _)))) (evSs_nil' _ _ _)), rfl, .val (.int j), g + 1, ?_, ?_⟩
              · intro l g' e; rw [mis, hm] at e; cases e
              · rw [mis, hm]; rfl
          | some p =>
            obtain ⟨l, g0⟩ := p
            obtain rfl := hg l g0 hm
            rw [hm] at hx hy
            by_cases h1 : bt.getD j 0 = at_ cs g0
            · rw [decide_eq_true h1] at hy
              refine ⟨_, _, .inl (stp (ifF hx (stp (st_set (ev_iteT hy (ev_var rfl))) (stp (st_aug rfl rfl ev_cst (op2_add_int _ _)) (evSs_nil' _ _ _)))) (evSs_nil' _ _ _)), rfl, .val (.int j), (g0 : Int) + 1, ?_, ?_⟩
              · intro l' g' e
                rw [mis, hm] at e
                simp only [if_neg h0, if_pos h1] at e
                cases e; omega
              · rw [mis, hm]
                simp only [if_neg h0, if_pos h1]
                rfl
            · rw [decide_eq_false h1] at hy
              refine ⟨_, _, .inl (stp (ifF hx (stp (st_set (ev_iteF hy ev_cst)) (stp (st_aug rfl rfl ev_cst (op2_add_int _ _)) (evSs_nil' _ _ _)))) (evSs_nil' _ _ _)), rfl, .val (.int j), (g0 : Int) + 1, ?_, ?_⟩
              · intro l' g' e
                rw [mis, hm] at e
                simp only [if_neg h0, if_neg h1] at e
                cases e
              · rw [mis, hm]
                simp only [if_neg h0, if_neg h1]
                rfl)
      ⟨rfl, a12, 0, by intro l g' e; cases e; rfl, rfl⟩
    obtain ⟨ρ', o', e2, rfl, x12, g, hg, rfl⟩ := L
    have hz := ev_op2 (C := C 60) (ρ := [a0, .val .tok, a2, .val (.int k), .val (TI cs), .val (.int a), .val (.int h), a7, .val (TI ds), a9, a10, a11, x12, a13, .own (LI row), a15, a16, a17, a18, a19, .val (.int row.length), a21, .val (.int g), .val (TI bt), .val (misO (mis cs bt row.length)), a25, a26, a27, a28]) (o := o') (a := .var 24) (b := .cst .non) (ev_var rfl) ev_cst (op2_isNot_non _)
    have e3 : evE (C 60) (.ite (.op2 .isNot (.var 24) (.cst .non)) (.bi .tuple [(.var 24)]) (.cst .non)) [a0, .val .tok, a2, .val (.int k), .val (TI cs), .val (.int a), .val (.int h), a7, .val (TI ds), a9, a10, a11, x12, a13, .own (LI row), a15, a16, a17, a18, a19, .val (.int row.length), a21, .val (.int g), .val (TI bt), .val (misO (mis cs bt row.length)), a25, a26, a27, a28] o' = .ok (misD cs bt) o' := by
      rw [misD, hbl]
      cases hm : mis cs bt row.length with
      | none => rw [hm] at hz; exact ev_iteF hz ev_cst
      | some p => obtain ⟨l, g0⟩ := p; rw [hm] at hz; exact ev_iteT hz (ev_bi1 (ev_var rfl) (bi_tuple_lst _))
    have hpl : plD 3 (misD cs bt) = true := by
      rw [misD]
      cases hm : mis cs bt bt.length with
      | none => rfl
      | some p => obtain ⟨l, g0⟩ := p; exact plTI (by have := mis_len cs bt _ hm; omega) 2
    refine stpG (ifT e0 (stp (st_set (ev_call2 (ev_var rfl) (ev_bi1 (ev_pkO rfl) (bi_len_LI _)) e1)) (stp (st_par (evs_cons eb (evs_cons ev_cst (evs_cons (ev_lst evs_nil) evs_nil))) rfl) (stp (st_forI (ev_rangeN (ev_var rfl) (by rw [cap_v]; omega)) e2) (stp (ifF (alk (ev_call2 (ev_var rfl) (ev_var rfl) (s15 59 c0 bt (by omega) o')) e3 rfl hpl) (evSs_nil' _ _ _)) (evSs_nil' _ _ _)))))) ?_
    exact ⟨_, _, evSs_nil' _ _ _, rfl, rfl, rfl, rfl, rfl, rfl, c0, c1, d0, d1, ha, cp, cq⟩
end Lk61

end
/-! text: k61_M.lean -/
section
set_option autoImplicit false
set_option maxRecDepth 100000
namespace Lk61
open BV
def QT (x : D) : Prop := (∃ xs : List D, x = .tup xs ∧ xs.all sm = true) ∨ isTy .tup x = some false
def bQ : List IS := [.ifs (.op1 .not (.call 19 [(.call 2 [(.var 25)]), (.and (.bi (.isT .tup) [(.var 25)]) (.and (.op2 .ne (.var 25) (.tup [])) (.op2 .eq (.comp (.slot 27) (.var 25) (.or (.op1 .not (.bi (.isT .int) [(.var 27)])) (.or (.bi (.isT .bool) [(.var 27)]) (.op2 .lt (.var 27) (.cst (.int 1))))) (.var 27)) (.lst []))))])) [.ret (.cst (.bool false))] []]
theorem filt_allD (p : D → Bool) (ks : List D) : (ks.filter fun j => !p j).isEmpty = ks.all p := by
  induction ks with
  | nil => rfl
  | cons k ks ih =>
    rw [List.filter_cons, List.all_cons, ← ih]
    cases p k <;> rfl
theorem bQ_ok {x : D} (hx : QT x) (ρ : Env) (o : Or) (hl : 27 < ρ.length) (h : getS ρ 25 = .val x) : evSs (C 60) bQ ρ o = .nx ρ o := by
  rcases hx with ⟨xs, rfl, hs⟩ | ht
  · refine stp (ifF (alk (x := .bool (!xs.isEmpty && xs.all okc)) (ev_call1 (ev_var h) (s2 57 hs o)) (ev_andT (ev_bi1 (ev_var h) (bi_isT rfl)) (ev_and2 (p := !xs.isEmpty) (q := xs.all okc) (ev_op2 (ev_var h) (ev_tup evs_nil) (op2_ne (eqO_nilT (sm_ok hs _)))) fun _ => ?_)) rfl rfl) (evSs_nil' _ _ _)) (evSs_nil' _ _ _)
    have e := ev_compXF (C := C 60) (ρ := ρ) (o := o) (s := .var 25) (i := 27) (c := .or (.op1 .not (.bi (.isT .int) [(.var 27)])) (.or (.bi (.isT .bool) [(.var 27)]) (.op2 .lt (.var 27) (.cst (.int 1))))) (e := .var 27) (f := fun x => x) (p := fun x => !okc x) (xs := xs) (o1 := o) (by rw [ev_var h]; rfl) (fun x hm => by
      have hsx := List.all_eq_true.mp hs x hm
      have hv : evE (C 60) (.var 27) (setS ρ 27 (.val x)) o = .ok x o := ev_var (getS_set_eq _ _ _ hl)
      cases x <;> first | (cases hsx; done) | skip
      · exact ev_orT (ev_not (q := false) (ev_bi1 hv (bi_isT rfl)))
      · exact ev_orB (q := false) (ev_not (q := true) (ev_bi1 hv (bi_isT rfl))) (ev_orT (ev_bi1 hv (bi_isT rfl)))
      · rename_i i
        refine ev_orB (q := false) (ev_not (q := true) (ev_bi1 hv (bi_isT rfl))) (ev_orB (q := false) (ev_bi1 hv (bi_isT rfl)) (ev_op2 hv ev_cst ?_))
        rw [op2_lt_int, okc]
        congr 2
        by_cases hh : (1 : Int) ≤ i
        · rw [decide_eq_true hh, decide_eq_false (by omega)]; rfl
        · rw [decide_eq_false hh, decide_eq_true (by omega)]; rfl) fun x hm _ => ev_var (getS_set_eq _ _ _ hl)
    rw [List.map_id''] at e
    · have hk : (xs.filter fun x => !okc x).all (okN 59) = true := by
        have := sm_ok hs 59
        rw [List.all_eq_true] at this ⊢
        exact fun x hx => this x (List.mem_filter.mp hx).1
      have := evI_nil e hk
      rw [filt_allD] at this
      exact this
    · exact fun _ => rfl
  · exact stp (ifF (alk (x := .bool false) (ev_call1 (ev_var h) (s2n 59 ht o)) (ev_andF (ev_bi1 (ev_var h) (bi_isT ht))) rfl rfl) (evSs_nil' _ _ _)) (evSs_nil' _ _ _)
theorem all_ints (cs : List Int) : (cs.map D.int).all sm = true := by
  rw [List.all_eq_true]
  intro x hx
  obtain ⟨i, _, rfl⟩ := List.mem_map.mp hx
  rfl
theorem st26 (ρ : Env) (o : Or) (hl : ρ.length = 29) {cs ds : List Int} {a h : Nat} (B : Base ρ cs ds a h) : Gd 29 (evSs (C 60) (bT.drop 26) ρ o) fun ρ _ => getS ρ 1 = .val .tok := by
  obtain ⟨a0, a1, a2, a3, a4, a5, a6, a7, a8, a9, a10, a11, a12, a13, a14, a15, a16, a17, a18, a19, a20, a21, a22, a23, a24, a25, a26, a27, a28, rfl⟩ := list29 hl
  obtain ⟨hw, e4, e5, e6, e8, c0, c1, d0, d1, ha, cp, cq⟩ := B
  obtain rfl : a1 = .val .tok := hw
  obtain rfl : a4 = .val (TI cs) := e4
  have ha : ∀ x : D, op2 .add (TI cs) (.tup [x]) = some (.tup (cs.map .int ++ [x])) := fun x => by rw [TI, op2_add_tup (by simp; rw [cap_v]; omega)]
  have L := forM_inv (xs := [TI cs, .tup [], .non, .lst (cs.map .int), .tup (cs.map .int ++ [.int 0]), .tup (cs.map .int ++ [.bool true]), .tup (cs.map .int ++ [.int 7]), .tup (cs.map .int ++ [.non])]) (f := fun x ρ o => evSs (C 60) bQ (setS ρ 25 (.val x)) o)
    (I := fun r ρ o' => o' = o ∧ (∀ x ∈ r, QT x) ∧ ∃ y, ρ = [a0, .val .tok, a2, a3, .val (TI cs), a5, a6, a7, a8, a9, a10, a11, a12, a13, a14, a15, a16, a17, a18, a19, a20, a21, a22, a23, a24, y, a26, a27, a28])
    (fun x r ρ o' ⟨ho, hq, y, hρ⟩ => by
      subst ho
      subst hρ
      exact ⟨_, _, .inl (bQ_ok (hq x (by simp)) _ _ (by show 27 < 29; decide) rfl), rfl, fun z hz => hq z (by simp [hz]), .val x, rfl⟩)
    (ρ := [a0, .val .tok, a2, a3, .val (TI cs), a5, a6, a7, a8, a9, a10, a11, a12, a13, a14, a15, a16, a17, a18, a19, a20, a21, a22, a23, a24, a25, a26, a27, a28]) (o := o)
    ⟨rfl, by
      have hi := all_ints cs
      have hs : ∀ x : D, sm x = true → QT (.tup (cs.map .int ++ [x])) := fun x hx => .inl ⟨_, rfl, by rw [List.all_append, hi]; simp [hx]⟩
      intro x hx
      simp only [List.mem_cons, List.not_mem_nil, or_false] at hx
      rcases hx with rfl | rfl | rfl | rfl | rfl | rfl | rfl | rfl
      · exact .inl ⟨_, rfl, hi⟩
      · exact .inl ⟨_, rfl, rfl⟩
      · exact .inr rfl
      · exact .inr rfl
      · exact hs _ rfl
      · exact hs _ rfl
      · exact hs _ rfl
      · exact hs _ rfl, a25, rfl⟩
  obtain ⟨ρ', o', e, rfl, _, y, rfl⟩ := L
  refine stpG (st_forT (ev_tup (evs_cons (ev_var rfl) (evs_cons (ev_tup evs_nil) (evs_cons ev_cst (evs_cons (ev_bi1 (x := TI cs) (ev_var rfl) (bi_list_tup _)) (evs_cons (ev_op2 (ev_var rfl) (ev_tup (evs_cons ev_cst evs_nil)) (ha _)) (evs_cons (ev_op2 (ev_var rfl) (ev_tup (evs_cons ev_cst evs_nil)) (ha _)) (evs_cons (ev_op2 (ev_var rfl) (ev_tup (evs_cons ev_cst evs_nil)) (ha _)) (evs_cons (ev_op2 (ev_var rfl) (ev_tup (evs_cons ev_cst evs_nil)) (ha _)) evs_nil))))))))) e) ?_
  exact ⟨_, _, evSs_nil' _ _ _, rfl, rfl⟩
/-- one turn -/
theorem turn_ok (ρ : Env) (o : Or) (hl : ρ.length = 29) (hw : getS ρ 1 = .val .tok) : Gd 29 (evSs (C 60) bT ρ o) fun ρ _ => getS ρ 1 = .val .tok := by
  rw [show bT = bT.take 5 ++ ((bT.drop 5).take 4 ++ ((bT.drop 9).take 3 ++ ((bT.drop 12).take 5 ++ ((bT.drop 17).take 3 ++ ((bT.drop 20).take 5 ++ ((bT.drop 25).take 1 ++ bT.drop 26)))))) from rfl]
  refine segG (segA ρ o hl hw) fun ρ o hl ⟨cs, ds, a, h, B, t, ht, h9⟩ => ?_
  refine segG (segB ρ o hl B ht h9) fun ρ o hl B => ?_
  refine segG (segC ρ o hl B) fun ρ o hl B => ?_
  refine segG (segD ρ o hl B) fun ρ o hl B => ?_
  refine segG (segE ρ o hl B) fun ρ o hl B => ?_
  refine segG (segF ρ o hl B) fun ρ o hl ⟨B, row, h14, h20, hr⟩ => ?_
  refine segG (st25 ρ o hl B h14 h20 hr) fun ρ o hl B => ?_
  exact st26 ρ o hl B
/-- the plain law -/
theorem plain : Plain 60 := by
  intro script hs
  obtain ⟨ns, e1⟩ := draws_ok (T := tab) (f := 16) rfl 59 script hs 600 (by decide) []
  refine ⟨ns, [], ?_, ?_⟩
  · exact ev_call2 (ev_var rfl) ev_cst e1
  · have L := forM_RI (n := 8) (f := fun x ρ o => evSs (C 60) bT (setS ρ 2 (.val x)) o) (I := fun _ ρ _ => ρ.length = 29 ∧ getS ρ 1 = .val .tok) (ρ := setS (startS 29 [.lst (script.map D.int)]) 1 (.val .tok)) (o := ns)
      (fun j hj ρ o' ⟨hl, hw⟩ => by
        obtain ⟨ρ1, o1, e, h1, h2⟩ := turn_ok (setS ρ 2 (.val (.int j))) o' (by rw [setS_len', hl]) (by rw [getS_set_ne _ _ _ _ (by decide)]; exact hw)
        exact ⟨ρ1, o1, .inl e, h1, h2⟩) ⟨rfl, rfl⟩
    obtain ⟨ρ', o', e, hl, hw⟩ := L
    refine ⟨o', ?_⟩
    exact stp (st_forI (ev_rangeN (n := 8) ev_cst (by decide)) e) (stR (st_ret ev_cst))
end Lk61

end
/-! text: k61_Walk.lean -/
section
set_option maxRecDepth 100000
set_option autoImplicit false
set_option maxHeartbeats 4000000
namespace Wk61
open PySem PySem.Spec PyProof.Rows L2 BV
open Lk61 (tab iDraws Plain plain i0 i1 i2 i3 i4 i5 i6 i7 i8 i9 i10 i11 i12 i13 i14 i15 i16 i17 i18 i19 i20 i21 i22)
def top (i : Nat) : Stmt := PySem.Challenge.pw_dialsread_k61_wheels_that_count.main.body.getD i (.Pass ⟨0, 0, 0, 0⟩)
abbrev s0 : Stmt := top 1
abbrev s1 : Stmt := top 2
abbrev s2 : Stmt := top 4
abbrev s3 : Stmt := top 5
abbrev s4 : Stmt := top 6
abbrev s5 : Stmt := top 7
abbrev s6 : Stmt := top 8
abbrev s7 : Stmt := top 9
abbrev s8 : Stmt := top 10
abbrev s9 : Stmt := top 11
abbrev s10 : Stmt := top 12
abbrev s11 : Stmt := top 13
abbrev s12 : Stmt := top 14
abbrev s13 : Stmt := top 15
abbrev s14 : Stmt := top 16
abbrev s15 : Stmt := top 17
abbrev s16 : Stmt := top 19
abbrev s17 : Stmt := top 20
abbrev s18 : Stmt := top 21
abbrev s19 : Stmt := top 22
abbrev s20 : Stmt := top 23
abbrev s21 : Stmt := top 24
abbrev s22 : Stmt := top 25
/-- no built-in name is stored by the program -/
structure Bn (mg : Str → Option Value) : Prop where
  abs : mg "abs" = none
  all : mg "all" = none
  any : mg "any" = none
  bool : mg "bool" = none
  int : mg "int" = none
  isinstance : mg "isinstance" = none
  len : mg "len" = none
  list : mg "list" = none
  min : mg "min" = none
  range : mg "range" = none
  str : mg "str" = none
  sum : mg "sum" = none
  tuple : mg "tuple" = none
abbrev XP0 : XPT := fun _ _ _ _ _ => False
section
variable {P : Program} {w : World} {K : PySem.W.Frag} {mg : Str → Option Value} {base : Heap} {k : Nat}
/-- what the top has left of the defs -/
structure Tx (K : PySem.W.Frag) (mg : Str → Option Value) : Prop where
  t0 : DefF K mg "is_number" s0 ["thing"]
  t1 : DefF K mg "is_from" s1 ["thing", "least"]
  t2 : DefF K mg "are_counts" s2 ["thing"]
  t3 : DefF K mg "struck" s3 ["counts", "at", "times"]
  t4 : DefF K mg "teeth_of" s4 ["counts"]
  t5 : DefF K mg "in_step" s5 ["counts", "due", "at", "hour"]
  t6 : DefF K mg "trips_to" s6 ["counts", "due", "at", "hour"]
  t7 : DefF K mg "strokes_to" s7 ["counts", "due", "at", "hour"]
  t8 : DefF K mg "places_heard" s8 ["counts", "heard"]
  t9 : DefF K mg "wrong_hours" s9 ["counts", "due", "at"]
  t10 : DefF K mg "best_place" s10 ["counts", "due"]
  t11 : DefF K mg "is_round" s11 ["counts", "due"]
  t12 : DefF K mg "wheel_for" s12 ["due"]
  t13 : DefF K mg "after_strokes" s13 ["counts", "at", "strokes"]
  t14 : DefF K mg "lost_step" s14 ["counts", "due", "hours", "missed"]
  t15 : DefF K mg "misses_for" s15 ["counts", "heard"]
  t16 : DefF K mg "_law_draws" s16 ["script", "many"]
  t17 : DefF K mg "_law_next" s17 ["w", "many"]
  t18 : DefF K mg "_law_pick" s18 ["w", "rows"]
  t19 : DefF K mg "_law_alike" s19 ["given", "due"]
  t20 : DefF K mg "_law_at" s20 ["counts", "k"]
  t21 : DefF K mg "_law_steps" s21 ["counts", "due", "at", "hour"]
structure Ev (P : Program) (w : World) (K : PySem.W.Frag) (mg : Str → Option Value) (base : Heap) (k : Nat) : Prop where
  d0 : DefAt P w K mg base tab XP0 k "is_number" 0 1
  d1 : DefAt P w K mg base tab XP0 k "is_from" 1 2
  d2 : DefAt P w K mg base tab XP0 k "are_counts" 2 1
  d3 : DefAt P w K mg base tab XP0 k "struck" 3 3
  d4 : DefAt P w K mg base tab XP0 k "teeth_of" 4 1
  d5 : DefAt P w K mg base tab XP0 k "in_step" 5 4
  d6 : DefAt P w K mg base tab XP0 k "trips_to" 6 4
  d7 : DefAt P w K mg base tab XP0 k "strokes_to" 7 4
  d8 : DefAt P w K mg base tab XP0 k "places_heard" 8 2
  d9 : DefAt P w K mg base tab XP0 k "wrong_hours" 9 3
  d10 : DefAt P w K mg base tab XP0 k "best_place" 10 2
  d11 : DefAt P w K mg base tab XP0 k "is_round" 11 2
  d12 : DefAt P w K mg base tab XP0 k "wheel_for" 12 1
  d13 : DefAt P w K mg base tab XP0 k "after_strokes" 13 3
  d14 : DefAt P w K mg base tab XP0 k "lost_step" 14 4
  d15 : DefAt P w K mg base tab XP0 k "misses_for" 15 2
  d16 : DefAt P w K mg base tab XP0 k "_law_draws" 16 2
  d17 : DefAt P w K mg base tab XP0 k "_law_next" 17 2
  d18 : DefAt P w K mg base tab XP0 k "_law_pick" 18 2
  d19 : DefAt P w K mg base tab XP0 k "_law_alike" 19 2
  d20 : DefAt P w K mg base tab XP0 k "_law_at" 20 2
  d21 : DefAt P w K mg base tab XP0 k "_law_steps" 21 4
theorem c0 : FnScope ["thing"] ["thing"] (defScope s0) := ⟨rfl, rfl, rfl, by decide +kernel, rfl, by decide +kernel, by decide +kernel⟩
theorem b0 (B : Bn mg) (E : Ev P w K mg base k) (f : Addr) (cdv : Value) (A : Around) (outer : List PySem.Env) (s : Shared) (H : Hp) (E0 : XK) (hr : Room k (A.deeper (envOfC "is_number" (defScope s0) s.heap.objs.size f cdv))) :
    BSs (cxOf (L2.CX P w) P w K mg base ["thing"] "is_number" (defScope s0) f cdv A outer s H E0) (pgK tab XP0 k) (fun cls d _ H' => E0 cls d H') (defBody s0) i0 := by
  have tk : Takes (cxOf (L2.CX P w) P w K mg base ["thing"] "is_number" (defScope s0) f cdv A outer s H E0) (fun cls d _ H' => E0 cls d H') := takes_of rfl rfl rfl rfl
  have hp : PassesOwn (model P w) (cxOf (L2.CX P w) P w K mg base ["thing"] "is_number" (defScope s0) f cdv A outer s H E0).A (cxOf (L2.CX P w) P w K mg base ["thing"] "is_number" (defScope s0) f cdv A outer s H E0).env (cxOf (L2.CX P w) P w K mg base ["thing"] "is_number" (defScope s0) f cdv A outer s H E0).xe := passes_of rfl
  have nd := c0.nd
  exact (bss_cons (bs_ret (be_and (be_isi (t := .int) rfl B.isinstance bt_isinstance rfl B.int bt_int (BB.of (be_var 0))) (be_and1 (be_not (BB.of (be_isi (t := .bool) rfl B.isinstance bt_isinstance rfl B.bool bt_bool (BB.of (be_var 0))))))))
    bss_nil)
theorem c1 : FnScope ["thing", "least"] ["thing", "least"] (defScope s1) := ⟨rfl, rfl, rfl, by decide +kernel, rfl, by decide +kernel, by decide +kernel⟩
theorem b1 (B : Bn mg) (E : Ev P w K mg base k) (f : Addr) (cdv : Value) (A : Around) (outer : List PySem.Env) (s : Shared) (H : Hp) (E0 : XK) (hr : Room k (A.deeper (envOfC "is_from" (defScope s1) s.heap.objs.size f cdv))) :
    BSs (cxOf (L2.CX P w) P w K mg base ["thing", "least"] "is_from" (defScope s1) f cdv A outer s H E0) (pgK tab XP0 k) (fun cls d _ H' => E0 cls d H') (defBody s1) i1 := by
  have tk : Takes (cxOf (L2.CX P w) P w K mg base ["thing", "least"] "is_from" (defScope s1) f cdv A outer s H E0) (fun cls d _ H' => E0 cls d H') := takes_of rfl rfl rfl rfl
  have hp : PassesOwn (model P w) (cxOf (L2.CX P w) P w K mg base ["thing", "least"] "is_from" (defScope s1) f cdv A outer s H E0).A (cxOf (L2.CX P w) P w K mg base ["thing", "least"] "is_from" (defScope s1) f cdv A outer s H E0).env (cxOf (L2.CX P w) P w K mg base ["thing", "least"] "is_from" (defScope s1) f cdv A outer s H E0).xe := passes_of rfl
  have nd := c1.nd
  exact (bss_cons (bs_ret (be_and (be_callD E.d0 hr tk (be_cons (be_var 0) be_nil)) (be_and1 (be_cmp (o_ge) (BB.of (be_var 0)) (BB.of (be_var 1)) (nomark _)))))
    bss_nil)
theorem c2 : FnScope ["thing", "one"] ["thing"] (defScope s2) := ⟨rfl, rfl, rfl, by decide +kernel, rfl, by decide +kernel, by decide +kernel⟩
theorem b2 (B : Bn mg) (E : Ev P w K mg base k) (f : Addr) (cdv : Value) (A : Around) (outer : List PySem.Env) (s : Shared) (H : Hp) (E0 : XK) (hr : Room k (A.deeper (envOfC "are_counts" (defScope s2) s.heap.objs.size f cdv))) :
    BSs (cxOf (L2.CX P w) P w K mg base ["thing", "one"] "are_counts" (defScope s2) f cdv A outer s H E0) (pgK tab XP0 k) (fun cls d _ H' => E0 cls d H') (defBody s2) i2 := by
  have tk : Takes (cxOf (L2.CX P w) P w K mg base ["thing", "one"] "are_counts" (defScope s2) f cdv A outer s H E0) (fun cls d _ H' => E0 cls d H') := takes_of rfl rfl rfl rfl
  have hp : PassesOwn (model P w) (cxOf (L2.CX P w) P w K mg base ["thing", "one"] "are_counts" (defScope s2) f cdv A outer s H E0).A (cxOf (L2.CX P w) P w K mg base ["thing", "one"] "are_counts" (defScope s2) f cdv A outer s H E0).env (cxOf (L2.CX P w) P w K mg base ["thing", "one"] "are_counts" (defScope s2) f cdv A outer s H E0).xe := passes_of rfl
  have nd := c2.nd
  exact (bss_cons (bs_ret (be_and (be_isi (t := .tup) rfl B.isinstance bt_isinstance rfl B.tuple bt_tuple (BB.of (be_var 0))) (be_and (be_cmp (o_ne hr.units) (BB.of (be_var 0)) (BB.of (be_tup be_nil)) (nomark _)) (be_and1 (be_bi (c_all rfl) rfl B.all bt_all (be_consB (BB.of (be_comp rfl nd (bi_seqB (BB.of (be_var 0))) (blkOk_by (N := ["thing", "one"]) (sc := defScope s2) (own := [("one", 1)]) (by decide +kernel)) rfl (fun _ _ _ _ _ => (bg_slot 1 nd)) (fun _ _ _ _ _ => bts_nil) (fun _ _ _ _ _ => (be_callD E.d1 hr takes0 (be_cons (be_var 1) (be_cons be_int be_nil)))))) be_nilB))))))
    bss_nil)
theorem c3 : FnScope ["counts", "at", "times", "k"] ["counts", "at", "times"] (defScope s3) := ⟨rfl, rfl, rfl, by decide +kernel, rfl, by decide +kernel, by decide +kernel⟩
theorem b3 (B : Bn mg) (E : Ev P w K mg base k) (f : Addr) (cdv : Value) (A : Around) (outer : List PySem.Env) (s : Shared) (H : Hp) (E0 : XK) (hr : Room k (A.deeper (envOfC "struck" (defScope s3) s.heap.objs.size f cdv))) :
    BSs (cxOf (L2.CX P w) P w K mg base ["counts", "at", "times", "k"] "struck" (defScope s3) f cdv A outer s H E0) (pgK tab XP0 k) (fun cls d _ H' => E0 cls d H') (defBody s3) i3 := by
  have tk : Takes (cxOf (L2.CX P w) P w K mg base ["counts", "at", "times", "k"] "struck" (defScope s3) f cdv A outer s H E0) (fun cls d _ H' => E0 cls d H') := takes_of rfl rfl rfl rfl
  have hp : PassesOwn (model P w) (cxOf (L2.CX P w) P w K mg base ["counts", "at", "times", "k"] "struck" (defScope s3) f cdv A outer s H E0).A (cxOf (L2.CX P w) P w K mg base ["counts", "at", "times", "k"] "struck" (defScope s3) f cdv A outer s H E0).env (cxOf (L2.CX P w) P w K mg base ["counts", "at", "times", "k"] "struck" (defScope s3) f cdv A outer s H E0).xe := passes_of rfl
  have nd := c3.nd
  exact (bss_cons (bs_ret (be_ty c_tuple rfl B.tuple bt_tuple (be_consB (BB.of (be_comp rfl nd (bi_range1 rfl B.range (be_consB (BB.of (be_var 2)) be_nilB)) (blkOk_by (N := ["counts", "at", "times", "k"]) (sc := defScope s3) (own := [("k", 3)]) (by decide +kernel)) rfl (fun _ _ _ _ _ => (bg_slot 3 nd)) (fun _ _ _ _ _ => bts_nil) (fun _ _ _ _ _ => (be_ix (BB.of (be_var 0)) (BB.of (be_op o_mod (BB.of (be_op o_add (BB.of (be_var 1)) (BB.of (be_var 3)))) (BB.of (be_bi c_len rfl B.len bt_len (be_consB (BB.of (be_var 0)) be_nilB))))))))) be_nilB)))
    bss_nil)
theorem c4 : FnScope ["counts", "found", "total", "count"] ["counts"] (defScope s4) := ⟨rfl, rfl, rfl, by decide +kernel, rfl, by decide +kernel, by decide +kernel⟩
theorem b4 (B : Bn mg) (E : Ev P w K mg base k) (f : Addr) (cdv : Value) (A : Around) (outer : List PySem.Env) (s : Shared) (H : Hp) (E0 : XK) (hr : Room k (A.deeper (envOfC "teeth_of" (defScope s4) s.heap.objs.size f cdv))) :
    BSs (cxOf (L2.CX P w) P w K mg base ["counts", "found", "total", "count"] "teeth_of" (defScope s4) f cdv A outer s H E0) (pgK tab XP0 k) (fun cls d _ H' => E0 cls d H') (defBody s4) i4 := by
  have tk : Takes (cxOf (L2.CX P w) P w K mg base ["counts", "found", "total", "count"] "teeth_of" (defScope s4) f cdv A outer s H E0) (fun cls d _ H' => E0 cls d H') := takes_of rfl rfl rfl rfl
  have hp : PassesOwn (model P w) (cxOf (L2.CX P w) P w K mg base ["counts", "found", "total", "count"] "teeth_of" (defScope s4) f cdv A outer s H E0).A (cxOf (L2.CX P w) P w K mg base ["counts", "found", "total", "count"] "teeth_of" (defScope s4) f cdv A outer s H E0).env (cxOf (L2.CX P w) P w K mg base ["counts", "found", "total", "count"] "teeth_of" (defScope s4) f cdv A outer s H E0).xe := passes_of rfl
  have nd := c4.nd
  exact (bss_cons (bs_par2 rfl nd rfl rfl (by decide) rfl rfl (pf_own (bf_lst be_nil) (pf_val be_int pf_nil)) rfl)
    (bss_cons (bs_for hp rfl (bi_seq (be_var 0)) (bg_slot 3 nd)
    (bss_cons (bs_app (j := 1) rfl (Or.inl rfl) (be_var 2))
    (bss_cons (bs_aug (j := 2) o_iadd nd rfl (Or.inl rfl) (be_var 3))
    bss_nil)))
    (bss_cons (bs_ret (be_tup (be_cons (be_var 2) (be_cons (be_ty c_tuple rfl B.tuple bt_tuple (be_consB (be_pk 1) be_nilB)) be_nil))))
    bss_nil)))
theorem c5 : FnScope ["counts", "due", "at", "hour", "round_of", "k"] ["counts", "due", "at", "hour"] (defScope s5) := ⟨rfl, rfl, rfl, by decide +kernel, rfl, by decide +kernel, by decide +kernel⟩
theorem b5 (B : Bn mg) (E : Ev P w K mg base k) (f : Addr) (cdv : Value) (A : Around) (outer : List PySem.Env) (s : Shared) (H : Hp) (E0 : XK) (hr : Room k (A.deeper (envOfC "in_step" (defScope s5) s.heap.objs.size f cdv))) :
    BSs (cxOf (L2.CX P w) P w K mg base ["counts", "due", "at", "hour", "round_of", "k"] "in_step" (defScope s5) f cdv A outer s H E0) (pgK tab XP0 k) (fun cls d _ H' => E0 cls d H') (defBody s5) i5 := by
  have tk : Takes (cxOf (L2.CX P w) P w K mg base ["counts", "due", "at", "hour", "round_of", "k"] "in_step" (defScope s5) f cdv A outer s H E0) (fun cls d _ H' => E0 cls d H') := takes_of rfl rfl rfl rfl
  have hp : PassesOwn (model P w) (cxOf (L2.CX P w) P w K mg base ["counts", "due", "at", "hour", "round_of", "k"] "in_step" (defScope s5) f cdv A outer s H E0).A (cxOf (L2.CX P w) P w K mg base ["counts", "due", "at", "hour", "round_of", "k"] "in_step" (defScope s5) f cdv A outer s H E0).env (cxOf (L2.CX P w) P w K mg base ["counts", "due", "at", "hour", "round_of", "k"] "in_step" (defScope s5) f cdv A outer s H E0).xe := passes_of rfl
  have nd := c5.nd
  exact (bss_cons (bs_set (j := 4) nd rfl (Or.inl rfl) (be_op o_mul (BB.of (be_bi c_len rfl B.len bt_len (be_consB (BB.of (be_var 0)) be_nilB))) (BB.of (be_bi c_len rfl B.len bt_len (be_consB (BB.of (be_var 1)) be_nilB)))))
    (bss_cons (bs_ret (be_bi (c_all rfl) rfl B.all bt_all (be_consB (BB.of (be_comp rfl nd (bi_range1 rfl B.range (be_consB (BB.of (be_var 4)) be_nilB)) (blkOk_by (N := ["counts", "due", "at", "hour", "round_of", "k"]) (sc := defScope s5) (own := [("k", 5)]) (by decide +kernel)) rfl (fun _ _ _ _ _ => (bg_slot 5 nd)) (fun _ _ _ _ _ => bts_nil) (fun _ _ _ _ _ => (be_cmp (o_eq hr.units) (BB.of (be_ix (BB.of (be_var 0)) (BB.of (be_op o_mod (BB.of (be_op o_add (BB.of (be_var 2)) (BB.of (be_var 5)))) (BB.of (be_bi c_len rfl B.len bt_len (be_consB (BB.of (be_var 0)) be_nilB))))))) (BB.of (be_ix (BB.of (be_var 1)) (BB.of (be_op o_mod (BB.of (be_op o_add (BB.of (be_var 3)) (BB.of (be_var 5)))) (BB.of (be_bi c_len rfl B.len bt_len (be_consB (BB.of (be_var 1)) be_nilB))))))) (nomark _))))) be_nilB)))
    bss_nil))
theorem c6 : FnScope ["counts", "due", "at", "hour", "many"] ["counts", "due", "at", "hour"] (defScope s6) := ⟨rfl, rfl, rfl, by decide +kernel, rfl, by decide +kernel, by decide +kernel⟩
theorem b6 (B : Bn mg) (E : Ev P w K mg base k) (f : Addr) (cdv : Value) (A : Around) (outer : List PySem.Env) (s : Shared) (H : Hp) (E0 : XK) (hr : Room k (A.deeper (envOfC "trips_to" (defScope s6) s.heap.objs.size f cdv))) :
    BSs (cxOf (L2.CX P w) P w K mg base ["counts", "due", "at", "hour", "many"] "trips_to" (defScope s6) f cdv A outer s H E0) (pgK tab XP0 k) (fun cls d _ H' => E0 cls d H') (defBody s6) i6 := by
  have tk : Takes (cxOf (L2.CX P w) P w K mg base ["counts", "due", "at", "hour", "many"] "trips_to" (defScope s6) f cdv A outer s H E0) (fun cls d _ H' => E0 cls d H') := takes_of rfl rfl rfl rfl
  have hp : PassesOwn (model P w) (cxOf (L2.CX P w) P w K mg base ["counts", "due", "at", "hour", "many"] "trips_to" (defScope s6) f cdv A outer s H E0).A (cxOf (L2.CX P w) P w K mg base ["counts", "due", "at", "hour", "many"] "trips_to" (defScope s6) f cdv A outer s H E0).env (cxOf (L2.CX P w) P w K mg base ["counts", "due", "at", "hour", "many"] "trips_to" (defScope s6) f cdv A outer s H E0).xe := passes_of rfl
  have nd := c6.nd
  exact (bss_cons (bs_for hp rfl (bi_range1 rfl B.range (be_consB (BB.of (be_bi c_len rfl B.len bt_len (be_consB (BB.of (be_var 0)) be_nilB))) be_nilB)) (bg_slot 4 nd)
    (bss_cons (bs_ifs (bt_val (BB.of (be_callD E.d5 hr tk (be_cons (be_var 0) (be_cons (be_var 1) (be_cons (be_op o_add (BB.of (be_var 2)) (BB.of (be_var 4))) (be_cons (be_var 3) be_nil)))))))
    (bss_cons (bs_ret (be_var 4))
    bss_nil)
    bss_nil)
    bss_nil))
    (bss_cons (bs_ret be_non)
    bss_nil))
theorem c7 : FnScope ["counts", "due", "at", "hour", "many"] ["counts", "due", "at", "hour"] (defScope s7) := ⟨rfl, rfl, rfl, by decide +kernel, rfl, by decide +kernel, by decide +kernel⟩
theorem b7 (B : Bn mg) (E : Ev P w K mg base k) (f : Addr) (cdv : Value) (A : Around) (outer : List PySem.Env) (s : Shared) (H : Hp) (E0 : XK) (hr : Room k (A.deeper (envOfC "strokes_to" (defScope s7) s.heap.objs.size f cdv))) :
    BSs (cxOf (L2.CX P w) P w K mg base ["counts", "due", "at", "hour", "many"] "strokes_to" (defScope s7) f cdv A outer s H E0) (pgK tab XP0 k) (fun cls d _ H' => E0 cls d H') (defBody s7) i7 := by
  have tk : Takes (cxOf (L2.CX P w) P w K mg base ["counts", "due", "at", "hour", "many"] "strokes_to" (defScope s7) f cdv A outer s H E0) (fun cls d _ H' => E0 cls d H') := takes_of rfl rfl rfl rfl
  have hp : PassesOwn (model P w) (cxOf (L2.CX P w) P w K mg base ["counts", "due", "at", "hour", "many"] "strokes_to" (defScope s7) f cdv A outer s H E0).A (cxOf (L2.CX P w) P w K mg base ["counts", "due", "at", "hour", "many"] "strokes_to" (defScope s7) f cdv A outer s H E0).env (cxOf (L2.CX P w) P w K mg base ["counts", "due", "at", "hour", "many"] "strokes_to" (defScope s7) f cdv A outer s H E0).xe := passes_of rfl
  have nd := c7.nd
  exact (bss_cons (bs_set (j := 4) nd rfl (Or.inl rfl) (be_callD E.d6 hr tk (be_cons (be_var 0) (be_cons (be_var 1) (be_cons (be_var 2) (be_cons (be_var 3) be_nil))))))
    (bss_cons (bs_ret (be_ite (bt_cmp (o_is) (BB.of (be_var 4)) (BB.of be_non) (nomark _)) be_non (be_bi (c_sum rfl) rfl B.sum bt_sum (be_consB (BB.of (be_callD E.d3 hr tk (be_cons (be_var 0) (be_cons (be_var 2) (be_cons (be_var 4) be_nil))))) be_nilB))))
    bss_nil))
theorem c8 : FnScope ["counts", "heard", "at"] ["counts", "heard"] (defScope s8) := ⟨rfl, rfl, rfl, by decide +kernel, rfl, by decide +kernel, by decide +kernel⟩
theorem b8 (B : Bn mg) (E : Ev P w K mg base k) (f : Addr) (cdv : Value) (A : Around) (outer : List PySem.Env) (s : Shared) (H : Hp) (E0 : XK) (hr : Room k (A.deeper (envOfC "places_heard" (defScope s8) s.heap.objs.size f cdv))) :
    BSs (cxOf (L2.CX P w) P w K mg base ["counts", "heard", "at"] "places_heard" (defScope s8) f cdv A outer s H E0) (pgK tab XP0 k) (fun cls d _ H' => E0 cls d H') (defBody s8) i8 := by
  have tk : Takes (cxOf (L2.CX P w) P w K mg base ["counts", "heard", "at"] "places_heard" (defScope s8) f cdv A outer s H E0) (fun cls d _ H' => E0 cls d H') := takes_of rfl rfl rfl rfl
  have hp : PassesOwn (model P w) (cxOf (L2.CX P w) P w K mg base ["counts", "heard", "at"] "places_heard" (defScope s8) f cdv A outer s H E0).A (cxOf (L2.CX P w) P w K mg base ["counts", "heard", "at"] "places_heard" (defScope s8) f cdv A outer s H E0).env (cxOf (L2.CX P w) P w K mg base ["counts", "heard", "at"] "places_heard" (defScope s8) f cdv A outer s H E0).xe := passes_of rfl
  have nd := c8.nd
  exact (bss_cons (bs_ret (be_ty c_tuple rfl B.tuple bt_tuple (be_consB (BB.of (be_comp rfl nd (bi_range1 rfl B.range (be_consB (BB.of (be_bi c_len rfl B.len bt_len (be_consB (BB.of (be_var 0)) be_nilB))) be_nilB)) (blkOk_by (N := ["counts", "heard", "at"]) (sc := defScope s8) (own := [("at", 2)]) (by decide +kernel)) rfl (fun _ _ _ _ _ => (bg_slot 2 nd)) (fun _ _ _ _ _ => (bts_one (bt_cmp (o_eq hr.units) (BB.of (be_callD E.d3 hr takes0 (be_cons (be_var 0) (be_cons (be_var 2) (be_cons (be_bi c_len rfl B.len bt_len (be_consB (BB.of (be_var 1)) be_nilB)) be_nil))))) (BB.of (be_ty c_tuple rfl B.tuple bt_tuple (be_consB (BB.of (be_var 1)) be_nilB))) (nomark _)))) (fun _ _ _ _ _ => (be_var 2)))) be_nilB)))
    bss_nil)
theorem c9 : FnScope ["counts", "due", "at", "hour"] ["counts", "due", "at"] (defScope s9) := ⟨rfl, rfl, rfl, by decide +kernel, rfl, by decide +kernel, by decide +kernel⟩
theorem b9 (B : Bn mg) (E : Ev P w K mg base k) (f : Addr) (cdv : Value) (A : Around) (outer : List PySem.Env) (s : Shared) (H : Hp) (E0 : XK) (hr : Room k (A.deeper (envOfC "wrong_hours" (defScope s9) s.heap.objs.size f cdv))) :
    BSs (cxOf (L2.CX P w) P w K mg base ["counts", "due", "at", "hour"] "wrong_hours" (defScope s9) f cdv A outer s H E0) (pgK tab XP0 k) (fun cls d _ H' => E0 cls d H') (defBody s9) i9 := by
  have tk : Takes (cxOf (L2.CX P w) P w K mg base ["counts", "due", "at", "hour"] "wrong_hours" (defScope s9) f cdv A outer s H E0) (fun cls d _ H' => E0 cls d H') := takes_of rfl rfl rfl rfl
  have hp : PassesOwn (model P w) (cxOf (L2.CX P w) P w K mg base ["counts", "due", "at", "hour"] "wrong_hours" (defScope s9) f cdv A outer s H E0).A (cxOf (L2.CX P w) P w K mg base ["counts", "due", "at", "hour"] "wrong_hours" (defScope s9) f cdv A outer s H E0).env (cxOf (L2.CX P w) P w K mg base ["counts", "due", "at", "hour"] "wrong_hours" (defScope s9) f cdv A outer s H E0).xe := passes_of rfl
  have nd := c9.nd
  exact (bss_cons (bs_ret (be_ty c_tuple rfl B.tuple bt_tuple (be_consB (BB.of (be_comp rfl nd (bi_range1 rfl B.range (be_consB (BB.of (be_bi c_len rfl B.len bt_len (be_consB (BB.of (be_var 1)) be_nilB))) be_nilB)) (blkOk_by (N := ["counts", "due", "at", "hour"]) (sc := defScope s9) (own := [("hour", 3)]) (by decide +kernel)) rfl (fun _ _ _ _ _ => (bg_slot 3 nd)) (fun _ _ _ _ _ => (bts_one (bt_cmp (o_ne hr.units) (BB.of (be_ix (BB.of (be_var 0)) (BB.of (be_op o_mod (BB.of (be_op o_add (BB.of (be_var 2)) (BB.of (be_var 3)))) (BB.of (be_bi c_len rfl B.len bt_len (be_consB (BB.of (be_var 0)) be_nilB))))))) (BB.of (be_ix (BB.of (be_var 1)) (BB.of (be_var 3)))) (nomark _)))) (fun _ _ _ _ _ => (be_var 3)))) be_nilB)))
    bss_nil)
theorem c10 : FnScope ["counts", "due", "told", "at"] ["counts", "due"] (defScope s10) := ⟨rfl, rfl, rfl, by decide +kernel, rfl, by decide +kernel, by decide +kernel⟩
theorem b10 (B : Bn mg) (E : Ev P w K mg base k) (f : Addr) (cdv : Value) (A : Around) (outer : List PySem.Env) (s : Shared) (H : Hp) (E0 : XK) (hr : Room k (A.deeper (envOfC "best_place" (defScope s10) s.heap.objs.size f cdv))) :
    BSs (cxOf (L2.CX P w) P w K mg base ["counts", "due", "told", "at"] "best_place" (defScope s10) f cdv A outer s H E0) (pgK tab XP0 k) (fun cls d _ H' => E0 cls d H') (defBody s10) i10 := by
  have tk : Takes (cxOf (L2.CX P w) P w K mg base ["counts", "due", "told", "at"] "best_place" (defScope s10) f cdv A outer s H E0) (fun cls d _ H' => E0 cls d H') := takes_of rfl rfl rfl rfl
  have hp : PassesOwn (model P w) (cxOf (L2.CX P w) P w K mg base ["counts", "due", "told", "at"] "best_place" (defScope s10) f cdv A outer s H E0).A (cxOf (L2.CX P w) P w K mg base ["counts", "due", "told", "at"] "best_place" (defScope s10) f cdv A outer s H E0).env (cxOf (L2.CX P w) P w K mg base ["counts", "due", "told", "at"] "best_place" (defScope s10) f cdv A outer s H E0).xe := passes_of rfl
  have nd := c10.nd
  exact (bss_cons (bs_setC (j := 2) rfl nd rfl rfl (sw_true rfl rfl rfl (by decide +kernel)) (bi_range1 rfl B.range (be_consB (BB.of (be_bi c_len rfl B.len bt_len (be_consB (BB.of (be_var 0)) be_nilB))) be_nilB)) (blkOk_by (N := ["counts", "due", "told", "at"]) (sc := defScope s10) (own := [("at", 3)]) (by decide +kernel)) rfl (fun _ _ _ _ _ => (bg_slot 3 nd)) (fun _ _ _ _ _ => bts_nil) (fun _ _ _ _ _ => (be_bi c_len rfl B.len bt_len (be_consB (BB.of (be_callD E.d9 hr takes0 (be_cons (be_var 0) (be_cons (be_var 1) (be_cons (be_var 3) be_nil))))) be_nilB))))
    (bss_cons (bs_ret (be_tup (be_cons (be_index (BB.of (be_var 2)) (BB.of (be_bi (c_min1 rfl) rfl B.min bt_min (be_consB (BB.of (be_var 2)) be_nilB)))) (be_cons (be_bi (c_min1 rfl) rfl B.min bt_min (be_consB (BB.of (be_var 2)) be_nilB)) be_nil))))
    bss_nil))
theorem c11 : FnScope ["counts", "due", "at"] ["counts", "due"] (defScope s11) := ⟨rfl, rfl, rfl, by decide +kernel, rfl, by decide +kernel, by decide +kernel⟩
theorem b11 (B : Bn mg) (E : Ev P w K mg base k) (f : Addr) (cdv : Value) (A : Around) (outer : List PySem.Env) (s : Shared) (H : Hp) (E0 : XK) (hr : Room k (A.deeper (envOfC "is_round" (defScope s11) s.heap.objs.size f cdv))) :
    BSs (cxOf (L2.CX P w) P w K mg base ["counts", "due", "at"] "is_round" (defScope s11) f cdv A outer s H E0) (pgK tab XP0 k) (fun cls d _ H' => E0 cls d H') (defBody s11) i11 := by
  have tk : Takes (cxOf (L2.CX P w) P w K mg base ["counts", "due", "at"] "is_round" (defScope s11) f cdv A outer s H E0) (fun cls d _ H' => E0 cls d H') := takes_of rfl rfl rfl rfl
  have hp : PassesOwn (model P w) (cxOf (L2.CX P w) P w K mg base ["counts", "due", "at"] "is_round" (defScope s11) f cdv A outer s H E0).A (cxOf (L2.CX P w) P w K mg base ["counts", "due", "at"] "is_round" (defScope s11) f cdv A outer s H E0).env (cxOf (L2.CX P w) P w K mg base ["counts", "due", "at"] "is_round" (defScope s11) f cdv A outer s H E0).xe := passes_of rfl
  have nd := c11.nd
  exact (bss_cons (bs_ret (be_and (be_cmp (o_eq hr.units) (BB.of (be_bi c_len rfl B.len bt_len (be_consB (BB.of (be_var 0)) be_nilB))) (BB.of (be_bi c_len rfl B.len bt_len (be_consB (BB.of (be_var 1)) be_nilB))) (nomark _)) (be_and1 (be_bi (c_any rfl) rfl B.any bt_any (be_consB (BB.of (be_comp rfl nd (bi_range1 rfl B.range (be_consB (BB.of (be_bi c_len rfl B.len bt_len (be_consB (BB.of (be_var 0)) be_nilB))) be_nilB)) (blkOk_by (N := ["counts", "due", "at"]) (sc := defScope s11) (own := [("at", 2)]) (by decide +kernel)) rfl (fun _ _ _ _ _ => (bg_slot 2 nd)) (fun _ _ _ _ _ => bts_nil) (fun _ _ _ _ _ => (be_cmp (o_eq hr.units) (BB.of (be_callD E.d3 hr takes0 (be_cons (be_var 0) (be_cons (be_var 2) (be_cons (be_bi c_len rfl B.len bt_len (be_consB (BB.of (be_var 1)) be_nilB)) be_nil))))) (BB.of (be_ty c_tuple rfl B.tuple bt_tuple (be_consB (BB.of (be_var 1)) be_nilB))) (nomark _))))) be_nilB)))))
    bss_nil)
theorem c12 : FnScope ["due", "size"] ["due"] (defScope s12) := ⟨rfl, rfl, rfl, by decide +kernel, rfl, by decide +kernel, by decide +kernel⟩
theorem b12 (B : Bn mg) (E : Ev P w K mg base k) (f : Addr) (cdv : Value) (A : Around) (outer : List PySem.Env) (s : Shared) (H : Hp) (E0 : XK) (hr : Room k (A.deeper (envOfC "wheel_for" (defScope s12) s.heap.objs.size f cdv))) :
    BSs (cxOf (L2.CX P w) P w K mg base ["due", "size"] "wheel_for" (defScope s12) f cdv A outer s H E0) (pgK tab XP0 k) (fun cls d _ H' => E0 cls d H') (defBody s12) i12 := by
  have tk : Takes (cxOf (L2.CX P w) P w K mg base ["due", "size"] "wheel_for" (defScope s12) f cdv A outer s H E0) (fun cls d _ H' => E0 cls d H') := takes_of rfl rfl rfl rfl
  have hp : PassesOwn (model P w) (cxOf (L2.CX P w) P w K mg base ["due", "size"] "wheel_for" (defScope s12) f cdv A outer s H E0).A (cxOf (L2.CX P w) P w K mg base ["due", "size"] "wheel_for" (defScope s12) f cdv A outer s H E0).env (cxOf (L2.CX P w) P w K mg base ["due", "size"] "wheel_for" (defScope s12) f cdv A outer s H E0).xe := passes_of rfl
  have nd := c12.nd
  exact (bss_cons (bs_for hp rfl (bi_range2 rfl B.range (be_consB (BB.of be_int) (be_consB (BB.of (be_op o_add (BB.of (be_bi c_len rfl B.len bt_len (be_consB (BB.of (be_var 0)) be_nilB))) (BB.of be_int))) be_nilB))) (bg_slot 1 nd)
    (bss_cons (bs_ifs (PW.pt (bw_and (bt_cmp (o_eq hr.units) (BB.of (be_op o_mod (BB.of (be_bi c_len rfl B.len bt_len (be_consB (BB.of (be_var 0)) be_nilB))) (BB.of (be_var 1)))) (BB.of be_int) (nomark _)) (bw_and1 (bt_cmp (o_eq hr.units) (BB.of (be_var 0)) (BB.of (be_op o_mul (BB.of (be_slice (BB.of (be_var 0)) bo_none (bo_some (be_var 1)))) (BB.of (be_op o_fdiv (BB.of (be_bi c_len rfl B.len bt_len (be_consB (BB.of (be_var 0)) be_nilB))) (BB.of (be_var 1)))))) (nomark _)))))
    (bss_cons (bs_ret (be_slice (BB.of (be_var 0)) bo_none (bo_some (be_var 1))))
    bss_nil)
    bss_nil)
    bss_nil))
    (bss_cons (bs_ret (be_var 0))
    bss_nil))
theorem c13 : FnScope ["counts", "at", "strokes", "left", "k"] ["counts", "at", "strokes"] (defScope s13) := ⟨rfl, rfl, rfl, by decide +kernel, rfl, by decide +kernel, by decide +kernel⟩
theorem b13 (B : Bn mg) (E : Ev P w K mg base k) (f : Addr) (cdv : Value) (A : Around) (outer : List PySem.Env) (s : Shared) (H : Hp) (E0 : XK) (hr : Room k (A.deeper (envOfC "after_strokes" (defScope s13) s.heap.objs.size f cdv))) :
    BSs (cxOf (L2.CX P w) P w K mg base ["counts", "at", "strokes", "left", "k"] "after_strokes" (defScope s13) f cdv A outer s H E0) (pgK tab XP0 k) (fun cls d _ H' => E0 cls d H') (defBody s13) i13 := by
  have tk : Takes (cxOf (L2.CX P w) P w K mg base ["counts", "at", "strokes", "left", "k"] "after_strokes" (defScope s13) f cdv A outer s H E0) (fun cls d _ H' => E0 cls d H') := takes_of rfl rfl rfl rfl
  have hp : PassesOwn (model P w) (cxOf (L2.CX P w) P w K mg base ["counts", "at", "strokes", "left", "k"] "after_strokes" (defScope s13) f cdv A outer s H E0).A (cxOf (L2.CX P w) P w K mg base ["counts", "at", "strokes", "left", "k"] "after_strokes" (defScope s13) f cdv A outer s H E0).env (cxOf (L2.CX P w) P w K mg base ["counts", "at", "strokes", "left", "k"] "after_strokes" (defScope s13) f cdv A outer s H E0).xe := passes_of rfl
  have nd := c13.nd
  exact (bss_cons (bs_set (j := 3) nd rfl (Or.inl rfl) (be_op o_mod (BB.of (be_var 2)) (BB.of (be_bi (c_sum rfl) rfl B.sum bt_sum (be_consB (BB.of (be_var 0)) be_nilB)))))
    (bss_cons (bs_set (j := 4) nd rfl (Or.inl rfl) (be_op o_mod (BB.of (be_var 1)) (BB.of (be_bi c_len rfl B.len bt_len (be_consB (BB.of (be_var 0)) be_nilB)))))
    (bss_cons (bs_whl hp (bt_cmp (o_ge) (BB.of (be_var 3)) (BB.of (be_ix (BB.of (be_var 0)) (BB.of (be_var 4)))) (nomark _))
    (bss_cons (bs_aug (j := 3) o_isub nd rfl (Or.inl rfl) (be_ix (BB.of (be_var 0)) (BB.of (be_var 4))))
    (bss_cons (bs_set (j := 4) nd rfl (Or.inl rfl) (be_op o_mod (BB.of (be_op o_add (BB.of (be_var 4)) (BB.of be_int))) (BB.of (be_bi c_len rfl B.len bt_len (be_consB (BB.of (be_var 0)) be_nilB)))))
    bss_nil)))
    (bss_cons (bs_ret (be_tup (be_cons (be_var 4) (be_cons (be_var 3) be_nil))))
    bss_nil))))
theorem c14 : FnScope ["counts", "due", "hours", "missed", "found", "at", "hour"] ["counts", "due", "hours", "missed"] (defScope s14) := ⟨rfl, rfl, rfl, by decide +kernel, rfl, by decide +kernel, by decide +kernel⟩
theorem b14 (B : Bn mg) (E : Ev P w K mg base k) (f : Addr) (cdv : Value) (A : Around) (outer : List PySem.Env) (s : Shared) (H : Hp) (E0 : XK) (hr : Room k (A.deeper (envOfC "lost_step" (defScope s14) s.heap.objs.size f cdv))) :
    BSs (cxOf (L2.CX P w) P w K mg base ["counts", "due", "hours", "missed", "found", "at", "hour"] "lost_step" (defScope s14) f cdv A outer s H E0) (pgK tab XP0 k) (fun cls d _ H' => E0 cls d H') (defBody s14) i14 := by
  have tk : Takes (cxOf (L2.CX P w) P w K mg base ["counts", "due", "hours", "missed", "found", "at", "hour"] "lost_step" (defScope s14) f cdv A outer s H E0) (fun cls d _ H' => E0 cls d H') := takes_of rfl rfl rfl rfl
  have hp : PassesOwn (model P w) (cxOf (L2.CX P w) P w K mg base ["counts", "due", "hours", "missed", "found", "at", "hour"] "lost_step" (defScope s14) f cdv A outer s H E0).A (cxOf (L2.CX P w) P w K mg base ["counts", "due", "hours", "missed", "found", "at", "hour"] "lost_step" (defScope s14) f cdv A outer s H E0).env (cxOf (L2.CX P w) P w K mg base ["counts", "due", "hours", "missed", "found", "at", "hour"] "lost_step" (defScope s14) f cdv A outer s H E0).xe := passes_of rfl
  have nd := c14.nd
  exact (bss_cons (bs_par2 rfl nd rfl rfl (by decide) rfl rfl (pf_own (bf_lst be_nil) (pf_val be_int pf_nil)) rfl)
    (bss_cons (bs_for hp rfl (bi_range1 rfl B.range (be_consB (BB.of (be_var 2)) be_nilB)) (bg_slot 6 nd)
    (bss_cons (bs_ifs (bt_cmp (o_in) (BB.of (be_var 6)) (BB.of (be_var 3)) rfl)
    (bss_cons (bs_app (j := 4) rfl (Or.inl rfl) be_int)
    bss_nil)
    (bss_cons (bs_app (j := 4) rfl (Or.inl rfl) (be_ix (BB.of (be_var 0)) (BB.of (be_op o_mod (BB.of (be_var 5)) (BB.of (be_bi c_len rfl B.len bt_len (be_consB (BB.of (be_var 0)) be_nilB)))))))
    (bss_cons (bs_aug (j := 5) o_iadd nd rfl (Or.inl rfl) be_int)
    bss_nil)))
    bss_nil))
    (bss_cons (bs_ret (be_ty c_tuple rfl B.tuple bt_tuple (be_consB (be_pk 4) be_nilB)))
    bss_nil)))
theorem c15 : FnScope ["counts", "heard", "at", "found", "hour"] ["counts", "heard"] (defScope s15) := ⟨rfl, rfl, rfl, by decide +kernel, rfl, by decide +kernel, by decide +kernel⟩
theorem b15 (B : Bn mg) (E : Ev P w K mg base k) (f : Addr) (cdv : Value) (A : Around) (outer : List PySem.Env) (s : Shared) (H : Hp) (E0 : XK) (hr : Room k (A.deeper (envOfC "misses_for" (defScope s15) s.heap.objs.size f cdv))) :
    BSs (cxOf (L2.CX P w) P w K mg base ["counts", "heard", "at", "found", "hour"] "misses_for" (defScope s15) f cdv A outer s H E0) (pgK tab XP0 k) (fun cls d _ H' => E0 cls d H') (defBody s15) i15 := by
  have tk : Takes (cxOf (L2.CX P w) P w K mg base ["counts", "heard", "at", "found", "hour"] "misses_for" (defScope s15) f cdv A outer s H E0) (fun cls d _ H' => E0 cls d H') := takes_of rfl rfl rfl rfl
  have hp : PassesOwn (model P w) (cxOf (L2.CX P w) P w K mg base ["counts", "heard", "at", "found", "hour"] "misses_for" (defScope s15) f cdv A outer s H E0).A (cxOf (L2.CX P w) P w K mg base ["counts", "heard", "at", "found", "hour"] "misses_for" (defScope s15) f cdv A outer s H E0).env (cxOf (L2.CX P w) P w K mg base ["counts", "heard", "at", "found", "hour"] "misses_for" (defScope s15) f cdv A outer s H E0).xe := passes_of rfl
  have nd := c15.nd
  exact (bss_cons (bs_par2 rfl nd rfl rfl (by decide) rfl rfl (pf_val be_int (pf_own (bf_lst be_nil) pf_nil)) rfl)
    (bss_cons (bs_for hp rfl (bi_range1 rfl B.range (be_consB (BB.of (be_bi c_len rfl B.len bt_len (be_consB (BB.of (be_var 1)) be_nilB))) be_nilB)) (bg_slot 4 nd)
    (bss_cons (bs_ifs (bt_cmp (o_eq hr.units) (BB.of (be_ix (BB.of (be_var 1)) (BB.of (be_var 4)))) (BB.of be_int) (nomark _))
    (bss_cons (bs_app (j := 3) rfl (Or.inl rfl) (be_var 4))
    bss_nil)
    (bss_cons (bs_ifs (bt_cmp (o_eq hr.units) (BB.of (be_ix (BB.of (be_var 1)) (BB.of (be_var 4)))) (BB.of (be_ix (BB.of (be_var 0)) (BB.of (be_op o_mod (BB.of (be_var 2)) (BB.of (be_bi c_len rfl B.len bt_len (be_consB (BB.of (be_var 0)) be_nilB))))))) (nomark _))
    (bss_cons (bs_aug (j := 2) o_iadd nd rfl (Or.inl rfl) be_int)
    bss_nil)
    (bss_cons (bs_ret be_non)
    bss_nil))
    bss_nil))
    bss_nil))
    (bss_cons (bs_ret (be_ty c_tuple rfl B.tuple bt_tuple (be_consB (be_pk 3) be_nilB)))
    bss_nil)))
theorem c16 : FnScope ["script", "many", "draws", "mixed", "k", "cell", "rest", "turn"] ["script", "many"] (defScope s16) := ⟨rfl, rfl, rfl, by decide +kernel, rfl, by decide +kernel, by decide +kernel⟩
theorem b16 (B : Bn mg) (E : Ev P w K mg base k) (f : Addr) (cdv : Value) (A : Around) (outer : List PySem.Env) (s : Shared) (H : Hp) (E0 : XK) (hr : Room k (A.deeper (envOfC "_law_draws" (defScope s16) s.heap.objs.size f cdv))) :
    BSs (cxOf (L2.CX P w) P w K mg base ["script", "many", "draws", "mixed", "k", "cell", "rest", "turn"] "_law_draws" (defScope s16) f cdv A outer s H E0) (pgK tab XP0 k) (fun cls d _ H' => E0 cls d H') (defBody s16) i16 := by
  have tk : Takes (cxOf (L2.CX P w) P w K mg base ["script", "many", "draws", "mixed", "k", "cell", "rest", "turn"] "_law_draws" (defScope s16) f cdv A outer s H E0) (fun cls d _ H' => E0 cls d H') := takes_of rfl rfl rfl rfl
  have hp : PassesOwn (model P w) (cxOf (L2.CX P w) P w K mg base ["script", "many", "draws", "mixed", "k", "cell", "rest", "turn"] "_law_draws" (defScope s16) f cdv A outer s H E0).A (cxOf (L2.CX P w) P w K mg base ["script", "many", "draws", "mixed", "k", "cell", "rest", "turn"] "_law_draws" (defScope s16) f cdv A outer s H E0).env (cxOf (L2.CX P w) P w K mg base ["script", "many", "draws", "mixed", "k", "cell", "rest", "turn"] "_law_draws" (defScope s16) f cdv A outer s H E0).xe := passes_of rfl
  have nd := c16.nd
  exact (bss_cons (bs_setO (j := 2) nd rfl (Or.inl rfl) (bf_lst be_nil))
    (bss_cons (bs_set (j := 3) nd rfl (Or.inl rfl) be_int)
    (bss_cons (bs_for hp rfl (bi_range1 rfl B.range (be_consB (BB.of (be_bi c_len rfl B.len bt_len (be_consB (BB.of (be_var 0)) be_nilB))) be_nilB)) (bg_slot 4 nd)
    (bss_cons (bs_set (j := 5) nd rfl (Or.inl rfl) (be_bi c_abs rfl B.abs bt_abs (be_consB (BB.of (be_ty c_int rfl B.int bt_int (be_consB (BB.of (be_ix (BB.of (be_var 0)) (BB.of (be_var 4)))) be_nilB))) be_nilB)))
    (bss_cons (bs_set (j := 3) nd rfl (Or.inl rfl) (be_op o_mod (BB.of (be_ty c_int rfl B.int bt_int (be_consB (BB.of (be_op o_add (BB.of (be_op o_add (BB.of (be_op o_mul (BB.of (be_var 3)) (BB.of be_int))) (BB.of (be_op o_mod (BB.of (be_var 5)) (BB.of be_int))))) (BB.of (be_var 4)))) be_nilB))) (BB.of be_int)))
    (bss_cons (bs_set (j := 6) nd rfl (Or.inl rfl) be_int)
    (bss_cons (bs_ifs (bt_cmp (o_ge) (BB.of (be_var 5)) (BB.of (be_op o_pow (BB.of be_int) (BB.of be_int))) (nomark _))
    (bss_cons (bs_set (j := 6) nd rfl (Or.inl rfl) (be_var 5))
    bss_nil)
    (bss_cons (bs_app (j := 2) rfl (Or.inl rfl) (be_op o_mod (BB.of (be_ty c_int rfl B.int bt_int (be_consB (BB.of (be_var 5)) be_nilB))) (BB.of be_int)))
    (bss_cons (bs_app (j := 2) rfl (Or.inl rfl) (be_op o_mod (BB.of (be_op o_mod (BB.of (be_ty c_int rfl B.int bt_int (be_consB (BB.of (be_op o_add (BB.of (be_op o_mul (BB.of (be_var 3)) (BB.of be_int))) (BB.of be_int))) be_nilB))) (BB.of be_int))) (BB.of be_int)))
    bss_nil)))
    (bss_cons (bs_for hp rfl (bi_range1 rfl B.range (be_consB (BB.of be_int) be_nilB)) (bg_slot 7 nd)
    (bss_cons (bs_ifs (bt_cmp (o_gt) (BB.of (be_var 6)) (BB.of be_int) (nomark _))
    (bss_cons (bs_app (j := 2) rfl (Or.inl rfl) (be_op o_mod (BB.of (be_ty c_int rfl B.int bt_int (be_consB (BB.of (be_var 6)) be_nilB))) (BB.of be_int)))
    (bss_cons (bs_set (j := 6) nd rfl (Or.inl rfl) (be_op o_fdiv (BB.of (be_var 6)) (BB.of be_int)))
    bss_nil))
    bss_nil)
    bss_nil))
    bss_nil))))))
    (bss_cons (bs_for hp rfl (bi_range1 rfl B.range (be_consB (BB.of (be_var 1)) be_nilB)) (bg_slot 4 nd)
    (bss_cons (bs_set (j := 3) nd rfl (Or.inl rfl) (be_op o_mod (BB.of (be_ty c_int rfl B.int bt_int (be_consB (BB.of (be_op o_add (BB.of (be_op o_add (BB.of (be_op o_mul (BB.of (be_var 3)) (BB.of be_int))) (BB.of (be_var 4)))) (BB.of be_int))) be_nilB))) (BB.of be_int)))
    (bss_cons (bs_app (j := 2) rfl (Or.inl rfl) (be_op o_mod (BB.of (be_ty c_int rfl B.int bt_int (be_consB (BB.of (be_var 3)) be_nilB))) (BB.of be_int)))
    bss_nil)))
    (bss_cons (bs_ret (be_slice (be_pk 2) bo_none (bo_some (be_var 1))))
    bss_nil)))))
theorem c17 : FnScope ["w", "many"] ["w", "many"] (defScope s17) := ⟨rfl, rfl, rfl, by decide +kernel, rfl, by decide +kernel, by decide +kernel⟩
theorem b17 (B : Bn mg) (f : Addr) (cdv : Value) (A : Around) (outer : List PySem.Env) (s : Shared) (H : Hp) (E0 : XK) (hr : Room k (A.deeper (envOfC "_law_next" (defScope s17) s.heap.objs.size f cdv))) :
    BSs (cxOf (L2.CX P w) P w K mg base ["w", "many"] "_law_next" (defScope s17) f cdv A outer s H E0) (pgK tab XP0 k) (fun cls d _ H' => E0 cls d H') (defBody s17) i17 := by
  have hu := hu_of hr
  refine pssW (pss_cons (ps_daug hu (pv 0) pe_str pe_int in_add (fun _ _ _ => rfl))
    (pss_cons (ps_if (pt_cmpR op_gt (pe_dget hu (pv 0) pe_str (fun _ _ => rfl)) (pe_callB call_len (by rfl) B.len bt_len (pa_cons (pe_dget hu (pv 0) pe_str (fun _ _ => rfl)) pa_nil)) (nomark _)) (pss_one (ps_ret pe_int)) pss_nil)
    (pss_one (ps_ret (pe_op op_mod (pe_callTy call_int1 (by rfl) B.int bt_int (pa_cons (pe_ix ix_list (pe_dget hu (pv 0) pe_str (fun _ _ => rfl)) (pe_op op_sub (pe_dget hu (pv 0) pe_str (fun _ _ => rfl)) pe_int) (fun _ _ => rfl)) pa_nil)) (pv 1)))))) fun D σ H h => ?_
  obtain ⟨a, da, m, n, ds, s0, s1, h1, h2, h3, hm, q1, q2⟩ := draw_read h
  have e1 : upd H a (.dK (wD da (n + 1))) a = some (.dK (wD da (n + 1))) := upd_same
  refine ⟨_, s0, a, _, rfl, by rw [← wD_at da n]; exact DGet.k (k := Sum.inr ("at" : Str)) h1, _, _, rfl, rfl, upd H a (.dK (wD da (n + 1))), by rw [← wD_put da n]; exact DPut.k (k := Sum.inr ("at" : Str)) h1 (by show 2 < sizeLine; rw [sizeLine_eq]; decide), ?_⟩
  refine ⟨_, s0, a, _, rfl, by rw [← wD_at da (n + 1)]; exact DGet.k (k := Sum.inr ("at" : Str)) e1, ?_⟩
  refine ⟨_, s0, a, _, rfl, by rw [← wD_draws da (n + 1)]; exact DGet.k (k := Sum.inr ("draws" : Str)) e1, ?_⟩
  refine ⟨_, _, rfl, .inl ⟨_, h3, rfl⟩, ?_⟩
  refine ⟨_, _, rfl, rfl, _, rfl, ?_⟩
  rw [List.length_map]
  refine ite2 (fun c => ?_) (fun c => ?_)
  · exact q1 (by have := of_decide_eq_true c; omega)
  · have hlt : n < ds.length := by
      have : ¬ ((ds.length : Int) < ((n + 1 : Nat) : Int)) := fun z => c (decide_eq_true z)
      omega
    refine ⟨_, s0, a, _, rfl, by rw [← wD_draws da (n + 1)]; exact DGet.k (k := Sum.inr ("draws" : Str)) e1, ?_⟩
    refine ⟨_, s0, a, _, rfl, by rw [← wD_at da (n + 1)]; exact DGet.k (k := Sum.inr ("at" : Str)) e1, ?_⟩
    refine ⟨_, _, rfl, rfl, ?_⟩
    have e2 : (((n + 1 : Nat) : Int) - 1) = (n : Int) := by omega
    simp only [e2]
    refine ⟨da, _, _, V.int ds[n], rfl, rfl, h3, atI_nat (by rw [List.getElem?_map, List.getElem?_eq_getElem hlt]; rfl), ?_⟩
    refine .inl ⟨_, rfl, ?_⟩
    exact ⟨_, s1, _, _, rfl, rfl, hm, q2 _ (List.getElem?_eq_getElem hlt)⟩
theorem c18 : FnScope ["w", "rows"] ["w", "rows"] (defScope s18) := ⟨rfl, rfl, rfl, by decide +kernel, rfl, by decide +kernel, by decide +kernel⟩
theorem b18 (B : Bn mg) (E : Ev P w K mg base k) (f : Addr) (cdv : Value) (A : Around) (outer : List PySem.Env) (s : Shared) (H : Hp) (E0 : XK) (hr : Room k (A.deeper (envOfC "_law_pick" (defScope s18) s.heap.objs.size f cdv))) :
    BSs (cxOf (L2.CX P w) P w K mg base ["w", "rows"] "_law_pick" (defScope s18) f cdv A outer s H E0) (pgK tab XP0 k) (fun cls d _ H' => E0 cls d H') (defBody s18) i18 := by
  have tk : Takes (cxOf (L2.CX P w) P w K mg base ["w", "rows"] "_law_pick" (defScope s18) f cdv A outer s H E0) (fun cls d _ H' => E0 cls d H') := takes_of rfl rfl rfl rfl
  have hp : PassesOwn (model P w) (cxOf (L2.CX P w) P w K mg base ["w", "rows"] "_law_pick" (defScope s18) f cdv A outer s H E0).A (cxOf (L2.CX P w) P w K mg base ["w", "rows"] "_law_pick" (defScope s18) f cdv A outer s H E0).env (cxOf (L2.CX P w) P w K mg base ["w", "rows"] "_law_pick" (defScope s18) f cdv A outer s H E0).xe := passes_of rfl
  have nd := c18.nd
  exact (bss_cons (bs_ret (be_ix (BB.of (be_var 1)) (BB.of (be_callD E.d17 hr tk (be_cons (be_var 0) (be_cons (be_bi c_len rfl B.len bt_len (be_consB (BB.of (be_var 1)) be_nilB)) be_nil))))))
    bss_nil)
theorem c19 : FnScope ["given", "due", "k"] ["given", "due"] (defScope s19) := ⟨rfl, rfl, rfl, by decide +kernel, rfl, by decide +kernel, by decide +kernel⟩
theorem b19 (B : Bn mg) (E : Ev P w K mg base k) (f : Addr) (cdv : Value) (A : Around) (outer : List PySem.Env) (s : Shared) (H : Hp) (E0 : XK) (hr : Room k (A.deeper (envOfC "_law_alike" (defScope s19) s.heap.objs.size f cdv))) :
    BSs (cxOf (L2.CX P w) P w K mg base ["given", "due", "k"] "_law_alike" (defScope s19) f cdv A outer s H E0) (pgK tab XP0 k) (fun cls d _ H' => E0 cls d H') (defBody s19) i19 := by
  have tk : Takes (cxOf (L2.CX P w) P w K mg base ["given", "due", "k"] "_law_alike" (defScope s19) f cdv A outer s H E0) (fun cls d _ H' => E0 cls d H') := takes_of rfl rfl rfl rfl
  have hp : PassesOwn (model P w) (cxOf (L2.CX P w) P w K mg base ["given", "due", "k"] "_law_alike" (defScope s19) f cdv A outer s H E0).A (cxOf (L2.CX P w) P w K mg base ["given", "due", "k"] "_law_alike" (defScope s19) f cdv A outer s H E0).env (cxOf (L2.CX P w) P w K mg base ["given", "due", "k"] "_law_alike" (defScope s19) f cdv A outer s H E0).xe := passes_of rfl
  have nd := c19.nd
  exact (bss_cons (bs_ifs (bt_val (BB.of (be_isi (t := .tup) rfl B.isinstance bt_isinstance rfl B.tuple bt_tuple (BB.of (be_var 1)))))
    (bss_cons (bs_ifs (PW.pt (bw_or (bt_not (bt_val (BB.of (be_isi (t := .tup) rfl B.isinstance bt_isinstance rfl B.tuple bt_tuple (BB.of (be_var 0)))))) (bw_or1 (bt_cmp (o_ne hr.units) (BB.of (be_bi c_len rfl B.len bt_len (be_consB (BB.of (be_var 0)) be_nilB))) (BB.of (be_bi c_len rfl B.len bt_len (be_consB (BB.of (be_var 1)) be_nilB))) (nomark _)))))
    (bss_cons (bs_ret be_bl)
    bss_nil)
    bss_nil)
    (bss_cons (bs_ret (be_cmp (o_eq hr.units) (BB.of (be_comp rfl nd (bi_range1 rfl B.range (be_consB (BB.of (be_bi c_len rfl B.len bt_len (be_consB (BB.of (be_var 1)) be_nilB))) be_nilB)) (blkOk_by (N := ["given", "due", "k"]) (sc := defScope s19) (own := [("k", 2)]) (by decide +kernel)) rfl (fun _ _ _ _ _ => (bg_slot 2 nd)) (fun _ _ _ _ _ => (bts_one (bt_not (bt_val (BB.of (be_callD E.d19 hr takes0 (be_cons (be_ix (BB.of (be_var 0)) (BB.of (be_var 2))) (be_cons (be_ix (BB.of (be_var 1)) (BB.of (be_var 2))) be_nil)))))))) (fun _ _ _ _ _ => (be_var 2)))) (BB.of (be_lst be_nil)) (nomark _)))
    bss_nil))
    bss_nil)
    (bss_cons (bs_ifs (bt_cmp (o_is) (BB.of (be_var 1)) (BB.of be_non) (nomark _))
    (bss_cons (bs_ret (be_cmp (o_is) (BB.of (be_var 0)) (BB.of be_non) (nomark _)))
    bss_nil)
    bss_nil)
    (bss_cons (bs_ifs (bt_val (BB.of (be_isi (t := .bool) rfl B.isinstance bt_isinstance rfl B.bool bt_bool (BB.of (be_var 1)))))
    (bss_cons (bs_ret (be_and (be_isi (t := .bool) rfl B.isinstance bt_isinstance rfl B.bool bt_bool (BB.of (be_var 0))) (be_and1 (be_cmp (o_eq hr.units) (BB.of (be_var 0)) (BB.of (be_var 1)) (nomark _)))))
    bss_nil)
    bss_nil)
    (bss_cons (bs_ifs (bt_val (BB.of (be_isi (t := .int) rfl B.isinstance bt_isinstance rfl B.int bt_int (BB.of (be_var 1)))))
    (bss_cons (bs_ret (be_and (be_isi (t := .int) rfl B.isinstance bt_isinstance rfl B.int bt_int (BB.of (be_var 0))) (be_and (be_not (BB.of (be_isi (t := .bool) rfl B.isinstance bt_isinstance rfl B.bool bt_bool (BB.of (be_var 0))))) (be_and1 (be_cmp (o_eq hr.units) (BB.of (be_var 0)) (BB.of (be_var 1)) (nomark _))))))
    bss_nil)
    bss_nil)
    (bss_cons (bs_ret (be_and (be_isi (t := .str) rfl B.isinstance bt_isinstance rfl B.str bt_str (BB.of (be_var 0))) (be_and1 (be_cmp (o_eq hr.units) (BB.of (be_var 0)) (BB.of (be_var 1)) (nomark _)))))
    bss_nil)))))
theorem c20 : FnScope ["counts", "k"] ["counts", "k"] (defScope s20) := ⟨rfl, rfl, rfl, by decide +kernel, rfl, by decide +kernel, by decide +kernel⟩
theorem b20 (B : Bn mg) (E : Ev P w K mg base k) (f : Addr) (cdv : Value) (A : Around) (outer : List PySem.Env) (s : Shared) (H : Hp) (E0 : XK) (hr : Room k (A.deeper (envOfC "_law_at" (defScope s20) s.heap.objs.size f cdv))) :
    BSs (cxOf (L2.CX P w) P w K mg base ["counts", "k"] "_law_at" (defScope s20) f cdv A outer s H E0) (pgK tab XP0 k) (fun cls d _ H' => E0 cls d H') (defBody s20) i20 := by
  have tk : Takes (cxOf (L2.CX P w) P w K mg base ["counts", "k"] "_law_at" (defScope s20) f cdv A outer s H E0) (fun cls d _ H' => E0 cls d H') := takes_of rfl rfl rfl rfl
  have hp : PassesOwn (model P w) (cxOf (L2.CX P w) P w K mg base ["counts", "k"] "_law_at" (defScope s20) f cdv A outer s H E0).A (cxOf (L2.CX P w) P w K mg base ["counts", "k"] "_law_at" (defScope s20) f cdv A outer s H E0).env (cxOf (L2.CX P w) P w K mg base ["counts", "k"] "_law_at" (defScope s20) f cdv A outer s H E0).xe := passes_of rfl
  have nd := c20.nd
  exact (bss_cons (bs_ret (be_ix (BB.of (be_var 0)) (BB.of (be_op o_mod (BB.of (be_ty c_int rfl B.int bt_int (be_consB (BB.of (be_var 1)) be_nilB))) (BB.of (be_bi c_len rfl B.len bt_len (be_consB (BB.of (be_var 0)) be_nilB)))))))
    bss_nil)
theorem c21 : FnScope ["counts", "due", "at", "hour", "k"] ["counts", "due", "at", "hour"] (defScope s21) := ⟨rfl, rfl, rfl, by decide +kernel, rfl, by decide +kernel, by decide +kernel⟩
theorem b21 (B : Bn mg) (E : Ev P w K mg base k) (f : Addr) (cdv : Value) (A : Around) (outer : List PySem.Env) (s : Shared) (H : Hp) (E0 : XK) (hr : Room k (A.deeper (envOfC "_law_steps" (defScope s21) s.heap.objs.size f cdv))) :
    BSs (cxOf (L2.CX P w) P w K mg base ["counts", "due", "at", "hour", "k"] "_law_steps" (defScope s21) f cdv A outer s H E0) (pgK tab XP0 k) (fun cls d _ H' => E0 cls d H') (defBody s21) i21 := by
  have tk : Takes (cxOf (L2.CX P w) P w K mg base ["counts", "due", "at", "hour", "k"] "_law_steps" (defScope s21) f cdv A outer s H E0) (fun cls d _ H' => E0 cls d H') := takes_of rfl rfl rfl rfl
  have hp : PassesOwn (model P w) (cxOf (L2.CX P w) P w K mg base ["counts", "due", "at", "hour", "k"] "_law_steps" (defScope s21) f cdv A outer s H E0).A (cxOf (L2.CX P w) P w K mg base ["counts", "due", "at", "hour", "k"] "_law_steps" (defScope s21) f cdv A outer s H E0).env (cxOf (L2.CX P w) P w K mg base ["counts", "due", "at", "hour", "k"] "_law_steps" (defScope s21) f cdv A outer s H E0).xe := passes_of rfl
  have nd := c21.nd
  exact (bss_cons (bs_ret (be_cmp (o_eq hr.units) (BB.of (be_comp rfl nd (bi_range1 rfl B.range (be_consB (BB.of (be_op o_mul (BB.of (be_bi c_len rfl B.len bt_len (be_consB (BB.of (be_var 0)) be_nilB))) (BB.of (be_bi c_len rfl B.len bt_len (be_consB (BB.of (be_var 1)) be_nilB))))) be_nilB)) (blkOk_by (N := ["counts", "due", "at", "hour", "k"]) (sc := defScope s21) (own := [("k", 4)]) (by decide +kernel)) rfl (fun _ _ _ _ _ => (bg_slot 4 nd)) (fun _ _ _ _ _ => (bts_one (bt_cmp (o_ne hr.units) (BB.of (be_callD E.d20 hr takes0 (be_cons (be_var 0) (be_cons (be_op o_add (BB.of (be_var 2)) (BB.of (be_var 4))) be_nil)))) (BB.of (be_callD E.d20 hr takes0 (be_cons (be_var 1) (be_cons (be_op o_add (BB.of (be_var 3)) (BB.of (be_var 4))) be_nil)))) (nomark _)))) (fun _ _ _ _ _ => (be_var 4)))) (BB.of (be_lst be_nil)) (nomark _)))
    bss_nil)
theorem ev0 (T : Tx K mg) : Ev P w K mg base 0 := ⟨T.t0.zero, T.t1.zero, T.t2.zero, T.t3.zero, T.t4.zero, T.t5.zero, T.t6.zero, T.t7.zero, T.t8.zero, T.t9.zero, T.t10.zero, T.t11.zero, T.t12.zero, T.t13.zero, T.t14.zero, T.t15.zero, T.t16.zero, T.t17.zero, T.t18.zero, T.t19.zero, T.t20.zero, T.t21.zero⟩
theorem evS (B : Bn mg) (T : Tx K mg) (E : Ev P w K mg base k) : Ev P w K mg base (k + 1) where
  d0 := T.t0.succ c0 rfl rfl rfl (b0 B E)
  d1 := T.t1.succ c1 rfl rfl rfl (b1 B E)
  d2 := T.t2.succ c2 rfl rfl rfl (b2 B E)
  d3 := T.t3.succ c3 rfl rfl rfl (b3 B E)
  d4 := T.t4.succ c4 rfl rfl rfl (b4 B E)
  d5 := T.t5.succ c5 rfl rfl rfl (b5 B E)
  d6 := T.t6.succ c6 rfl rfl rfl (b6 B E)
  d7 := T.t7.succ c7 rfl rfl rfl (b7 B E)
  d8 := T.t8.succ c8 rfl rfl rfl (b8 B E)
  d9 := T.t9.succ c9 rfl rfl rfl (b9 B E)
  d10 := T.t10.succ c10 rfl rfl rfl (b10 B E)
  d11 := T.t11.succ c11 rfl rfl rfl (b11 B E)
  d12 := T.t12.succ c12 rfl rfl rfl (b12 B E)
  d13 := T.t13.succ c13 rfl rfl rfl (b13 B E)
  d14 := T.t14.succ c14 rfl rfl rfl (b14 B E)
  d15 := T.t15.succ c15 rfl rfl rfl (b15 B E)
  d16 := T.t16.succ c16 rfl rfl rfl (b16 B E)
  d17 := T.t17.succ c17 rfl rfl rfl (b17 B)
  d18 := T.t18.succ c18 rfl rfl rfl (b18 B E)
  d19 := T.t19.succ c19 rfl rfl rfl (b19 B E)
  d20 := T.t20.succ c20 rfl rfl rfl (b20 B E)
  d21 := T.t21.succ c21 rfl rfl rfl (b21 B E)
theorem evA (B : Bn mg) (T : Tx K mg) : ∀ k, Ev P w K mg base k
  | 0 => ev0 T
  | k + 1 => evS B T (evA B T k)
theorem c22 : FnScope ["script", "w", "turn", "k", "counts", "at", "hour", "turns", "due", "times", "able", "heard", "h", "wrong", "row", "many", "short", "strokes", "place", "left", "hours", "missed", "goes", "bent", "found", "thing", "size", "one", "j"] ["script"] (defScope s22) := ⟨rfl, rfl, rfl, by decide +kernel, rfl, by decide +kernel, by decide +kernel⟩
theorem bLaw (B : Bn mg) (E : Ev P w K mg base k) (f : Addr) (cdv : Value) (A : Around) (outer : List PySem.Env) (s : Shared) (H : Hp) (E0 : XK) (hr : Room k (A.deeper (envOfC "law" (defScope s22) s.heap.objs.size f cdv))) :
    PSs (cxOf (L2.CX P w) P w K mg base ["script", "w", "turn", "k", "counts", "at", "hour", "turns", "due", "times", "able", "heard", "h", "wrong", "row", "many", "short", "strokes", "place", "left", "hours", "missed", "goes", "bent", "found", "thing", "size", "one", "j"] "law" (defScope s22) f cdv A outer s H E0) (defBody s22) (tLaw K (pgK tab XP0 k) (fun cls d _ H' => E0 cls d H') 1 iDraws i22) := by
  have tk : Takes (cxOf (L2.CX P w) P w K mg base ["script", "w", "turn", "k", "counts", "at", "hour", "turns", "due", "times", "able", "heard", "h", "wrong", "row", "many", "short", "strokes", "place", "left", "hours", "missed", "goes", "bent", "found", "thing", "size", "one", "j"] "law" (defScope s22) f cdv A outer s H E0) (fun cls d _ H' => E0 cls d H') := takes_of rfl rfl rfl rfl
  have hp : PassesOwn (model P w) (cxOf (L2.CX P w) P w K mg base ["script", "w", "turn", "k", "counts", "at", "hour", "turns", "due", "times", "able", "heard", "h", "wrong", "row", "many", "short", "strokes", "place", "left", "hours", "missed", "goes", "bent", "found", "thing", "size", "one", "j"] "law" (defScope s22) f cdv A outer s H E0).A (cxOf (L2.CX P w) P w K mg base ["script", "w", "turn", "k", "counts", "at", "hour", "turns", "due", "times", "able", "heard", "h", "wrong", "row", "many", "short", "strokes", "place", "left", "hours", "missed", "goes", "bent", "found", "thing", "size", "one", "j"] "law" (defScope s22) f cdv A outer s H E0).env (cxOf (L2.CX P w) P w K mg base ["script", "w", "turn", "k", "counts", "at", "hour", "turns", "due", "times", "able", "heard", "h", "wrong", "row", "many", "short", "strokes", "place", "left", "hours", "missed", "goes", "bent", "found", "thing", "size", "one", "j"] "law" (defScope s22) f cdv A outer s H E0).xe := passes_of rfl
  have nd := c22.nd
  exact law_read (j := 1) nd rfl (Or.inr rfl) pe_str (be_callD E.d16 hr tk (be_cons (be_var 0) (be_cons be_int be_nil))) pe_str pe_int
    (bss_cons (bs_for hp rfl (bi_range1 rfl B.range (be_consB (BB.of be_int) be_nilB)) (bg_slot 2 nd)
    (bss_cons (bs_set (j := 4) nd rfl (Or.inr rfl) (be_ty c_tuple rfl B.tuple bt_tuple (be_consB (BB.of (be_comp rfl nd (bi_range1 rfl B.range (be_consB (BB.of (be_op o_add (BB.of be_int) (BB.of (be_callD E.d17 hr tk (be_cons (be_var 1) (be_cons be_int be_nil)))))) be_nilB)) (blkOk_by (N := ["script", "w", "turn", "k", "counts", "at", "hour", "turns", "due", "times", "able", "heard", "h", "wrong", "row", "many", "short", "strokes", "place", "left", "hours", "missed", "goes", "bent", "found", "thing", "size", "one", "j"]) (sc := defScope s22) (own := [("k", 3)]) (by decide +kernel)) rfl (fun _ _ _ _ _ => (bg_slot 3 nd)) (fun _ _ _ _ _ => bts_nil) (fun _ _ _ _ _ => (be_op o_add (BB.of be_int) (BB.of (be_callD E.d17 hr takes0 (be_cons (be_var 1) (be_cons be_int be_nil)))))))) be_nilB)))
    (bss_cons (bs_ifs (bt_cmp (o_eq hr.units) (BB.of (be_callD E.d17 hr tk (be_cons (be_var 1) (be_cons be_int be_nil)))) (BB.of be_int) (nomark _))
    (bss_cons (bs_set (j := 4) nd rfl (Or.inr rfl) (be_op o_mul (BB.of (be_slice (BB.of (be_var 4)) bo_none (bo_some be_int))) (BB.of (be_op o_add (BB.of be_int) (BB.of (be_callD E.d17 hr tk (be_cons (be_var 1) (be_cons be_int be_nil))))))))
    bss_nil)
    bss_nil)
    (bss_cons (bs_parG rfl (pf_val (be_callD E.d17 hr tk (be_cons (be_var 1) (be_cons (be_bi c_len rfl B.len bt_len (be_consB (BB.of (be_var 4)) be_nilB)) be_nil))) (pf_val (be_callD E.d17 hr tk (be_cons (be_var 1) (be_cons be_int be_nil))) (pf_val (be_callD E.d17 hr tk (be_cons (be_var 1) (be_cons (be_bi c_len rfl B.len bt_len (be_consB (BB.of (be_var 4)) be_nilB)) be_nil))) pf_nil))) (pgN_cons nd rfl (Or.inr rfl) (pgN_cons nd rfl (Or.inr rfl) (pgN_cons nd rfl (Or.inl rfl) pgN_nil))) rfl (by decide) rfl rfl)
    (bss_cons (bs_set (j := 8) nd rfl (Or.inr rfl) (be_callD E.d18 hr tk (be_cons (be_var 1) (be_cons (be_lst (be_cons (be_var 4) (be_cons (be_op o_add (BB.of (be_slice (BB.of (be_var 4)) (bo_some (be_var 7)) bo_none)) (BB.of (be_slice (BB.of (be_var 4)) bo_none (bo_some (be_var 7))))) (be_cons (be_op o_mul (BB.of (be_var 4)) (BB.of be_int)) (be_cons (be_op o_add (BB.of (be_slice (BB.of (be_var 4)) bo_none (bo_some (be_un u_neg (BB.of be_int))))) (BB.of (be_tup (be_cons (be_op o_add (BB.of be_int) (BB.of (be_callD E.d17 hr tk (be_cons (be_var 1) (be_cons be_int be_nil))))) be_nil)))) (be_cons (be_ty c_tuple rfl B.tuple bt_tuple (be_consB (BB.of (be_comp rfl nd (bi_range1 rfl B.range (be_consB (BB.of (be_op o_add (BB.of be_int) (BB.of (be_callD E.d17 hr tk (be_cons (be_var 1) (be_cons be_int be_nil)))))) be_nilB)) (blkOk_by (N := ["script", "w", "turn", "k", "counts", "at", "hour", "turns", "due", "times", "able", "heard", "h", "wrong", "row", "many", "short", "strokes", "place", "left", "hours", "missed", "goes", "bent", "found", "thing", "size", "one", "j"]) (sc := defScope s22) (own := [("k", 3)]) (by decide +kernel)) rfl (fun _ _ _ _ _ => (bg_slot 3 nd)) (fun _ _ _ _ _ => bts_nil) (fun _ _ _ _ _ => (be_op o_add (BB.of be_int) (BB.of (be_callD E.d17 hr takes0 (be_cons (be_var 1) (be_cons be_int be_nil)))))))) be_nilB)) be_nil)))))) be_nil))))
    (bss_cons (bs_set (j := 9) nd rfl (Or.inl rfl) (be_callD E.d17 hr tk (be_cons (be_var 1) (be_cons be_int be_nil))))
    (bss_cons (bs_ifs (PW.pt (bw_or (bt_not (bt_val (BB.of (be_callD E.d19 hr tk (be_cons (be_callD E.d3 hr tk (be_cons (be_var 4) (be_cons (be_var 5) (be_cons (be_var 9) be_nil)))) (be_cons (be_ty c_tuple rfl B.tuple bt_tuple (be_consB (BB.of (be_comp rfl nd (bi_range1 rfl B.range (be_consB (BB.of (be_var 9)) be_nilB)) (blkOk_by (N := ["script", "w", "turn", "k", "counts", "at", "hour", "turns", "due", "times", "able", "heard", "h", "wrong", "row", "many", "short", "strokes", "place", "left", "hours", "missed", "goes", "bent", "found", "thing", "size", "one", "j"]) (sc := defScope s22) (own := [("k", 3)]) (by decide +kernel)) rfl (fun _ _ _ _ _ => (bg_slot 3 nd)) (fun _ _ _ _ _ => bts_nil) (fun _ _ _ _ _ => (be_callD E.d20 hr takes0 (be_cons (be_var 4) (be_cons (be_op o_add (BB.of (be_var 5)) (BB.of (be_var 3))) be_nil)))))) be_nilB)) be_nil)))))) (bw_or1 (bt_not (bt_val (BB.of (be_callD E.d19 hr tk (be_cons (be_callD E.d4 hr tk (be_cons (be_var 4) be_nil)) (be_cons (be_tup (be_cons (be_bi (c_sum rfl) rfl B.sum bt_sum (be_consB (BB.of (be_var 4)) be_nilB)) (be_cons (be_ty c_tuple rfl B.tuple bt_tuple (be_consB (BB.of (be_comp rfl nd (bi_range1 rfl B.range (be_consB (BB.of (be_bi c_len rfl B.len bt_len (be_consB (BB.of (be_var 4)) be_nilB))) be_nilB)) (blkOk_by (N := ["script", "w", "turn", "k", "counts", "at", "hour", "turns", "due", "times", "able", "heard", "h", "wrong", "row", "many", "short", "strokes", "place", "left", "hours", "missed", "goes", "bent", "found", "thing", "size", "one", "j"]) (sc := defScope s22) (own := [("k", 3)]) (by decide +kernel)) rfl (fun _ _ _ _ _ => (bg_slot 3 nd)) (fun _ _ _ _ _ => bts_nil) (fun _ _ _ _ _ => (be_bi (c_sum rfl) rfl B.sum bt_sum (be_consB (BB.of (be_slice (BB.of (be_var 4)) bo_none (bo_some (be_var 3)))) be_nilB))))) be_nilB)) be_nil))) be_nil)))))))))
    (bss_cons (bs_ret be_bl)
    bss_nil)
    bss_nil)
    (bss_cons (bs_setC (j := 10) rfl nd rfl rfl (sw_true rfl rfl rfl (by decide +kernel)) (bi_range1 rfl B.range (be_consB (BB.of (be_bi c_len rfl B.len bt_len (be_consB (BB.of (be_var 4)) be_nilB))) be_nilB)) (blkOk_by (N := ["script", "w", "turn", "k", "counts", "at", "hour", "turns", "due", "times", "able", "heard", "h", "wrong", "row", "many", "short", "strokes", "place", "left", "hours", "missed", "goes", "bent", "found", "thing", "size", "one", "j"]) (sc := defScope s22) (own := [("k", 3)]) (by decide +kernel)) rfl (fun _ _ _ _ _ => (bg_slot 3 nd)) (fun _ _ _ _ _ => (bts_one (bt_val (BB.of (be_callD E.d21 hr takes0 (be_cons (be_var 4) (be_cons (be_var 8) (be_cons (be_op o_add (BB.of (be_var 5)) (BB.of (be_var 3))) (be_cons (be_var 6) be_nil))))))))) (fun _ _ _ _ _ => (be_var 3)))
    (bss_cons (bs_ifs (PW.pt (bw_or (bt_not (bt_val (BB.of (be_callD E.d19 hr tk (be_cons (be_callD E.d5 hr tk (be_cons (be_var 4) (be_cons (be_var 8) (be_cons (be_var 5) (be_cons (be_var 6) be_nil))))) (be_cons (be_callD E.d21 hr tk (be_cons (be_var 4) (be_cons (be_var 8) (be_cons (be_var 5) (be_cons (be_var 6) be_nil))))) be_nil)))))) (bw_or1 (bt_not (bt_val (BB.of (be_callD E.d19 hr tk (be_cons (be_callD E.d6 hr tk (be_cons (be_var 4) (be_cons (be_var 8) (be_cons (be_var 5) (be_cons (be_var 6) be_nil))))) (be_cons (be_ite (bt_cmp (o_ne hr.units) (BB.of (be_var 10)) (BB.of (be_lst be_nil)) (nomark _)) (be_ix (BB.of (be_var 10)) (BB.of be_int)) be_non) be_nil)))))))))
    (bss_cons (bs_ret be_bl)
    bss_nil)
    bss_nil)
    (bss_cons (bs_ifs (bt_not (bt_val (BB.of (be_callD E.d19 hr tk (be_cons (be_callD E.d7 hr tk (be_cons (be_var 4) (be_cons (be_var 8) (be_cons (be_var 5) (be_cons (be_var 6) be_nil))))) (be_cons (be_ite (bt_cmp (o_ne hr.units) (BB.of (be_var 10)) (BB.of (be_lst be_nil)) (nomark _)) (be_bi (c_sum rfl) rfl B.sum bt_sum (be_consB (BB.of (be_comp rfl nd (bi_range1 rfl B.range (be_consB (BB.of (be_ix (BB.of (be_var 10)) (BB.of be_int))) be_nilB)) (blkOk_by (N := ["script", "w", "turn", "k", "counts", "at", "hour", "turns", "due", "times", "able", "heard", "h", "wrong", "row", "many", "short", "strokes", "place", "left", "hours", "missed", "goes", "bent", "found", "thing", "size", "one", "j"]) (sc := defScope s22) (own := [("k", 3)]) (by decide +kernel)) rfl (fun _ _ _ _ _ => (bg_slot 3 nd)) (fun _ _ _ _ _ => bts_nil) (fun _ _ _ _ _ => (be_callD E.d20 hr takes0 (be_cons (be_var 4) (be_cons (be_op o_add (BB.of (be_var 5)) (BB.of (be_var 3))) be_nil)))))) be_nilB)) be_non) be_nil))))))
    (bss_cons (bs_ret be_bl)
    bss_nil)
    bss_nil)
    (bss_cons (bs_set (j := 11) nd rfl (Or.inr rfl) (be_ty c_tuple rfl B.tuple bt_tuple (be_consB (BB.of (be_comp rfl nd (bi_range1 rfl B.range (be_consB (BB.of (be_callD E.d17 hr tk (be_cons (be_var 1) (be_cons be_int be_nil)))) be_nilB)) (blkOk_by (N := ["script", "w", "turn", "k", "counts", "at", "hour", "turns", "due", "times", "able", "heard", "h", "wrong", "row", "many", "short", "strokes", "place", "left", "hours", "missed", "goes", "bent", "found", "thing", "size", "one", "j"]) (sc := defScope s22) (own := [("k", 3)]) (by decide +kernel)) rfl (fun _ _ _ _ _ => (bg_slot 3 nd)) (fun _ _ _ _ _ => bts_nil) (fun _ _ _ _ _ => (be_callD E.d20 hr takes0 (be_cons (be_var 4) (be_cons (be_op o_add (BB.of (be_var 5)) (BB.of (be_var 3))) be_nil)))))) be_nilB)))
    (bss_cons (bs_set (j := 11) nd rfl (Or.inr rfl) (be_ite (bt_cmp (o_gt) (BB.of (be_callD E.d17 hr tk (be_cons (be_var 1) (be_cons be_int be_nil)))) (BB.of be_int) (nomark _)) (be_var 11) (be_op o_add (BB.of (be_var 11)) (BB.of (be_tup (be_cons be_int be_nil))))))
    (bss_cons (bs_ifs (bt_not (bt_val (BB.of (be_callD E.d19 hr tk (be_cons (be_callD E.d8 hr tk (be_cons (be_var 4) (be_cons (be_var 11) be_nil))) (be_cons (be_ty c_tuple rfl B.tuple bt_tuple (be_consB (BB.of (be_comp rfl nd (bi_range1 rfl B.range (be_consB (BB.of (be_bi c_len rfl B.len bt_len (be_consB (BB.of (be_var 4)) be_nilB))) be_nilB)) (blkOk_by (N := ["script", "w", "turn", "k", "counts", "at", "hour", "turns", "due", "times", "able", "heard", "h", "wrong", "row", "many", "short", "strokes", "place", "left", "hours", "missed", "goes", "bent", "found", "thing", "size", "one", "j"]) (sc := defScope s22) (own := [("k", 3)]) (by decide +kernel)) rfl (fun _ _ _ _ _ => (bg_slot 3 nd)) (fun _ _ _ _ _ => (bts_one (bt_cmp (o_eq hr.units) (BB.of (be_comp rfl nd (bi_range1 rfl B.range (be_consB (BB.of (be_bi c_len rfl B.len bt_len (be_consB (BB.of (be_var 11)) be_nilB))) be_nilB)) (blkOk_by (own := [("j", 28)]) (by with_unfolding_all rfl)) rfl (fun _ _ _ _ _ => (bg_slot 28 nd)) (fun _ _ _ _ _ => (bts_one (bt_cmp (o_ne hr.units) (BB.of (be_callD E.d20 hr takes0 (be_cons (be_var 4) (be_cons (be_op o_add (BB.of (be_var 3)) (BB.of (be_var 28))) be_nil)))) (BB.of (be_ix (BB.of (be_var 11)) (BB.of (be_var 28)))) (nomark _)))) (fun _ _ _ _ _ => (be_var 28)))) (BB.of (be_lst be_nil)) (nomark _)))) (fun _ _ _ _ _ => (be_var 3)))) be_nilB)) be_nil))))))
    (bss_cons (bs_ret be_bl)
    bss_nil)
    bss_nil)
    (bss_cons (bs_setC (j := 13) rfl nd rfl rfl (sw_true rfl rfl rfl (by decide +kernel)) (bi_range1 rfl B.range (be_consB (BB.of (be_bi c_len rfl B.len bt_len (be_consB (BB.of (be_var 4)) be_nilB))) be_nilB)) (blkOk_by (N := ["script", "w", "turn", "k", "counts", "at", "hour", "turns", "due", "times", "able", "heard", "h", "wrong", "row", "many", "short", "strokes", "place", "left", "hours", "missed", "goes", "bent", "found", "thing", "size", "one", "j"]) (sc := defScope s22) (own := [("k", 3)]) (by decide +kernel)) rfl (fun _ _ _ _ _ => (bg_slot 3 nd)) (fun _ _ _ _ _ => bts_nil) (fun _ _ _ _ _ => (be_comp rfl nd (bi_range1 rfl B.range (be_consB (BB.of (be_bi c_len rfl B.len bt_len (be_consB (BB.of (be_var 8)) be_nilB))) be_nilB)) (blkOk_by (own := [("h", 12)]) (by with_unfolding_all rfl)) rfl (fun _ _ _ _ _ => (bg_slot 12 nd)) (fun _ _ _ _ _ => (bts_one (bt_cmp (o_ne hr.units) (BB.of (be_callD E.d20 hr takes0 (be_cons (be_var 4) (be_cons (be_op o_add (BB.of (be_var 3)) (BB.of (be_var 12))) be_nil)))) (BB.of (be_ix (BB.of (be_var 8)) (BB.of (be_var 12)))) (nomark _)))) (fun _ _ _ _ _ => (be_var 12)))))
    (bss_cons (bs_setC (j := 15) rfl nd rfl rfl (sw_true rfl rfl rfl (by decide +kernel)) (bi_seqB (BB.of (be_var 13))) (blkOk_by (N := ["script", "w", "turn", "k", "counts", "at", "hour", "turns", "due", "times", "able", "heard", "h", "wrong", "row", "many", "short", "strokes", "place", "left", "hours", "missed", "goes", "bent", "found", "thing", "size", "one", "j"]) (sc := defScope s22) (own := [("row", 14)]) (by decide +kernel)) rfl (fun _ _ _ _ _ => (bg_slot 14 nd)) (fun _ _ _ _ _ => bts_nil) (fun _ _ _ _ _ => (be_bi c_len rfl B.len bt_len (be_consB (be_pk 14) be_nilB))))
    (bss_cons (bs_ifs (PW.pt (bw_or (bt_not (bt_val (BB.of (be_callD E.d19 hr tk (be_cons (be_callD E.d9 hr tk (be_cons (be_var 4) (be_cons (be_var 8) (be_cons (be_var 5) be_nil)))) (be_cons (be_ty c_tuple rfl B.tuple bt_tuple (be_consB (BB.of (be_ix (BB.of (be_var 13)) (BB.of (be_var 5)))) be_nilB)) be_nil)))))) (bw_or1 (bt_not (bt_val (BB.of (be_callD E.d19 hr tk (be_cons (be_callD E.d10 hr tk (be_cons (be_var 4) (be_cons (be_var 8) be_nil))) (be_cons (be_tup (be_cons (be_index (BB.of (be_var 15)) (BB.of (be_bi (c_min1 rfl) rfl B.min bt_min (be_consB (BB.of (be_var 15)) be_nilB)))) (be_cons (be_bi (c_min1 rfl) rfl B.min bt_min (be_consB (BB.of (be_var 15)) be_nilB)) be_nil))) be_nil)))))))))
    (bss_cons (bs_ret be_bl)
    bss_nil)
    bss_nil)
    (bss_cons (bs_setC (j := 16) rfl nd rfl rfl (sw_true rfl rfl rfl (by decide +kernel)) (bi_range2 rfl B.range (be_consB (BB.of be_int) (be_consB (BB.of (be_op o_add (BB.of (be_bi c_len rfl B.len bt_len (be_consB (BB.of (be_var 8)) be_nilB))) (BB.of be_int))) be_nilB))) (blkOk_by (N := ["script", "w", "turn", "k", "counts", "at", "hour", "turns", "due", "times", "able", "heard", "h", "wrong", "row", "many", "short", "strokes", "place", "left", "hours", "missed", "goes", "bent", "found", "thing", "size", "one", "j"]) (sc := defScope s22) (own := [("size", 26)]) (by decide +kernel)) rfl (fun _ _ _ _ _ => (bg_slot 26 nd)) (fun _ _ _ _ _ => (bts_one (PW.pt (bw_and (bt_cmp (o_eq hr.units) (BB.of (be_comp rfl nd (bi_range1 rfl B.range (be_consB (BB.of (be_bi c_len rfl B.len bt_len (be_consB (BB.of (be_var 8)) be_nilB))) be_nilB)) (blkOk_by (own := [("k", 3)]) (by with_unfolding_all rfl)) rfl (fun _ _ _ _ _ => (bg_slot 3 nd)) (fun _ _ _ _ _ => (bts_one (bt_cmp (o_ne hr.units) (BB.of (be_ix (BB.of (be_var 8)) (BB.of (be_var 3)))) (BB.of (be_ix (BB.of (be_var 8)) (BB.of (be_op o_mod (BB.of (be_ty c_int rfl B.int bt_int (be_consB (BB.of (be_var 3)) be_nilB))) (BB.of (be_var 26)))))) (nomark _)))) (fun _ _ _ _ _ => (be_var 3)))) (BB.of (be_lst be_nil)) (nomark _)) (bw_and1 (bt_cmp (o_eq hr.units) (BB.of (be_op o_mod (BB.of (be_ty c_int rfl B.int bt_int (be_consB (BB.of (be_bi c_len rfl B.len bt_len (be_consB (BB.of (be_var 8)) be_nilB))) be_nilB))) (BB.of (be_var 26)))) (BB.of be_int) (nomark _))))))) (fun _ _ _ _ _ => (be_var 26)))
    (bss_cons (bs_ifs (PW.pt (bw_or (bt_not (bt_val (BB.of (be_callD E.d19 hr tk (be_cons (be_callD E.d12 hr tk (be_cons (be_var 8) be_nil)) (be_cons (be_slice (BB.of (be_var 8)) bo_none (bo_some (be_ix (BB.of (be_var 16)) (BB.of be_int)))) be_nil)))))) (bw_or1 (bt_not (bt_val (BB.of (be_callD E.d19 hr tk (be_cons (be_callD E.d11 hr tk (be_cons (be_var 4) (be_cons (be_var 8) be_nil))) (be_cons (be_and (be_cmp (o_eq hr.units) (BB.of (be_bi c_len rfl B.len bt_len (be_consB (BB.of (be_var 4)) be_nilB))) (BB.of (be_bi c_len rfl B.len bt_len (be_consB (BB.of (be_var 8)) be_nilB))) (nomark _)) (be_and1 (be_cmp (o_in) (BB.of be_int) (BB.of (be_var 15)) rfl))) be_nil)))))))))
    (bss_cons (bs_ret be_bl)
    bss_nil)
    bss_nil)
    (bss_cons (bs_par3 rfl nd rfl rfl rfl (by decide) (by decide) (by decide) rfl rfl rfl (pf_val (be_callD E.d17 hr tk (be_cons (be_var 1) (be_cons be_int be_nil))) (pf_val (be_var 5) (pf_val be_int pf_nil))) rfl)
    (bss_cons (bs_for hp rfl (bi_range1 rfl B.range (be_consB (BB.of (be_var 17)) be_nilB)) (bg_slot 3 nd)
    (bss_cons (bs_aug (j := 19) o_iadd nd rfl (Or.inl rfl) be_int)
    (bss_cons (bs_ifs (bt_cmp (o_eq hr.units) (BB.of (be_var 19)) (BB.of (be_callD E.d20 hr tk (be_cons (be_var 4) (be_cons (be_var 18) be_nil)))) (nomark _))
    (bss_cons (bs_par2 rfl nd rfl rfl (by decide) rfl rfl (pf_val (be_op o_mod (BB.of (be_ty c_int rfl B.int bt_int (be_consB (BB.of (be_op o_add (BB.of (be_var 18)) (BB.of be_int))) be_nilB))) (BB.of (be_bi c_len rfl B.len bt_len (be_consB (BB.of (be_var 4)) be_nilB)))) (pf_val be_int pf_nil)) rfl)
    bss_nil)
    bss_nil)
    bss_nil)))
    (bss_cons (bs_ifs (bt_not (bt_val (BB.of (be_callD E.d19 hr tk (be_cons (be_callD E.d13 hr tk (be_cons (be_var 4) (be_cons (be_var 5) (be_cons (be_var 17) be_nil)))) (be_cons (be_tup (be_cons (be_var 18) (be_cons (be_var 19) be_nil))) be_nil))))))
    (bss_cons (bs_ret be_bl)
    bss_nil)
    bss_nil)
    (bss_cons (bs_set (j := 20) nd rfl (Or.inl rfl) (be_callD E.d17 hr tk (be_cons (be_var 1) (be_cons be_int be_nil))))
    (bss_cons (bs_set (j := 21) nd rfl (Or.inl rfl) (be_ty c_tuple rfl B.tuple bt_tuple (be_consB (BB.of (be_comp rfl nd (bi_range1 rfl B.range (be_consB (BB.of (be_var 20)) be_nilB)) (blkOk_by (N := ["script", "w", "turn", "k", "counts", "at", "hour", "turns", "due", "times", "able", "heard", "h", "wrong", "row", "many", "short", "strokes", "place", "left", "hours", "missed", "goes", "bent", "found", "thing", "size", "one", "j"]) (sc := defScope s22) (own := [("h", 12)]) (by decide +kernel)) rfl (fun _ _ _ _ _ => (bg_slot 12 nd)) (fun _ _ _ _ _ => (bts_one (bt_cmp (o_eq hr.units) (BB.of (be_callD E.d17 hr takes0 (be_cons (be_var 1) (be_cons be_int be_nil)))) (BB.of be_int) (nomark _)))) (fun _ _ _ _ _ => (be_var 12)))) be_nilB)))
    (bss_cons (bs_par2 rfl nd rfl rfl (by decide) rfl rfl (pf_own (bf_lst be_nil) (pf_val be_int pf_nil)) rfl)
    (bss_cons (bs_for hp rfl (bi_range1 rfl B.range (be_consB (BB.of (be_var 20)) be_nilB)) (bg_slot 12 nd)
    (bss_cons (bs_app (j := 14) rfl (Or.inl rfl) (be_ite (bt_cmp (o_in) (BB.of (be_var 12)) (BB.of (be_var 21)) rfl) be_int (be_callD E.d20 hr tk (be_cons (be_var 4) (be_cons (be_var 22) be_nil)))))
    (bss_cons (bs_aug (j := 22) o_iadd nd rfl (Or.inl rfl) (be_ite (bt_cmp (o_in) (BB.of (be_var 12)) (BB.of (be_var 21)) rfl) be_int be_int))
    bss_nil)))
    (bss_cons (bs_ifs (PW.pt (bw_or (bt_not (bt_val (BB.of (be_callD E.d19 hr tk (be_cons (be_callD E.d14 hr tk (be_cons (be_var 4) (be_cons (be_var 8) (be_cons (be_var 20) (be_cons (be_var 21) be_nil))))) (be_cons (be_ty c_tuple rfl B.tuple bt_tuple (be_consB (be_pk 14) be_nilB)) be_nil)))))) (bw_or1 (bt_not (bt_val (BB.of (be_callD E.d19 hr tk (be_cons (be_callD E.d15 hr tk (be_cons (be_var 4) (be_cons (be_ty c_tuple rfl B.tuple bt_tuple (be_consB (be_pk 14) be_nilB)) be_nil))) (be_cons (be_var 21) be_nil)))))))))
    (bss_cons (bs_ret be_bl)
    bss_nil)
    bss_nil)
    (bss_cons (bs_ifs (bt_cmp (o_ne hr.units) (be_pk 14) (BB.of (be_lst be_nil)) (nomark _))
    (bss_cons (bs_set (j := 3) nd rfl (Or.inl rfl) (be_callD E.d17 hr tk (be_cons (be_var 1) (be_cons (be_bi c_len rfl B.len bt_len (be_consB (be_pk 14) be_nilB)) be_nil))))
    (bss_cons (bs_par3 rfl nd rfl rfl rfl (by decide) (by decide) (by decide) rfl rfl rfl (pf_val (be_ty c_tuple rfl B.tuple bt_tuple (be_consB (BB.of (be_op o_add (BB.of (be_op o_add (BB.of (be_slice (be_pk 14) bo_none (bo_some (be_var 3)))) (BB.of (be_lst (be_cons (be_op o_add (BB.of (be_ix (be_pk 14) (BB.of (be_var 3)))) (BB.of be_int)) be_nil))))) (BB.of (be_slice (be_pk 14) (bo_some (be_op o_add (BB.of (be_var 3)) (BB.of be_int))) bo_none)))) be_nilB)) (pf_val be_int (pf_val (be_lst be_nil) pf_nil))) rfl)
    (bss_cons (bs_for hp rfl (bi_range1 rfl B.range (be_consB (BB.of (be_var 20)) be_nilB)) (bg_slot 12 nd)
    (bss_cons (bs_ifs (bt_cmp (o_eq hr.units) (BB.of (be_ix (BB.of (be_var 23)) (BB.of (be_var 12)))) (BB.of be_int) (nomark _))
    (bss_cons (bs_set (j := 24) nd rfl (Or.inl rfl) (be_ite (bt_cmp (o_isNot) (BB.of (be_var 24)) (BB.of be_non) (nomark _)) (be_op o_add (BB.of (be_var 24)) (BB.of (be_lst (be_cons (be_var 12) be_nil)))) be_non))
    bss_nil)
    (bss_cons (bs_set (j := 24) nd rfl (Or.inl rfl) (be_ite (bt_cmp (o_eq hr.units) (BB.of (be_ix (BB.of (be_var 23)) (BB.of (be_var 12)))) (BB.of (be_callD E.d20 hr tk (be_cons (be_var 4) (be_cons (be_var 22) be_nil)))) (nomark _)) (be_var 24) be_non))
    (bss_cons (bs_aug (j := 22) o_iadd nd rfl (Or.inl rfl) be_int)
    bss_nil)))
    bss_nil))
    (bss_cons (bs_ifs (bt_not (bt_val (BB.of (be_callD E.d19 hr tk (be_cons (be_callD E.d15 hr tk (be_cons (be_var 4) (be_cons (be_var 23) be_nil))) (be_cons (be_ite (bt_cmp (o_isNot) (BB.of (be_var 24)) (BB.of be_non) (nomark _)) (be_ty c_tuple rfl B.tuple bt_tuple (be_consB (BB.of (be_var 24)) be_nilB)) be_non) be_nil))))))
    (bss_cons (bs_ret be_bl)
    bss_nil)
    bss_nil)
    bss_nil))))
    bss_nil)
    (bss_cons (bs_for hp rfl (bi_seq (be_tup (be_cons (be_var 4) (be_cons (be_tup be_nil) (be_cons be_non (be_cons (be_ty c_list rfl B.list bt_list (be_consB (BB.of (be_var 4)) be_nilB)) (be_cons (be_op o_add (BB.of (be_var 4)) (BB.of (be_tup (be_cons be_int be_nil)))) (be_cons (be_op o_add (BB.of (be_var 4)) (BB.of (be_tup (be_cons be_bl be_nil)))) (be_cons (be_op o_add (BB.of (be_var 4)) (BB.of (be_tup (be_cons be_int be_nil)))) (be_cons (be_op o_add (BB.of (be_var 4)) (BB.of (be_tup (be_cons be_non be_nil)))) be_nil)))))))))) (bg_slot 25 nd)
    (bss_cons (bs_ifs (bt_not (bt_val (BB.of (be_callD E.d19 hr tk (be_cons (be_callD E.d2 hr tk (be_cons (be_var 25) be_nil)) (be_cons (be_and (be_isi (t := .tup) rfl B.isinstance bt_isinstance rfl B.tuple bt_tuple (BB.of (be_var 25))) (be_and (be_cmp (o_ne hr.units) (BB.of (be_var 25)) (BB.of (be_tup be_nil)) (nomark _)) (be_and1 (be_cmp (o_eq hr.units) (BB.of (be_comp rfl nd (bi_seqB (BB.of (be_var 25))) (blkOk_by (N := ["script", "w", "turn", "k", "counts", "at", "hour", "turns", "due", "times", "able", "heard", "h", "wrong", "row", "many", "short", "strokes", "place", "left", "hours", "missed", "goes", "bent", "found", "thing", "size", "one", "j"]) (sc := defScope s22) (own := [("one", 27)]) (by decide +kernel)) rfl (fun _ _ _ _ _ => (bg_slot 27 nd)) (fun _ _ _ _ _ => (bts_one (PW.pt (bw_or (bt_not (bt_val (BB.of (be_isi (t := .int) rfl B.isinstance bt_isinstance rfl B.int bt_int (BB.of (be_var 27)))))) (bw_or (bt_val (BB.of (be_isi (t := .bool) rfl B.isinstance bt_isinstance rfl B.bool bt_bool (BB.of (be_var 27))))) (bw_or1 (bt_cmp (o_lt) (BB.of (be_var 27)) (BB.of be_int) (nomark _)))))))) (fun _ _ _ _ _ => (be_var 27)))) (BB.of (be_lst be_nil)) (nomark _))))) be_nil))))))
    (bss_cons (bs_ret be_bl)
    bss_nil)
    bss_nil)
    bss_nil))
    bss_nil))))))))))))))))))))))))))))
    (bss_cons (bs_ret be_bl)
    bss_nil))
/-- the law's promise: a list of at most 63 ints is handed in, True comes out -/
def spLaw (K : PySem.W.Frag) : Sp := fun vs H Q _ => ∃ (a : Addr) (ns : List Int), vs = [.ref a] ∧ Only H ∧ SqL K H a (ns.map V.int) ∧ ns.length ≤ 63 ∧ ∀ H', Q (.bl true) H'
theorem okLaw (B : Bn mg) (E : Ev P w K mg base k) (pl : Plain k) {f : Addr} {fd : FuncData} (F : Fun K "law" "law" s22 f fd) : FnOk P w K mg base (L2.CX P w) (k + 1) f fd ["script"] (spLaw K) := by
  refine F.okX c22 (fun vs H Q E h => ?_) (fun cdv A outer s H vs Q E0 hr h => ⟨_, bLaw B E f cdv A outer s H E0 hr, ?_⟩)
  · obtain ⟨a, ns, rfl, _⟩ := h
    rfl
  · obtain ⟨a, ns, rfl, hO, hS, hl, q⟩ := h
    obtain ⟨ds, o, e1, o', e2⟩ := pl ns hl
    have hs : LsA K (fun _ => False) H a (ns.map V.int) := hS.imp (fun h => ⟨h, fun z => z⟩) id
    have rp : Reps K none (fun _ => False) H [.ref a] [.lst (ns.map D.int)] := .cons (.lst hs (reps_ints ns)) .nil
    refine ⟨fun _ => False, startS 29 [.lst (ns.map D.int)], [], H, RS.start (N := ["script", "w", "turn", "k", "counts", "at", "hour", "turns", "due", "times", "able", "heard", "h", "wrong", "row", "many", "short", "strokes", "place", "left", "hours", "missed", "goes", "bent", "found", "thing", "size", "one", "j"]) rp trivial (fun _ h => by cases h) (fun _ h => h.elim) (Nat.succ_le_succ (Nat.zero_le _)), fun _ h => h, fun i d h => ?_, ds, o, e1, ?_⟩
    · unfold startS at h
      rw [getS_start] at h
      split at h <;> cases h
    · show match evSs (callN tab k) i22 (setS (startS 29 [.lst (ns.map D.int)]) 1 (.val .tok)) ds with | .rt d _ => _ | _ => False
      simp only [e2]
      intro v H' wa Av r
      cases r
      exact q H' 
end
theorem all_mk {P : Program} {w : World} {K : PySem.W.Frag} {h : Heap} {mg : Str → Option Value} {fa : Addr} (X : K.In h) (G : h.Ns mainGlobals mg) (hfa : mg "law" = some (.ref fa))
    {od0 an0 : Option Addr} {sl0 : Array (Option Value)} {oc0 kV0 dc0 pm0 cd0 ct0 : Value} {f0 : Addr}
    {od1 an1 : Option Addr} {sl1 : Array (Option Value)} {oc1 kV1 dc1 pm1 cd1 ct1 : Value} {f1 : Addr}
    {od2 an2 : Option Addr} {sl2 : Array (Option Value)} {oc2 kV2 dc2 pm2 cd2 ct2 : Value} {f2 : Addr}
    {od3 an3 : Option Addr} {sl3 : Array (Option Value)} {oc3 kV3 dc3 pm3 cd3 ct3 : Value} {f3 : Addr}
    {od4 an4 : Option Addr} {sl4 : Array (Option Value)} {oc4 kV4 dc4 pm4 cd4 ct4 : Value} {f4 : Addr}
    {od5 an5 : Option Addr} {sl5 : Array (Option Value)} {oc5 kV5 dc5 pm5 cd5 ct5 : Value} {f5 : Addr}
    {od6 an6 : Option Addr} {sl6 : Array (Option Value)} {oc6 kV6 dc6 pm6 cd6 ct6 : Value} {f6 : Addr}
    {od7 an7 : Option Addr} {sl7 : Array (Option Value)} {oc7 kV7 dc7 pm7 cd7 ct7 : Value} {f7 : Addr}
    {od8 an8 : Option Addr} {sl8 : Array (Option Value)} {oc8 kV8 dc8 pm8 cd8 ct8 : Value} {f8 : Addr}
    {od9 an9 : Option Addr} {sl9 : Array (Option Value)} {oc9 kV9 dc9 pm9 cd9 ct9 : Value} {f9 : Addr}
    {od10 an10 : Option Addr} {sl10 : Array (Option Value)} {oc10 kV10 dc10 pm10 cd10 ct10 : Value} {f10 : Addr}
    {od11 an11 : Option Addr} {sl11 : Array (Option Value)} {oc11 kV11 dc11 pm11 cd11 ct11 : Value} {f11 : Addr}
    {od12 an12 : Option Addr} {sl12 : Array (Option Value)} {oc12 kV12 dc12 pm12 cd12 ct12 : Value} {f12 : Addr}
    {od13 an13 : Option Addr} {sl13 : Array (Option Value)} {oc13 kV13 dc13 pm13 cd13 ct13 : Value} {f13 : Addr}
    {od14 an14 : Option Addr} {sl14 : Array (Option Value)} {oc14 kV14 dc14 pm14 cd14 ct14 : Value} {f14 : Addr}
    {od15 an15 : Option Addr} {sl15 : Array (Option Value)} {oc15 kV15 dc15 pm15 cd15 ct15 : Value} {f15 : Addr}
    {od16 an16 : Option Addr} {sl16 : Array (Option Value)} {oc16 kV16 dc16 pm16 cd16 ct16 : Value} {f16 : Addr}
    {od17 an17 : Option Addr} {sl17 : Array (Option Value)} {oc17 kV17 dc17 pm17 cd17 ct17 : Value} {f17 : Addr}
    {od18 an18 : Option Addr} {sl18 : Array (Option Value)} {oc18 kV18 dc18 pm18 cd18 ct18 : Value} {f18 : Addr}
    {od19 an19 : Option Addr} {sl19 : Array (Option Value)} {oc19 kV19 dc19 pm19 cd19 ct19 : Value} {f19 : Addr}
    {od20 an20 : Option Addr} {sl20 : Array (Option Value)} {oc20 kV20 dc20 pm20 cd20 ct20 : Value} {f20 : Addr}
    {od21 an21 : Option Addr} {sl21 : Array (Option Value)} {oc21 kV21 dc21 pm21 cd21 ct21 : Value} {f21 : Addr}
    {od22 an22 : Option Addr} {sl22 : Array (Option Value)} {oc22 kV22 dc22 pm22 cd22 ct22 : Value} {f22 : Addr}
    (a0 : PySem.W.nsIn K mainGlobals "is_number" = some (some (.ref f0))) (l0 : K.lookup f0 = some ⟨oc0, od0, .func (PySem.W.fnOf "is_number" "is_number" (defArgs s0) (defBody s0) (defScope s0) .none kV0 dc0 pm0 an0 cd0 ct0), sl0⟩) (c0 : PySem.W.codeIn K cd0 "is_number" = true) (k0 : PySem.W.keepIn K (.ref f0) = true)
    (a1 : PySem.W.nsIn K mainGlobals "is_from" = some (some (.ref f1))) (l1 : K.lookup f1 = some ⟨oc1, od1, .func (PySem.W.fnOf "is_from" "is_from" (defArgs s1) (defBody s1) (defScope s1) .none kV1 dc1 pm1 an1 cd1 ct1), sl1⟩) (c1 : PySem.W.codeIn K cd1 "is_from" = true) (k1 : PySem.W.keepIn K (.ref f1) = true)
    (a2 : PySem.W.nsIn K mainGlobals "are_counts" = some (some (.ref f2))) (l2 : K.lookup f2 = some ⟨oc2, od2, .func (PySem.W.fnOf "are_counts" "are_counts" (defArgs s2) (defBody s2) (defScope s2) .none kV2 dc2 pm2 an2 cd2 ct2), sl2⟩) (c2 : PySem.W.codeIn K cd2 "are_counts" = true) (k2 : PySem.W.keepIn K (.ref f2) = true)
    (a3 : PySem.W.nsIn K mainGlobals "struck" = some (some (.ref f3))) (l3 : K.lookup f3 = some ⟨oc3, od3, .func (PySem.W.fnOf "struck" "struck" (defArgs s3) (defBody s3) (defScope s3) .none kV3 dc3 pm3 an3 cd3 ct3), sl3⟩) (c3 : PySem.W.codeIn K cd3 "struck" = true) (k3 : PySem.W.keepIn K (.ref f3) = true)
    (a4 : PySem.W.nsIn K mainGlobals "teeth_of" = some (some (.ref f4))) (l4 : K.lookup f4 = some ⟨oc4, od4, .func (PySem.W.fnOf "teeth_of" "teeth_of" (defArgs s4) (defBody s4) (defScope s4) .none kV4 dc4 pm4 an4 cd4 ct4), sl4⟩) (c4 : PySem.W.codeIn K cd4 "teeth_of" = true) (k4 : PySem.W.keepIn K (.ref f4) = true)
    (a5 : PySem.W.nsIn K mainGlobals "in_step" = some (some (.ref f5))) (l5 : K.lookup f5 = some ⟨oc5, od5, .func (PySem.W.fnOf "in_step" "in_step" (defArgs s5) (defBody s5) (defScope s5) .none kV5 dc5 pm5 an5 cd5 ct5), sl5⟩) (c5 : PySem.W.codeIn K cd5 "in_step" = true) (k5 : PySem.W.keepIn K (.ref f5) = true)
    (a6 : PySem.W.nsIn K mainGlobals "trips_to" = some (some (.ref f6))) (l6 : K.lookup f6 = some ⟨oc6, od6, .func (PySem.W.fnOf "trips_to" "trips_to" (defArgs s6) (defBody s6) (defScope s6) .none kV6 dc6 pm6 an6 cd6 ct6), sl6⟩) (c6 : PySem.W.codeIn K cd6 "trips_to" = true) (k6 : PySem.W.keepIn K (.ref f6) = true)
    (a7 : PySem.W.nsIn K mainGlobals "strokes_to" = some (some (.ref f7))) (l7 : K.lookup f7 = some ⟨oc7, od7, .func (PySem.W.fnOf "strokes_to" "strokes_to" (defArgs s7) (defBody s7) (defScope s7) .none kV7 dc7 pm7 an7 cd7 ct7), sl7⟩) (c7 : PySem.W.codeIn K cd7 "strokes_to" = true) (k7 : PySem.W.keepIn K (.ref f7) = true)
    (a8 : PySem.W.nsIn K mainGlobals "places_heard" = some (some (.ref f8))) (l8 : K.lookup f8 = some ⟨oc8, od8, .func (PySem.W.fnOf "places_heard" "places_heard" (defArgs s8) (defBody s8) (defScope s8) .none kV8 dc8 pm8 an8 cd8 ct8), sl8⟩) (c8 : PySem.W.codeIn K cd8 "places_heard" = true) (k8 : PySem.W.keepIn K (.ref f8) = true)
    (a9 : PySem.W.nsIn K mainGlobals "wrong_hours" = some (some (.ref f9))) (l9 : K.lookup f9 = some ⟨oc9, od9, .func (PySem.W.fnOf "wrong_hours" "wrong_hours" (defArgs s9) (defBody s9) (defScope s9) .none kV9 dc9 pm9 an9 cd9 ct9), sl9⟩) (c9 : PySem.W.codeIn K cd9 "wrong_hours" = true) (k9 : PySem.W.keepIn K (.ref f9) = true)
    (a10 : PySem.W.nsIn K mainGlobals "best_place" = some (some (.ref f10))) (l10 : K.lookup f10 = some ⟨oc10, od10, .func (PySem.W.fnOf "best_place" "best_place" (defArgs s10) (defBody s10) (defScope s10) .none kV10 dc10 pm10 an10 cd10 ct10), sl10⟩) (c10 : PySem.W.codeIn K cd10 "best_place" = true) (k10 : PySem.W.keepIn K (.ref f10) = true)
    (a11 : PySem.W.nsIn K mainGlobals "is_round" = some (some (.ref f11))) (l11 : K.lookup f11 = some ⟨oc11, od11, .func (PySem.W.fnOf "is_round" "is_round" (defArgs s11) (defBody s11) (defScope s11) .none kV11 dc11 pm11 an11 cd11 ct11), sl11⟩) (c11 : PySem.W.codeIn K cd11 "is_round" = true) (k11 : PySem.W.keepIn K (.ref f11) = true)
    (a12 : PySem.W.nsIn K mainGlobals "wheel_for" = some (some (.ref f12))) (l12 : K.lookup f12 = some ⟨oc12, od12, .func (PySem.W.fnOf "wheel_for" "wheel_for" (defArgs s12) (defBody s12) (defScope s12) .none kV12 dc12 pm12 an12 cd12 ct12), sl12⟩) (c12 : PySem.W.codeIn K cd12 "wheel_for" = true) (k12 : PySem.W.keepIn K (.ref f12) = true)
    (a13 : PySem.W.nsIn K mainGlobals "after_strokes" = some (some (.ref f13))) (l13 : K.lookup f13 = some ⟨oc13, od13, .func (PySem.W.fnOf "after_strokes" "after_strokes" (defArgs s13) (defBody s13) (defScope s13) .none kV13 dc13 pm13 an13 cd13 ct13), sl13⟩) (c13 : PySem.W.codeIn K cd13 "after_strokes" = true) (k13 : PySem.W.keepIn K (.ref f13) = true)
    (a14 : PySem.W.nsIn K mainGlobals "lost_step" = some (some (.ref f14))) (l14 : K.lookup f14 = some ⟨oc14, od14, .func (PySem.W.fnOf "lost_step" "lost_step" (defArgs s14) (defBody s14) (defScope s14) .none kV14 dc14 pm14 an14 cd14 ct14), sl14⟩) (c14 : PySem.W.codeIn K cd14 "lost_step" = true) (k14 : PySem.W.keepIn K (.ref f14) = true)
    (a15 : PySem.W.nsIn K mainGlobals "misses_for" = some (some (.ref f15))) (l15 : K.lookup f15 = some ⟨oc15, od15, .func (PySem.W.fnOf "misses_for" "misses_for" (defArgs s15) (defBody s15) (defScope s15) .none kV15 dc15 pm15 an15 cd15 ct15), sl15⟩) (c15 : PySem.W.codeIn K cd15 "misses_for" = true) (k15 : PySem.W.keepIn K (.ref f15) = true)
    (a16 : PySem.W.nsIn K mainGlobals "_law_draws" = some (some (.ref f16))) (l16 : K.lookup f16 = some ⟨oc16, od16, .func (PySem.W.fnOf "_law_draws" "_law_draws" (defArgs s16) (defBody s16) (defScope s16) .none kV16 dc16 pm16 an16 cd16 ct16), sl16⟩) (c16 : PySem.W.codeIn K cd16 "_law_draws" = true) (k16 : PySem.W.keepIn K (.ref f16) = true)
    (a17 : PySem.W.nsIn K mainGlobals "_law_next" = some (some (.ref f17))) (l17 : K.lookup f17 = some ⟨oc17, od17, .func (PySem.W.fnOf "_law_next" "_law_next" (defArgs s17) (defBody s17) (defScope s17) .none kV17 dc17 pm17 an17 cd17 ct17), sl17⟩) (c17 : PySem.W.codeIn K cd17 "_law_next" = true) (k17 : PySem.W.keepIn K (.ref f17) = true)
    (a18 : PySem.W.nsIn K mainGlobals "_law_pick" = some (some (.ref f18))) (l18 : K.lookup f18 = some ⟨oc18, od18, .func (PySem.W.fnOf "_law_pick" "_law_pick" (defArgs s18) (defBody s18) (defScope s18) .none kV18 dc18 pm18 an18 cd18 ct18), sl18⟩) (c18 : PySem.W.codeIn K cd18 "_law_pick" = true) (k18 : PySem.W.keepIn K (.ref f18) = true)
    (a19 : PySem.W.nsIn K mainGlobals "_law_alike" = some (some (.ref f19))) (l19 : K.lookup f19 = some ⟨oc19, od19, .func (PySem.W.fnOf "_law_alike" "_law_alike" (defArgs s19) (defBody s19) (defScope s19) .none kV19 dc19 pm19 an19 cd19 ct19), sl19⟩) (c19 : PySem.W.codeIn K cd19 "_law_alike" = true) (k19 : PySem.W.keepIn K (.ref f19) = true)
    (a20 : PySem.W.nsIn K mainGlobals "_law_at" = some (some (.ref f20))) (l20 : K.lookup f20 = some ⟨oc20, od20, .func (PySem.W.fnOf "_law_at" "_law_at" (defArgs s20) (defBody s20) (defScope s20) .none kV20 dc20 pm20 an20 cd20 ct20), sl20⟩) (c20 : PySem.W.codeIn K cd20 "_law_at" = true) (k20 : PySem.W.keepIn K (.ref f20) = true)
    (a21 : PySem.W.nsIn K mainGlobals "_law_steps" = some (some (.ref f21))) (l21 : K.lookup f21 = some ⟨oc21, od21, .func (PySem.W.fnOf "_law_steps" "_law_steps" (defArgs s21) (defBody s21) (defScope s21) .none kV21 dc21 pm21 an21 cd21 ct21), sl21⟩) (c21 : PySem.W.codeIn K cd21 "_law_steps" = true) (k21 : PySem.W.keepIn K (.ref f21) = true)
    (a22 : PySem.W.nsIn K mainGlobals "law" = some (some (.ref f22))) (l22 : K.lookup f22 = some ⟨oc22, od22, .func (PySem.W.fnOf "law" "law" (defArgs s22) (defBody s22) (defScope s22) .none kV22 dc22 pm22 an22 cd22 ct22), sl22⟩) (c22 : PySem.W.codeIn K cd22 "law" = true) (k22 : PySem.W.keepIn K (.ref f22) = true)
    (z_abs : PySem.W.nsIn K mainGlobals "abs" = some none)
    (z_all : PySem.W.nsIn K mainGlobals "all" = some none)
    (z_any : PySem.W.nsIn K mainGlobals "any" = some none)
    (z_bool : PySem.W.nsIn K mainGlobals "bool" = some none)
    (z_int : PySem.W.nsIn K mainGlobals "int" = some none)
    (z_isinstance : PySem.W.nsIn K mainGlobals "isinstance" = some none)
    (z_len : PySem.W.nsIn K mainGlobals "len" = some none)
    (z_list : PySem.W.nsIn K mainGlobals "list" = some none)
    (z_min : PySem.W.nsIn K mainGlobals "min" = some none)
    (z_range : PySem.W.nsIn K mainGlobals "range" = some none)
    (z_str : PySem.W.nsIn K mainGlobals "str" = some none)
    (z_sum : PySem.W.nsIn K mainGlobals "sum" = some none)
    (z_tuple : PySem.W.nsIn K mainGlobals "tuple" = some none) :
    ∃ fd : FuncData, (∀ (s : Shared) (v : Value), BindsTo s fd ⟨[v], []⟩ [("script", v)]) ∧ ∀ base : Heap, K.In base → base.Ns mainGlobals mg → FnOk P w K mg base (L2.CX P w) 61 fa fd ["script"] (spLaw K) := by
  have e := hfa.symm.trans (PySem.W.mg_of X G a22)
  cases e
  have B : Bn mg := ⟨PySem.W.mg_none_of X G z_abs, PySem.W.mg_none_of X G z_all, PySem.W.mg_none_of X G z_any, PySem.W.mg_none_of X G z_bool, PySem.W.mg_none_of X G z_int, PySem.W.mg_none_of X G z_isinstance, PySem.W.mg_none_of X G z_len, PySem.W.mg_none_of X G z_list, PySem.W.mg_none_of X G z_min, PySem.W.mg_none_of X G z_range, PySem.W.mg_none_of X G z_str, PySem.W.mg_none_of X G z_sum, PySem.W.mg_none_of X G z_tuple⟩
  have T0 : DefF K mg "is_number" s0 ["thing"] := ⟨f0, _, PySem.W.mg_of X G a0, fun_mk (st := s0) l0 c0 k0, (fun_mk (st := s0) l0 c0 k0).binds (ps := ["thing"]) fun _ _ _ _ _ _ us hl => match us, hl with | [_], _ => rfl⟩
  have T1 : DefF K mg "is_from" s1 ["thing", "least"] := ⟨f1, _, PySem.W.mg_of X G a1, fun_mk (st := s1) l1 c1 k1, (fun_mk (st := s1) l1 c1 k1).binds (ps := ["thing", "least"]) fun _ _ _ _ _ _ us hl => match us, hl with | [_, _], _ => rfl⟩
  have T2 : DefF K mg "are_counts" s2 ["thing"] := ⟨f2, _, PySem.W.mg_of X G a2, fun_mk (st := s2) l2 c2 k2, (fun_mk (st := s2) l2 c2 k2).binds (ps := ["thing"]) fun _ _ _ _ _ _ us hl => match us, hl with | [_], _ => rfl⟩
  have T3 : DefF K mg "struck" s3 ["counts", "at", "times"] := ⟨f3, _, PySem.W.mg_of X G a3, fun_mk (st := s3) l3 c3 k3, (fun_mk (st := s3) l3 c3 k3).binds (ps := ["counts", "at", "times"]) fun _ _ _ _ _ _ us hl => match us, hl with | [_, _, _], _ => rfl⟩
  have T4 : DefF K mg "teeth_of" s4 ["counts"] := ⟨f4, _, PySem.W.mg_of X G a4, fun_mk (st := s4) l4 c4 k4, (fun_mk (st := s4) l4 c4 k4).binds (ps := ["counts"]) fun _ _ _ _ _ _ us hl => match us, hl with | [_], _ => rfl⟩
  have T5 : DefF K mg "in_step" s5 ["counts", "due", "at", "hour"] := ⟨f5, _, PySem.W.mg_of X G a5, fun_mk (st := s5) l5 c5 k5, (fun_mk (st := s5) l5 c5 k5).binds (ps := ["counts", "due", "at", "hour"]) fun _ _ _ _ _ _ us hl => match us, hl with | [_, _, _, _], _ => rfl⟩
  have T6 : DefF K mg "trips_to" s6 ["counts", "due", "at", "hour"] := ⟨f6, _, PySem.W.mg_of X G a6, fun_mk (st := s6) l6 c6 k6, (fun_mk (st := s6) l6 c6 k6).binds (ps := ["counts", "due", "at", "hour"]) fun _ _ _ _ _ _ us hl => match us, hl with | [_, _, _, _], _ => rfl⟩
  have T7 : DefF K mg "strokes_to" s7 ["counts", "due", "at", "hour"] := ⟨f7, _, PySem.W.mg_of X G a7, fun_mk (st := s7) l7 c7 k7, (fun_mk (st := s7) l7 c7 k7).binds (ps := ["counts", "due", "at", "hour"]) fun _ _ _ _ _ _ us hl => match us, hl with | [_, _, _, _], _ => rfl⟩
  have T8 : DefF K mg "places_heard" s8 ["counts", "heard"] := ⟨f8, _, PySem.W.mg_of X G a8, fun_mk (st := s8) l8 c8 k8, (fun_mk (st := s8) l8 c8 k8).binds (ps := ["counts", "heard"]) fun _ _ _ _ _ _ us hl => match us, hl with | [_, _], _ => rfl⟩
  have T9 : DefF K mg "wrong_hours" s9 ["counts", "due", "at"] := ⟨f9, _, PySem.W.mg_of X G a9, fun_mk (st := s9) l9 c9 k9, (fun_mk (st := s9) l9 c9 k9).binds (ps := ["counts", "due", "at"]) fun _ _ _ _ _ _ us hl => match us, hl with | [_, _, _], _ => rfl⟩
  have T10 : DefF K mg "best_place" s10 ["counts", "due"] := ⟨f10, _, PySem.W.mg_of X G a10, fun_mk (st := s10) l10 c10 k10, (fun_mk (st := s10) l10 c10 k10).binds (ps := ["counts", "due"]) fun _ _ _ _ _ _ us hl => match us, hl with | [_, _], _ => rfl⟩
  have T11 : DefF K mg "is_round" s11 ["counts", "due"] := ⟨f11, _, PySem.W.mg_of X G a11, fun_mk (st := s11) l11 c11 k11, (fun_mk (st := s11) l11 c11 k11).binds (ps := ["counts", "due"]) fun _ _ _ _ _ _ us hl => match us, hl with | [_, _], _ => rfl⟩
  have T12 : DefF K mg "wheel_for" s12 ["due"] := ⟨f12, _, PySem.W.mg_of X G a12, fun_mk (st := s12) l12 c12 k12, (fun_mk (st := s12) l12 c12 k12).binds (ps := ["due"]) fun _ _ _ _ _ _ us hl => match us, hl with | [_], _ => rfl⟩
  have T13 : DefF K mg "after_strokes" s13 ["counts", "at", "strokes"] := ⟨f13, _, PySem.W.mg_of X G a13, fun_mk (st := s13) l13 c13 k13, (fun_mk (st := s13) l13 c13 k13).binds (ps := ["counts", "at", "strokes"]) fun _ _ _ _ _ _ us hl => match us, hl with | [_, _, _], _ => rfl⟩
  have T14 : DefF K mg "lost_step" s14 ["counts", "due", "hours", "missed"] := ⟨f14, _, PySem.W.mg_of X G a14, fun_mk (st := s14) l14 c14 k14, (fun_mk (st := s14) l14 c14 k14).binds (ps := ["counts", "due", "hours", "missed"]) fun _ _ _ _ _ _ us hl => match us, hl with | [_, _, _, _], _ => rfl⟩
  have T15 : DefF K mg "misses_for" s15 ["counts", "heard"] := ⟨f15, _, PySem.W.mg_of X G a15, fun_mk (st := s15) l15 c15 k15, (fun_mk (st := s15) l15 c15 k15).binds (ps := ["counts", "heard"]) fun _ _ _ _ _ _ us hl => match us, hl with | [_, _], _ => rfl⟩
  have T16 : DefF K mg "_law_draws" s16 ["script", "many"] := ⟨f16, _, PySem.W.mg_of X G a16, fun_mk (st := s16) l16 c16 k16, (fun_mk (st := s16) l16 c16 k16).binds (ps := ["script", "many"]) fun _ _ _ _ _ _ us hl => match us, hl with | [_, _], _ => rfl⟩
  have T17 : DefF K mg "_law_next" s17 ["w", "many"] := ⟨f17, _, PySem.W.mg_of X G a17, fun_mk (st := s17) l17 c17 k17, (fun_mk (st := s17) l17 c17 k17).binds (ps := ["w", "many"]) fun _ _ _ _ _ _ us hl => match us, hl with | [_, _], _ => rfl⟩
  have T18 : DefF K mg "_law_pick" s18 ["w", "rows"] := ⟨f18, _, PySem.W.mg_of X G a18, fun_mk (st := s18) l18 c18 k18, (fun_mk (st := s18) l18 c18 k18).binds (ps := ["w", "rows"]) fun _ _ _ _ _ _ us hl => match us, hl with | [_, _], _ => rfl⟩
  have T19 : DefF K mg "_law_alike" s19 ["given", "due"] := ⟨f19, _, PySem.W.mg_of X G a19, fun_mk (st := s19) l19 c19 k19, (fun_mk (st := s19) l19 c19 k19).binds (ps := ["given", "due"]) fun _ _ _ _ _ _ us hl => match us, hl with | [_, _], _ => rfl⟩
  have T20 : DefF K mg "_law_at" s20 ["counts", "k"] := ⟨f20, _, PySem.W.mg_of X G a20, fun_mk (st := s20) l20 c20 k20, (fun_mk (st := s20) l20 c20 k20).binds (ps := ["counts", "k"]) fun _ _ _ _ _ _ us hl => match us, hl with | [_, _], _ => rfl⟩
  have T21 : DefF K mg "_law_steps" s21 ["counts", "due", "at", "hour"] := ⟨f21, _, PySem.W.mg_of X G a21, fun_mk (st := s21) l21 c21 k21, (fun_mk (st := s21) l21 c21 k21).binds (ps := ["counts", "due", "at", "hour"]) fun _ _ _ _ _ _ us hl => match us, hl with | [_, _, _, _], _ => rfl⟩
  have T : Tx K mg := ⟨T0, T1, T2, T3, T4, T5, T6, T7, T8, T9, T10, T11, T12, T13, T14, T15, T16, T17, T18, T19, T20, T21⟩
  have F := fun_mk (st := s22) l22 c22 k22
  exact ⟨PySem.W.fnOf "law" "law" (defArgs s22) (defBody s22) (defScope s22) .none kV22 dc22 pm22 an22 cd22 ct22, fun s v => .of_eq rfl, fun base _ _ => okLaw B (evA B T 60) plain F⟩
theorem walk {l : PySem.W.OpenLaw} {q : Program} {loose : List Str} {XP : (Str → Option Value) → Heap → Prop} {YP : World → Heap → Prop} {d : DefRec} {K : Params → PySem.W.Frag} (hn : l.most = some 63) (hdf : d.params.defaults = [])
    (hY : ∀ (w : World) (h : Heap), YP w h → (K w.params).In h)
    (F : ∀ (w : World) (mg : Str → Option Value) (fa : Addr) (h : Heap), (K w.params).In h → h.Ns mainGlobals mg → mg d.name = some (.ref fa) →
      ∃ fd : FuncData, (∀ (s : Shared) (u : Value), BindsTo s fd ⟨[u], []⟩ [("script", u)]) ∧ ∀ base : Heap, (K w.params).In base → base.Ns mainGlobals mg → FnOk l.prog w (K w.params) mg base (L2.CX l.prog w) 61 fa fd ["script"] (spLaw (K w.params))) :
    PySem.W.WalkO q loose XP YP l.row.toRowW d [] (fun f vs => PySem.call f vs) :=
  L2.walk_of (n := 63) (k := 61) (x := "script") (CX := fun w => L2.CX l.prog w) (sp := fun w => spLaw (K w.params)) hn (by decide) hdf ⟨rfl, by decide, by decide⟩ hY F (fun _ _ a ns hl hO hS => ⟨a, ns, rfl, hO, hS, hl, fun _ => rfl⟩) fun _ _ _ _ _ z => by
    obtain ⟨_, _, _, _, _, _, _, _, _, _, _, _, z⟩ := z
    exact z
end Wk61
open PySem PySem.W PyProof.Rows
set_option maxRecDepth 100000 in
set_option maxHeartbeats 0 in
theorem PySem.Challenge.cw_dialsread_k61_wheels_that_count_holds : PySem.Challenge.rw_dialsread_k61_wheels_that_count.Holds := by
  w_on; o_law; k_head; (case hw => w_witness2)
  k_fill
  refine Wk61.walk (l := PySem.Challenge.rw_dialsread_k61_wheels_that_count) rfl rfl (fun w h Y => PySem.W.kIn_of Y) ?F
  case F =>
    intro w mg fa h KX G hmg
    refine' Wk61.all_mk KX G hmg ?a0 ?l0 ?c0 ?k0 ?a1 ?l1 ?c1 ?k1 ?a2 ?l2 ?c2 ?k2 ?a3 ?l3 ?c3 ?k3 ?a4 ?l4 ?c4 ?k4 ?a5 ?l5 ?c5 ?k5 ?a6 ?l6 ?c6 ?k6 ?a7 ?l7 ?c7 ?k7 ?a8 ?l8 ?c8 ?k8 ?a9 ?l9 ?c9 ?k9 ?a10 ?l10 ?c10 ?k10 ?a11 ?l11 ?c11 ?k11 ?a12 ?l12 ?c12 ?k12 ?a13 ?l13 ?c13 ?k13 ?a14 ?l14 ?c14 ?k14 ?a15 ?l15 ?c15 ?k15 ?a16 ?l16 ?c16 ?k16 ?a17 ?l17 ?c17 ?k17 ?a18 ?l18 ?c18 ?k18 ?a19 ?l19 ?c19 ?k19 ?a20 ?l20 ?c20 ?k20 ?a21 ?l21 ?c21 ?k21 ?a22 ?l22 ?c22 ?k22 ?z_abs ?z_all ?z_any ?z_bool ?z_int ?z_isinstance ?z_len ?z_list ?z_min ?z_range ?z_str ?z_sum ?z_tuple
    (case a0 => k_is)
    (case l0 => k_is)
    (case c0 => k_is)
    (case k0 => k_is)
    (case a1 => k_is)
    (case l1 => k_is)
    (case c1 => k_is)
    (case k1 => k_is)
    (case a2 => k_is)
    (case l2 => k_is)
    (case c2 => k_is)
    (case k2 => k_is)
    (case a3 => k_is)
    (case l3 => k_is)
    (case c3 => k_is)
    (case k3 => k_is)
    (case a4 => k_is)
    (case l4 => k_is)
    (case c4 => k_is)
    (case k4 => k_is)
    (case a5 => k_is)
    (case l5 => k_is)
    (case c5 => k_is)
    (case k5 => k_is)
    (case a6 => k_is)
    (case l6 => k_is)
    (case c6 => k_is)
    (case k6 => k_is)
    (case a7 => k_is)
    (case l7 => k_is)
    (case c7 => k_is)
    (case k7 => k_is)
    (case a8 => k_is)
    (case l8 => k_is)
    (case c8 => k_is)
    (case k8 => k_is)
    (case a9 => k_is)
    (case l9 => k_is)
    (case c9 => k_is)
    (case k9 => k_is)
    (case a10 => k_is)
    (case l10 => k_is)
    (case c10 => k_is)
    (case k10 => k_is)
    (case a11 => k_is)
    (case l11 => k_is)
    (case c11 => k_is)
    (case k11 => k_is)
    (case a12 => k_is)
    (case l12 => k_is)
    (case c12 => k_is)
    (case k12 => k_is)
    (case a13 => k_is)
    (case l13 => k_is)
    (case c13 => k_is)
    (case k13 => k_is)
    (case a14 => k_is)
    (case l14 => k_is)
    (case c14 => k_is)
    (case k14 => k_is)
    (case a15 => k_is)
    (case l15 => k_is)
    (case c15 => k_is)
    (case k15 => k_is)
    (case a16 => k_is)
    (case l16 => k_is)
    (case c16 => k_is)
    (case k16 => k_is)
    (case a17 => k_is)
    (case l17 => k_is)
    (case c17 => k_is)
    (case k17 => k_is)
    (case a18 => k_is)
    (case l18 => k_is)
    (case c18 => k_is)
    (case k18 => k_is)
    (case a19 => k_is)
    (case l19 => k_is)
    (case c19 => k_is)
    (case k19 => k_is)
    (case a20 => k_is)
    (case l20 => k_is)
    (case c20 => k_is)
    (case k20 => k_is)
    (case a21 => k_is)
    (case l21 => k_is)
    (case c21 => k_is)
    (case k21 => k_is)
    (case a22 => k_is)
    (case l22 => k_is)
    (case c22 => k_is)
    (case k22 => k_is)
    (case z_abs => k_is)
    (case z_all => k_is)
    (case z_any => k_is)
    (case z_bool => k_is)
    (case z_int => k_is)
    (case z_isinstance => k_is)
    (case z_len => k_is)
    (case z_list => k_is)
    (case z_min => k_is)
    (case z_range => k_is)
    (case z_str => k_is)
    (case z_sum => k_is)
    (case z_tuple => k_is)

end
