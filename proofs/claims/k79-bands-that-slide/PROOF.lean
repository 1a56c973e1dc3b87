import PyProof.Rows.All
import PySem.Challenge.RW_drycells_k79_whole_bands_as_blocks_that
import PySem.Str
import PySem.Builtin.Str.Common
import Wide.All
import OpenK.AllK
import Wide.FinOn
import HandS.ForMost
import HandS.ForExc
import HandS.Flow
import HandS.IsInst
import HandS.TupAny
import HandS.TupMul
import HandS.Zip
import HandS.Style
import HandS.Conv
import HandS.NoneIn
import HandS.CallSlots
import HandS.EndBits
import HandS.SortInts
import HandS.SetFor
import HandS.Strs
import KE.GoesNew
import KE.GoesMore
import HandS.WordsExc
import HandS.Small
import HandS.TryOnly
import HandS.Words
set_option Elab.async false
set_option linter.all false
section
/-! DL, part 1: a small interpreter over data values, for the part of Python that the laws and the program use. No program in sight. -/
namespace DL
open PySem (Str)

/-- data values -/
inductive D where
  | non | bl (b : Bool) | int (i : Int) | str (s : Str) | tup (xs : List D) | lst (xs : List D)
instance : Inhabited D := ⟨.non⟩
def LIM : Nat := 16777216

/-- a slot: a value that nobody changes, or a list of one's own -/
inductive Sl where
  | val (d : D) | mut (ds : List D)
abbrev Env := List (Option Sl)
/-- a result: a value; a new list that nobody else holds; the list that a slot holds -/
inductive Vl where
  | val (d : D) | own (ds : List D) | mref (i : Nat)
inductive Res (α : Type) where
  | ok (a : α) (ρ : Env) | exc (c : Nat) (as : List D) (ρ : Env) | stuck
/-- the result of a call -/
inductive CR where
  | ok (v : Vl) (io : Option (List D)) | exc (c : Nat) (as : List D) | stuck
def Res.bind {α β : Type} (r : Res α) (f : α → Env → Res β) : Res β :=
  match r with
  | .ok a ρ => f a ρ
  | .exc c as ρ => .exc c as ρ
  | .stuck => .stuck
theorem Res.bind_ok {α β : Type} (a : α) (ρ : Env) (f : α → Env → Res β) : (Res.ok a ρ).bind f = f a ρ := rfl
theorem Res.bind_exc {α β : Type} (c : Nat) (as : List D) (ρ : Env) (f : α → Env → Res β) : (Res.exc c as ρ).bind f = .exc c as ρ := rfl
theorem Res.bind_stuck {α β : Type} (f : α → Env → Res β) : (Res.stuck).bind f = .stuck := rfl
def lft {α : Type} (ρ : Env) : Option α → Res α
  | some a => .ok a ρ
  | none => .stuck
def deref (ρ : Env) : Vl → Option D
  | .val d => some d
  | .own ds => some (.lst ds)
  | .mref i => match ρ[i]? with
    | some (some (.mut ds)) => some (.lst ds)
    | some (some (.val d)) => some d
    | _ => none
/-- the result becomes a value that nobody changes any more -/
def freeze (v : Vl) (ρ : Env) : Res D :=
  match v with
  | .val d => .ok d ρ
  | .own ds => .ok (.lst ds) ρ
  | .mref i => match ρ[i]? with
    | some (some (.mut ds)) => .ok (.lst ds) (ρ.set i (some (.val (.lst ds))))
    | some (some (.val d)) => .ok d ρ
    | _ => .stuck

inductive Bop where
  | add | sub | mul | fdiv | mod | pow
inductive Cop where
  | eq | ne | lt | le | gt | ge | isin | notin
/-- built-ins by call -/
inductive Bi where
  | len | int | abs | min | max | sum | all | any | tuple | list | sorted | str
  deriving DecidableEq
inductive Ty where
  | int | bool | str | list | tuple
  deriving DecidableEq
inductive Pat where
  | name (i : Nat) | tup (ps : List Pat)
mutual
inductive E where
  | int (i : Int) | bl (b : Bool) | non | str (s : Str)
  | var (i : Nat) | glob (x : Str) (d : D)
  | bin (op : Bop) (a b : E) | neg (a : E)
  | cmp (op : Cop) (a b : E) | chain (o1 o2 : Cop) (a b c : E) | isN (neg : Bool) (a : E)
  | and (a b : E) | or (a b : E) | one (a : E) | not (a : E) | ite (c a b : E)
  | tup (es : Es) | lst (es : Es)
  | call (f : Nat) (es : Es) | callIO (f : Nat) (i : Nat) (es : Es)
  | bi (f : Bi) (es : Es) | isi (a : E) (ts : List Ty) (many : Bool)
  | ix (a i : E) | slice (a lo hi : E) | rev (a : E)
  | comp (elt : E) (p : Pat) (it : Wk) (c : E) (own : List (Str × Nat))
  | listRange (es : Es) | sset (a : E)
  | append (i : Nat) (e : E) | pop (i : Nat) (e : E) | extend (i : Nat) (e : E)
inductive Es where
  | nil | cons (e : E) (es : Es)
inductive Wk where
  | plain (e : E) | range (es : Es) | enum (e : E) | zip (a b : E)
end
mutual
inductive S where
  | set (i : Nat) (e : E) | asg (p : Pat) (e : E) | par (i j : Nat) (a b : E) | setix (i : Nat) (k e : E) | aug (i : Nat) (op : Bop) (e : E)
  | expr (e : E) | ret (e : E) | retN | ite (c : E) (t f : Ss) | fors (p : Pat) (it : Wk) (b : Ss) | whiles (c : E) (b : Ss)
  | raise (c : Nat) (es : Es) | tryx (b : Ss) (x : Str) (cs ds : List Nat) (h : Ss) | pass | brk | cont | never
inductive Ss where
  | nil | cons (s : S) (ss : Ss)
end

def E.isNone : E → Bool
  | .non => true
  | _ => false
/-- an end of a slice: left out, or an int -/
def partV : Bool → Vl → Option D
  | true, .val .non => some .non
  | false, .val (.int i) => some (.int i)
  | _, _ => none
/-! ### what operations do -/
mutual
/-- == -/
def D.eqv : D → D → Bool
  | .non, .non => true
  | .bl a, .bl b => a == b
  | .int a, .int b => a == b
  | .bl a, .int b => (if a then 1 else 0) == b
  | .int a, .bl b => a == (if b then 1 else 0)
  | .str a, .str b => a == b
  | .tup a, .tup b => D.eqvs a b
  | .lst a, .lst b => D.eqvs a b
  | _, _ => false
def D.eqvs : List D → List D → Bool
  | [], [] => true
  | a :: as, b :: bs => D.eqv a b && D.eqvs as bs
  | _, _ => false
end
mutual
def D.depth : D → Nat
  | .tup xs => D.depths xs + 1
  | .lst xs => D.depths xs + 1
  | _ => 0
def D.depths : List D → Nat
  | [] => 0
  | x :: xs => Nat.max (D.depth x) (D.depths xs)
end
def D.isNon : D → Bool
  | .non => true
  | _ => false
def D.truth : D → Option Bool
  | .non => some false
  | .bl b => some b
  | .int i => some (i != 0)
  | .str _ => none
  | .tup xs => some (!xs.isEmpty)
  | .lst xs => some (!xs.isEmpty)
def truthOf (ρ : Env) (x : Vl) : Option Bool := (deref ρ x).bind D.truth
def mulOk (i j : Int) : Bool := (decide (-(2 ^ 64) < i) && decide (i < 2 ^ 64)) || (decide (-(2 ^ 64) < j) && decide (j < 2 ^ 64))
def rep {α : Type} (xs : List α) : Nat → List α
  | 0 => []
  | n + 1 => xs ++ rep xs n
def binop : Bop → D → D → Option Vl
  | .add, .int i, .int j => some (.val (.int (i + j)))
  | .add, .tup xs, .tup ys => if xs.length + ys.length ≤ LIM then some (.val (.tup (xs ++ ys))) else none
  | .add, .lst xs, .lst ys => if xs.length + ys.length ≤ LIM then some (.own (xs ++ ys)) else none
  | .add, .str x, .str y => if x.length + y.length ≤ LIM then some (.val (.str (x ++ y))) else none
  | .sub, .int i, .int j => some (.val (.int (i - j)))
  | .mul, .int i, .int j => if mulOk i j then some (.val (.int (i * j))) else none
  | .mul, .tup xs, .int k => if k < 2 ^ 62 ∧ xs.length * k.toNat ≤ LIM ∧ -(2 ^ 62) < k then some (.val (.tup (rep xs k.toNat))) else none
  | .mul, .lst xs, .int k => if k < 2 ^ 62 ∧ xs.length * k.toNat ≤ LIM ∧ -(2 ^ 62) < k then some (.own (rep xs k.toNat)) else none
  | .fdiv, .int i, .int j => if j ≠ 0 ∧ j.natAbs < 1073741824 then some (.val (.int (i.fdiv j))) else none
  | .mod, .int i, .int j => if j ≠ 0 then some (.val (.int (i.fmod j))) else none
  | .pow, .int i, .int j => if 0 ≤ j ∧ j ≤ 1000000 ∧ i.natAbs < 2 ^ 64 then some (.val (.int (i ^ j.toNat))) else none
  | _, _, _ => none
mutual
/-- its texts are texts -/
def D.sok : D → Bool
  | .str x => x.cps.all (· < 0x110000)
  | .tup xs => D.soks xs
  | .lst xs => D.soks xs
  | _ => true
def D.soks : List D → Bool
  | [] => true
  | x :: xs => D.sok x && D.soks xs
end
/-- == may be asked of them -/
def cmpable (x y : D) : Bool := (decide (D.depth x ≤ 60) || decide (D.depth y ≤ 60)) && D.sok x && D.sok y
def isinD (x : D) : D → Option Bool
  | .tup ys => if cmpable (.tup ys) x then some (ys.any fun y => D.eqv y x) else none
  | .lst ys => if cmpable (.lst ys) x then some (ys.any fun y => D.eqv y x) else none
  | .str t => match x with
    | .str z => some (!(PySem.Builtin.Str.occurrences t z 0 t.length 1).isEmpty)
    | _ => none
  | _ => none
def cmpop : Cop → D → D → Option Bool
  | .eq, x, y => if cmpable x y then some (D.eqv x y) else none
  | .ne, x, y => if cmpable x y then some (!D.eqv x y) else none
  | .lt, .int i, .int j => some (decide (i < j))
  | .le, .int i, .int j => some (decide (i ≤ j))
  | .gt, .int i, .int j => some (decide (j < i))
  | .ge, .int i, .int j => some (decide (j ≤ i))
  | .isin, x, y => isinD x y
  | .notin, x, y => (isinD x y).map (!·)
  | _, _, _ => none
def intsOf : List D → Option (List Int)
  | [] => some []
  | .int i :: r => (intsOf r).map (i :: ·)
  | _ :: _ => none
def blsOf : List D → Option (List Bool)
  | [] => some []
  | .bl b :: r => (blsOf r).map (b :: ·)
  | .int i :: r => (blsOf r).map ((i != 0) :: ·)
  | _ :: _ => none
def items : D → Option (List D)
  | .tup xs => some xs
  | .lst xs => some xs
  | _ => none
def insI (x : Int) : List Int → List Int
  | [] => [x]
  | y :: r => if x ≤ y then x :: y :: r else y :: insI x r
def sortI : List Int → List Int
  | [] => []
  | x :: r => insI x (sortI r)
/-- put in where it belongs, once -/
def insU (x : Int) : List Int → List Int
  | [] => [x]
  | y :: r => if x < y then x :: y :: r else if x = y then y :: r else y :: insU x r
def setI : List Int → List Int
  | [] => []
  | x :: r => insU x (setI r)
/-- sorted(set(xs)) -/
def ssetop : D → Option Vl
  | .lst xs => match intsOf xs with
    | some ns => if ns.length < 64 then some (.own ((setI ns).map .int)) else none
    | _ => none
  | _ => none
def biop : Bi → List D → Option Vl
  | .len, [.tup xs] => some (.val (.int xs.length))
  | .len, [.lst xs] => some (.val (.int xs.length))
  | .len, [.str x] => if x.length ≤ LIM then some (.val (.int x.length)) else none
  | .int, [.int i] => some (.val (.int i))
  | .int, [.bl b] => some (.val (.int (if b then 1 else 0)))
  | .abs, [.int i] => some (.val (.int (if i < 0 then -i else i)))
  | .min, [.int i, .int j] => some (.val (.int (if j < i then j else i)))
  | .max, [.int i, .int j] => some (.val (.int (if j > i then j else i)))
  | .max, [.lst xs] => match intsOf xs with
    | some (n :: ns) => some (.val (.int (ns.foldl (fun a b => if a < b then b else a) n)))
    | _ => none
  | .max, [.tup xs] => match intsOf xs with
    | some (n :: ns) => some (.val (.int (ns.foldl (fun a b => if a < b then b else a) n)))
    | _ => none
  | .min, [.tup xs] => match intsOf xs with
    | some (n :: ns) => some (.val (.int (ns.foldl (fun a b => if b < a then b else a) n)))
    | _ => none
  | .min, [.lst xs] => match intsOf xs with
    | some (n :: ns) => some (.val (.int (ns.foldl (fun a b => if b < a then b else a) n)))
    | _ => none
  | .sum, [.lst xs] => match intsOf xs with
    | some ns => some (.val (.int ns.sum))
    | _ => none
  | .sum, [.tup xs] => match intsOf xs with
    | some ns => some (.val (.int ns.sum))
    | _ => none
  | .all, [.lst xs] => match blsOf xs with
    | some bs => some (.val (.bl (bs.all id)))
    | _ => none
  | .any, [.lst xs] => match blsOf xs with
    | some bs => some (.val (.bl (bs.any id)))
    | _ => none
  | .any, [.tup xs] => match blsOf xs with
    | some bs => some (.val (.bl (bs.any id)))
    | _ => none
  | .tuple, [.tup xs] => some (.val (.tup xs))
  | .tuple, [.lst xs] => some (.val (.tup xs))
  | .list, [.tup xs] => some (.own xs)
  | .list, [.lst xs] => some (.own xs)
  | .sorted, [.lst xs] => match intsOf xs with
    | some ns => some (.own ((sortI ns).map .int))
    | _ => none
  | _, _ => none
def isTy : D → Ty → Bool
  | .int _, .int => true
  | .bl _, .int => true
  | .bl _, .bool => true
  | .str _, .str => true
  | .lst _, .list => true
  | .tup _, .tuple => true
  | _, _ => false
/-- xs[i] -/
def atD (xs : List D) (i : Int) : Option D :=
  if 0 ≤ i then xs[i.toNat]? else if -(xs.length : Int) ≤ i then xs[(i + xs.length).toNat]? else none
def ixop : D → D → Option D
  | .tup xs, .int i => atD xs i
  | .lst xs, .int i => atD xs i
  | _, _ => none
/-- an end of a slice -/
def cutAt (n : Nat) (i : Int) : Nat := if 0 ≤ i then Nat.min i.toNat n else (i + n).toNat
def part (n : Nat) (dflt : Nat) : D → Option Nat
  | .non => some dflt
  | .int i => some (cutAt n i)
  | _ => none
def cut {α : Type} (xs : List α) (a b : Nat) : List α := (xs.drop a).take (b - a)
def sliceop : D → D → D → Option Vl
  | .tup xs, l, h => match part xs.length 0 l, part xs.length xs.length h with
    | some a, some b => some (.val (.tup (cut xs a b)))
    | _, _ => none
  | .lst xs, l, h => match part xs.length 0 l, part xs.length xs.length h with
    | some a, some b => some (.own (cut xs a b))
    | _, _ => none
  | _, _, _ => none
def revop : D → Option Vl
  | .lst xs => some (.own xs.reverse)
  | _ => none
mutual
def assignP : Pat → D → Env → Option Env
  | .name i, d, ρ => if i < ρ.length then some (ρ.set i (some (.val d))) else none
  | .tup ps, .tup ds, ρ => assignPs ps ds ρ
  | .tup ps, .lst ds, ρ => assignPs ps ds ρ
  | _, _, _ => none
def assignPs : List Pat → List D → Env → Option Env
  | [], [], ρ => some ρ
  | p :: ps, d :: ds, ρ => (assignP p d ρ).bind (assignPs ps ds)
  | _, _, _ => none
end
def rangeL (lo : Int) (n : Nat) : List D := (List.range n).map fun (k : Nat) => D.int (lo + (k : Int))
def in62 (i : Int) : Bool := decide (-(2 ^ 62) ≤ i) && decide (i < 2 ^ 62)
def rangeop : List D → Option (List D)
  | [.int j] => if in62 j then some (rangeL 0 j.toNat) else none
  | [.int i, .int j] => if in62 i && in62 j then some (rangeL i (j - i).toNat) else none
  | _ => none
def enumL : Nat → List D → List D
  | _, [] => []
  | k, d :: ds => .tup [.int k, d] :: enumL (k + 1) ds
def zipL : List D → List D → List D
  | a :: as, b :: bs => .tup [a, b] :: zipL as bs
  | _, _ => []
def wipeE (ρ : Env) : List Nat → Env
  | [] => ρ
  | v :: vs => (wipeE ρ vs).set v none
/-- the own names' slots as they were -/
def restoreE (ρ0 ρ : Env) : List Nat → Env
  | [] => ρ
  | v :: vs => (restoreE ρ0 ρ vs).set v (ρ0.getD v none)
def noMut (ρ : Env) (vs : List Nat) : Bool := vs.all fun v => match ρ[v]? with
  | some (some (.mut _)) => false
  | some _ => true
  | none => false
def compLoop (step : D → Env → Res (Option D)) : List D → List D → Env → Res (List D)
  | [], acc, ρ => .ok acc ρ
  | d :: ds, acc, ρ => (step d ρ).bind fun o ρ' => match o with
    | some x => if acc.length < LIM then compLoop step ds (acc ++ [x]) ρ' else .stuck
    | none => compLoop step ds acc ρ'
def compStep (ev : Env → Res Vl) (te : Env → Res Bool) (p : Pat) (vs : List Nat) (d : D) (ρ : Env) : Res (Option D) :=
  match assignP p d ρ with
  | none => .stuck
  | some ρ1 => (te ρ1).bind fun b ρ2 => if b then (ev ρ2).bind fun v ρ3 => (freeze v ρ3).bind fun x ρ4 => .ok (some x) (wipeE ρ4 vs) else .ok none (wipeE ρ2 vs)
/-- within a comprehension nothing is raised -/
def Res.quiet {α : Type} : Res α → Res α
  | .ok a ρ => .ok a ρ
  | _ => .stuck
def compRun (ev : Env → Res Vl) (te : Env → Res Bool) (p : Pat) (vs : List Nat) (xs : List D) (ρ : Env) : Res Vl :=
  if noMut ρ vs then (compLoop (compStep (fun ρ => (ev ρ).quiet) (fun ρ => (te ρ).quiet) p vs) xs [] (wipeE ρ vs)).bind fun acc ρ' => .ok (.own acc) (restoreE ρ ρ' vs) else .stuck
def afterCall (ρ : Env) : CR → Res Vl
  | .ok (.val d) none => .ok (.val d) ρ
  | .ok (.own ds) none => .ok (.own ds) ρ
  | .exc c as => .exc c as ρ
  | _ => .stuck
def afterCallIO (i : Nat) (ρ : Env) : CR → Res Vl
  | .ok (.val d) (some cs) => .ok (.val d) (ρ.set i (some (.mut cs)))
  | .ok (.own ds) (some cs) => .ok (.own ds) (ρ.set i (some (.mut cs)))
  | _ => .stuck
def slotMut (ρ : Env) (i : Nat) : Option (List D) :=
  match ρ[i]? with
  | some (some (.mut ds)) => some ds
  | _ => none

section
variable (call : Nat → Option (List D) → List D → CR)
mutual
def evalE : E → Env → Res Vl
  | .int i, ρ => .ok (.val (.int i)) ρ
  | .bl b, ρ => .ok (.val (.bl b)) ρ
  | .non, ρ => .ok (.val .non) ρ
  | .str s, ρ => .ok (.val (.str s)) ρ
  | .var i, ρ => match ρ[i]? with
    | some (some (.val d)) => .ok (.val d) ρ
    | some (some (.mut _)) => .ok (.mref i) ρ
    | _ => .stuck
  | .glob _ d, ρ => .ok (.val d) ρ
  | .bin op a b, ρ => (evalE a ρ).bind fun x ρ => (evalE b ρ).bind fun y ρ => match deref ρ x, deref ρ y with
    | some dx, some dy => lft ρ (binop op dx dy)
    | _, _ => .stuck
  | .neg a, ρ => (evalE a ρ).bind fun x ρ => match x with
    | .val (.int i) => .ok (.val (.int (-i))) ρ
    | _ => .stuck
  | .cmp op a b, ρ => (evalE a ρ).bind fun x ρ => (evalE b ρ).bind fun y ρ => match deref ρ x, deref ρ y with
    | some dx, some dy => lft ρ ((cmpop op dx dy).map fun b => .val (.bl b))
    | _, _ => .stuck
  | .chain o1 o2 a b c, ρ => (evalE a ρ).bind fun x ρ => (evalE b ρ).bind fun y ρ => match deref ρ x, deref ρ y with
    | some dx, some dy => match cmpop o1 dx dy with
      | some true => (evalE c ρ).bind fun z ρ => match deref ρ y, deref ρ z with
        | some dy', some dz => lft ρ ((cmpop o2 dy' dz).map fun b => .val (.bl b))
        | _, _ => .stuck
      | some false => .ok (.val (.bl false)) ρ
      | none => .stuck
    | _, _ => .stuck
  | .isN neg a, ρ => (evalE a ρ).bind fun x ρ => match deref ρ x with
    | some d => .ok (.val (.bl (d.isNon != neg))) ρ
    | none => .stuck
  | .and a b, ρ => (evalE a ρ).bind fun x ρ => match truthOf ρ x with
    | some k => if k then evalE b ρ else .ok x ρ
    | none => .stuck
  | .or a b, ρ => (evalE a ρ).bind fun x ρ => match truthOf ρ x with
    | some k => if k then .ok x ρ else evalE b ρ
    | none => .stuck
  | .one a, ρ => evalE a ρ
  | .not a, ρ => (evalE a ρ).bind fun x ρ => match truthOf ρ x with
    | some k => .ok (.val (.bl (!k))) ρ
    | none => .stuck
  | .ite c a b, ρ => (testE c ρ).bind fun k ρ => if k then evalE a ρ else evalE b ρ
  | .tup es, ρ => (evalEs es ρ).bind fun ds ρ => if ds.length ≤ LIM then .ok (.val (.tup ds)) ρ else .stuck
  | .lst es, ρ => (evalEs es ρ).bind fun ds ρ => if ds.length ≤ LIM then .ok (.own ds) ρ else .stuck
  | .call f es, ρ => (evalEs es ρ).bind fun ds ρ => afterCall ρ (call f none ds)
  | .callIO f i es, ρ => match slotMut ρ i with
    | none => .stuck
    | some _ => (evalEs es ρ).bind fun ds ρ => match slotMut ρ i with
      | some cs => afterCallIO i ρ (call f (some cs) ds)
      | none => .stuck
  | .bi f es, ρ => (evalVs es ρ).bind fun vs ρ => match vs.mapM (deref ρ) with
    | some ds => lft ρ (biop f ds)
    | none => .stuck
  | .isi a ts _, ρ => (evalE a ρ).bind fun x ρ => match deref ρ x with
    | some d => .ok (.val (.bl (ts.any (isTy d)))) ρ
    | none => .stuck
  | .ix a i, ρ => (evalE a ρ).bind fun x ρ => (evalE i ρ).bind fun y ρ => match deref ρ x, deref ρ y with
    | some dx, some dy => lft ρ ((ixop dx dy).map .val)
    | _, _ => .stuck
  | .slice a l h, ρ => (evalE a ρ).bind fun x ρ => (evalE l ρ).bind fun y ρ => match partV l.isNone y with
    | some dy => (evalE h ρ).bind fun z ρ => match partV h.isNone z with
      | some dz => match deref ρ x with
        | some dx => lft ρ (sliceop dx dy dz)
        | none => .stuck
      | none => .stuck
    | none => .stuck
  | .rev a, ρ => (evalE a ρ).bind fun x ρ => match deref ρ x with
    | some dx => lft ρ (revop dx)
    | none => .stuck
  | .comp elt p it c own, ρ => (evalIt it ρ).bind fun xs ρ => compRun (evalE elt) (testE c) p (own.map (·.2)) xs ρ
  | .listRange es, ρ => (evalEs es ρ).bind fun ds ρ => match rangeop ds with
    | some xs => if xs.length ≤ LIM then .ok (.own xs) ρ else .stuck
    | none => .stuck
  | .sset a, ρ => (evalE a ρ).bind fun x ρ => match deref ρ x with
    | some dx => lft ρ (ssetop dx)
    | none => .stuck
  | .append i e, ρ => match slotMut ρ i with
    | none => .stuck
    | some _ => (evalE e ρ).bind fun v ρ => (freeze v ρ).bind fun d ρ => match slotMut ρ i with
      | some ds => if ds.length < LIM then .ok (.val .non) (ρ.set i (some (.mut (ds ++ [d])))) else .stuck
      | none => .stuck
  | .pop i e, ρ => match slotMut ρ i with
    | none => .stuck
    | some _ => (evalE e ρ).bind fun v ρ => match v, slotMut ρ i with
      | .val (.int k), some ds => if 0 ≤ k ∧ k < ds.length ∧ ds.length ≤ LIM then match ds[k.toNat]? with
          | some d => .ok (.val d) (ρ.set i (some (.mut (ds.eraseIdx k.toNat))))
          | none => .stuck
        else .stuck
      | _, _ => .stuck
  | .extend i e, ρ => match slotMut ρ i with
    | none => .stuck
    | some _ => (evalE e ρ).bind fun v ρ => (freeze v ρ).bind fun d ρ => match slotMut ρ i, items d with
      | some ds, some xs => if ds.length + xs.length ≤ LIM then .ok (.val .non) (ρ.set i (some (.mut (ds ++ xs)))) else .stuck
      | _, _ => .stuck
/-- truth -/
def testE : E → Env → Res Bool
  | .and a b, ρ => (testE a ρ).bind fun k ρ => if k then testE b ρ else .ok false ρ
  | .or a b, ρ => (testE a ρ).bind fun k ρ => if k then .ok true ρ else testE b ρ
  | .one a, ρ => testE a ρ
  | .not a, ρ => (testE a ρ).bind fun k ρ => .ok (!k) ρ
  | .int i, ρ => .ok (i != 0) ρ
  | .bl b, ρ => .ok b ρ
  | .non, ρ => .ok false ρ
  | .cmp op a b, ρ => (evalE a ρ).bind fun x ρ => (evalE b ρ).bind fun y ρ => match deref ρ x, deref ρ y with
    | some dx, some dy => lft ρ (cmpop op dx dy)
    | _, _ => .stuck
  | .chain o1 o2 a b c, ρ => (evalE a ρ).bind fun x ρ => (evalE b ρ).bind fun y ρ => match deref ρ x, deref ρ y with
    | some dx, some dy => match cmpop o1 dx dy with
      | some true => (evalE c ρ).bind fun z ρ => match deref ρ y, deref ρ z with
        | some dy', some dz => lft ρ (cmpop o2 dy' dz)
        | _, _ => .stuck
      | some false => .ok false ρ
      | none => .stuck
    | _, _ => .stuck
  | .isN neg a, ρ => (evalE a ρ).bind fun x ρ => match deref ρ x with
    | some d => .ok (d.isNon != neg) ρ
    | none => .stuck
  | .var i, ρ => match ρ[i]? with
    | some (some (.val d)) => lft ρ d.truth
    | some (some (.mut ds)) => .ok (!ds.isEmpty) ρ
    | _ => .stuck
  | .call f es, ρ => (evalEs es ρ).bind fun ds ρ => (afterCall ρ (call f none ds)).bind fun x ρ => lft ρ (truthOf ρ x)
  | .callIO f i es, ρ => match slotMut ρ i with
    | none => .stuck
    | some _ => (evalEs es ρ).bind fun ds ρ => match slotMut ρ i with
      | some cs => (afterCallIO i ρ (call f (some cs) ds)).bind fun x ρ => lft ρ (truthOf ρ x)
      | none => .stuck
  | .bi f es, ρ => (evalVs es ρ).bind fun vs ρ => match vs.mapM (deref ρ) with
    | some ds => (lft ρ (biop f ds)).bind fun x ρ => lft ρ (truthOf ρ x)
    | none => .stuck
  | .isi a ts _, ρ => (evalE a ρ).bind fun x ρ => match deref ρ x with
    | some d => .ok (ts.any (isTy d)) ρ
    | none => .stuck
  | .ix a i, ρ => (evalE a ρ).bind fun x ρ => (evalE i ρ).bind fun y ρ => match deref ρ x, deref ρ y with
    | some dx, some dy => lft ρ ((ixop dx dy).bind D.truth)
    | _, _ => .stuck
  | _, _ => .stuck
/-- arguments, kept as values -/
def evalEs : Es → Env → Res (List D)
  | .nil, ρ => .ok [] ρ
  | .cons e es, ρ => (evalE e ρ).bind fun v ρ => (freeze v ρ).bind fun d ρ => (evalEs es ρ).bind fun ds ρ => .ok (d :: ds) ρ
/-- arguments of a built-in that only reads them -/
def evalVs : Es → Env → Res (List Vl)
  | .nil, ρ => .ok [] ρ
  | .cons e es, ρ => (evalE e ρ).bind fun v ρ => (evalVs es ρ).bind fun vs ρ => .ok (v :: vs) ρ
def evalIt : Wk → Env → Res (List D)
  | .plain e, ρ => (evalE e ρ).bind fun v ρ => (freeze v ρ).bind fun d ρ => lft ρ (items d)
  | .range es, ρ => (evalEs es ρ).bind fun ds ρ => lft ρ (rangeop ds)
  | .enum e, ρ => (evalE e ρ).bind fun v ρ => (freeze v ρ).bind fun d ρ => lft ρ ((items d).map (enumL 0))
  | .zip a b, ρ => (evalE a ρ).bind fun v ρ => (freeze v ρ).bind fun d ρ => (evalE b ρ).bind fun v ρ => (freeze v ρ).bind fun d2 ρ => match items d, items d2 with
    | some xs, some ys => .ok (zipL xs ys) ρ
    | _, _ => .stuck
end

/-! ### statements -/
end
inductive Fl where
  | next | ret (v : Vl) | brk | cont
def forLoop (body : D → Env → Res Fl) : List D → Env → Res Fl
  | [], ρ => .ok .next ρ
  | d :: ds, ρ => (body d ρ).bind fun f ρ => match f with
    | .next => forLoop body ds ρ
    | .cont => forLoop body ds ρ
    | .brk => .ok .next ρ
    | .ret v => .ok (.ret v) ρ
def whileLoop (te : Env → Res Bool) (body : Env → Res Fl) : Nat → Env → Res Fl
  | 0, _ => .stuck
  | n + 1, ρ => (te ρ).bind fun k ρ => if k then (body ρ).bind fun f ρ => match f with
      | .next => whileLoop te body n ρ
      | .cont => whileLoop te body n ρ
      | .brk => .ok .next ρ
      | .ret v => .ok (.ret v) ρ
    else .ok .next ρ
def WFUEL : Nat := 1000000000000
def settle (v : Vl) (ρ : Env) : Res Vl :=
  match v with
  | .mref i => (freeze (.mref i) ρ).bind fun d ρ => .ok (.val d) ρ
  | v => .ok v ρ
def slotOf : Vl → Option Sl
  | .val d => some (.val d)
  | .own ds => some (.mut ds)
  | .mref _ => none
def storeV (i : Nat) (v : Vl) (ρ : Env) : Res Fl :=
  if i < ρ.length then match v with
    | .val d => .ok .next (ρ.set i (some (.val d)))
    | .own ds => .ok .next (ρ.set i (some (.mut ds)))
    | .mref j => (freeze (.mref j) ρ).bind fun d ρ => .ok .next (ρ.set i (some (.val d)))
  else .stuck
section
variable (call : Nat → Option (List D) → List D → CR)
mutual
def execS : S → Env → Res Fl
  | .set i e, ρ => (evalE call e ρ).bind fun v ρ => storeV i v ρ
  | .asg p e, ρ => (evalE call e ρ).bind fun v ρ => (freeze v ρ).bind fun d ρ => match assignP p d ρ with
    | some ρ' => .ok .next ρ'
    | none => .stuck
  | .par i j a b, ρ => (evalE call a ρ).bind fun v ρ => (settle v ρ).bind fun v ρ => (evalE call b ρ).bind fun w ρ => (settle w ρ).bind fun w ρ =>
    if i < ρ.length ∧ j < ρ.length ∧ i ≠ j then .ok .next ((ρ.set i (slotOf v)).set j (slotOf w)) else .stuck
  | .setix i k e, ρ => (evalE call e ρ).bind fun v ρ => (freeze v ρ).bind fun d ρ => match slotMut ρ i with
    | none => .stuck
    | some _ => (evalE call k ρ).bind fun w ρ => match w, slotMut ρ i with
      | .val (.int k), some ds => if 0 ≤ k ∧ k < ds.length then .ok .next (ρ.set i (some (.mut (ds.set k.toNat d)))) else .stuck
      | _, _ => .stuck
  | .aug i op e, ρ => match ρ[i]? with
    | some (some (.val (.int a))) => (evalE call e ρ).bind fun y ρ => match y with
      | .val (.int b) => (match op with
        | .add => .ok .next (ρ.set i (some (.val (.int (a + b)))))
        | .sub => .ok .next (ρ.set i (some (.val (.int (a - b)))))
        | _ => .stuck)
      | _ => .stuck
    | _ => .stuck
  | .expr e, ρ => (evalE call e ρ).bind fun _ ρ => .ok .next ρ
  | .ret e, ρ => (evalE call e ρ).bind fun v ρ => .ok (.ret v) ρ
  | .retN, ρ => .ok (.ret (.val .non)) ρ
  | .ite c t f, ρ => (testE call c ρ).bind fun k ρ => if k then execSs t ρ else execSs f ρ
  | .fors p it b, ρ => (evalIt call it ρ).bind fun xs ρ => forLoop (fun d ρ => match assignP p d ρ with
    | some ρ => execSs b ρ
    | none => .stuck) xs ρ
  | .whiles c b, ρ => whileLoop (testE call c) (execSs b) WFUEL ρ
  | .raise c es, ρ => (evalEs call es ρ).bind fun ds ρ => .exc c ds ρ
  | .tryx b _ cs ds h, ρ => match execSs b ρ with
    | .exc c as ρ' => if c ∈ cs then (execSs h ρ').quiet else if c ∈ ds then .exc c as ρ' else .stuck
    | r => r
  | .pass, ρ => .ok .next ρ
  | .brk, ρ => .ok .brk ρ
  | .cont, ρ => .ok .cont ρ
  | .never, _ => .stuck
def execSs : Ss → Env → Res Fl
  | .nil, ρ => .ok .next ρ
  | .cons s ss, ρ => (execS s ρ).bind fun f ρ => match f with
    | .next => execSs ss ρ
    | f => .ok f ρ
end
end
/-- a def: parameters, whether the first one is a list that the def changes, slots, body -/
structure Df where
  np : Nat
  io : Bool
  ns : Nat
  body : Ss
def entry (d : Df) : Option (List D) → List D → Option Env
  | none, ds => if d.io = false ∧ ds.length = d.np then some (ds.map (fun x => some (.val x)) ++ List.replicate (d.ns - d.np) none) else none
  | some cs, ds => if d.io = true ∧ ds.length + 1 = d.np then some (some (.mut cs) :: (ds.map (fun x => some (.val x)) ++ List.replicate (d.ns - d.np) none)) else none
/-- what a def hands back: its own list's slot is left behind -/
def handed (ρ : Env) (io : Bool) : Vl → Option Vl
  | .val d => some (.val d)
  | .own ds => some (.own ds)
  | .mref i => if io = true ∧ i = 0 then none else match ρ[i]? with
    | some (some (.mut ds)) => some (.own ds)
    | some (some (.val d)) => some (.val d)
    | _ => none
def ending (io : Bool) (v : Vl) (ρ : Env) : CR :=
  match handed ρ io v with
  | none => .stuck
  | some w => if io then (match slotMut ρ 0 with
      | some cs => .ok w (some cs)
      | none => .stuck) else .ok w none
def finish (io : Bool) : Res Fl → CR
  | .ok (.ret v) ρ => ending io v ρ
  | .ok .next ρ => ending io (.val .non) ρ
  | .exc c as _ => if io then .stuck else .exc c as
  | _ => .stuck
def run (Δ : List Df) : Nat → Nat → Option (List D) → List D → CR
  | 0, _, _, _ => .stuck
  | n + 1, i, cs, ds => match Δ[i]? with
    | none => .stuck
    | some d => match entry d cs ds with
      | none => .stuck
      | some ρ => finish d.io (execSs (run Δ n) d.body ρ)
end DL

end
section
set_option maxRecDepth 100000
set_option maxHeartbeats 1000000
/-! DL, part 2: how data values lie in the hand layer's abstract heap. -/
namespace DL
open PySem PySem.Spec PyProof.Rows L2

mutual
/-- the value v stands for the data d; F: what lies still for ever -/
def Rp (K : PySem.W.Frag) (F : Hp) : D → V → Prop
  | .non, v => v = .non
  | .bl b, v => v = .bl b
  | .int i, v => v = .int i
  | .str s, v => v = .str s
  | .tup ds, v => ∃ a vs, v = .ref a ∧ SqT K F a vs ∧ RpL K F ds vs
  | .lst ds, v => ∃ a vs, v = .ref a ∧ SqL K F a vs ∧ RpL K F ds vs
def RpL (K : PySem.W.Frag) (F : Hp) : List D → List V → Prop
  | [], vs => vs = []
  | d :: ds, vs => ∃ v r, vs = v :: r ∧ Rp K F d v ∧ RpL K F ds r
end
theorem sameT {K : PySem.W.Frag} {H H' : Hp} {a : Addr} {xs : List V} (e : Same H H') (h : SqT K H a xs) : SqT K H' a xs := by
  rcases h with (h | ⟨o, h⟩) | h
  · exact .inl (.inl (e _ _ h))
  · exact .inl (.inr ⟨o, e _ _ h⟩)
  · exact .inr h
section
variable {K : PySem.W.Frag} {F F' H H' : Hp}
mutual
theorem Rp.mono (e : Same F F') : ∀ (d : D) (v : V), Rp K F d v → Rp K F' d v
  | .non, v, h => by unfold Rp at h ⊢; exact h
  | .bl b, v, h => by unfold Rp at h ⊢; exact h
  | .int i, v, h => by unfold Rp at h ⊢; exact h
  | .str s, v, h => by unfold Rp at h ⊢; exact h
  | .tup ds, v, h => by
    unfold Rp at h ⊢
    obtain ⟨a, vs, e1, e2, e3⟩ := h
    exact ⟨a, vs, e1, sameT e e2, RpL.mono e ds vs e3⟩
  | .lst ds, v, h => by
    unfold Rp at h ⊢
    obtain ⟨a, vs, e1, e2, e3⟩ := h
    exact ⟨a, vs, e1, e.seq e2, RpL.mono e ds vs e3⟩
theorem RpL.mono (e : Same F F') : ∀ (ds : List D) (vs : List V), RpL K F ds vs → RpL K F' ds vs
  | [], vs, h => by unfold RpL at h ⊢; exact h
  | d :: ds, vs, h => by
    unfold RpL at h ⊢
    obtain ⟨v, r, e1, e2, e3⟩ := h
    exact ⟨v, r, e1, Rp.mono e d v e2, RpL.mono e ds r e3⟩
end
theorem RpL.nil : RpL K F [] [] := by unfold RpL; rfl
theorem RpL.cons {d : D} {ds : List D} {v : V} {vs : List V} (h : Rp K F d v) (t : RpL K F ds vs) : RpL K F (d :: ds) (v :: vs) := by unfold RpL; exact ⟨v, vs, rfl, h, t⟩
theorem RpL.nil_inv {vs : List V} (h : RpL K F [] vs) : vs = [] := by unfold RpL at h; exact h
theorem RpL.cons_inv {d : D} {ds : List D} {vs : List V} (h : RpL K F (d :: ds) vs) : ∃ v r, vs = v :: r ∧ Rp K F d v ∧ RpL K F ds r := by unfold RpL at h; exact h
theorem RpL.len : ∀ {ds : List D} {vs : List V}, RpL K F ds vs → vs.length = ds.length
  | [], _, h => by rw [h.nil_inv]; rfl
  | d :: ds, _, h => by
    obtain ⟨v, r, e, _, h2⟩ := h.cons_inv
    rw [e, List.length_cons, List.length_cons, RpL.len h2]
theorem RpL.append : ∀ {ds es : List D} {vs us : List V}, RpL K F ds vs → RpL K F es us → RpL K F (ds ++ es) (vs ++ us)
  | [], _, _, _, h, g => by rw [h.nil_inv]; exact g
  | d :: ds, _, _, _, h, g => by
    obtain ⟨v, r, e, h1, h2⟩ := h.cons_inv
    rw [e]
    exact .cons h1 (h2.append g)
theorem RpL.get : ∀ {ds : List D} {vs : List V} {i : Nat} {d : D}, RpL K F ds vs → ds[i]? = some d → ∃ v, vs[i]? = some v ∧ Rp K F d v
  | [], _, _, _, _, e => by simp at e
  | x :: ds, vs, 0, d, h, e => by
    obtain ⟨v, r, rfl, h1, h2⟩ := h.cons_inv
    have e' : x = d := by simpa using e
    subst e'
    exact ⟨v, rfl, h1⟩
  | x :: ds, vs, i + 1, d, h, e => by
    obtain ⟨v, r, rfl, h1, h2⟩ := h.cons_inv
    obtain ⟨u, g1, g2⟩ := h2.get (i := i) (d := d) (by simpa using e)
    exact ⟨u, by simpa using g1, g2⟩
theorem RpL.get' : ∀ {ds : List D} {vs : List V} {i : Nat} {v : V}, RpL K F ds vs → vs[i]? = some v → ∃ d, ds[i]? = some d ∧ Rp K F d v := fun {ds vs i v} h e => by
  have hi : i < ds.length := by rw [← h.len]; exact (List.getElem?_eq_some_iff.mp e).1
  obtain ⟨u, g1, g2⟩ := h.get (List.getElem?_eq_getElem hi)
  rw [e] at g1
  cases g1
  exact ⟨_, List.getElem?_eq_getElem hi, g2⟩
theorem RpL.take : ∀ {ds : List D} {vs : List V} (n : Nat), RpL K F ds vs → RpL K F (ds.take n) (vs.take n)
  | _, _, 0, _ => by simp only [List.take_zero]; exact .nil
  | [], _, _ + 1, h => by rw [h.nil_inv]; exact .nil
  | d :: ds, _, n + 1, h => by
    obtain ⟨v, r, rfl, h1, h2⟩ := h.cons_inv
    exact .cons h1 (h2.take n)
theorem RpL.drop : ∀ {ds : List D} {vs : List V} (n : Nat), RpL K F ds vs → RpL K F (ds.drop n) (vs.drop n)
  | _, _, 0, h => h
  | [], _, _ + 1, h => by rw [h.nil_inv]; exact .nil
  | d :: ds, _, n + 1, h => by
    obtain ⟨v, r, rfl, h1, h2⟩ := h.cons_inv
    exact h2.drop n
theorem RpL.set {d : D} {v : V} (hv : Rp K F d v) : ∀ {ds : List D} {vs : List V} (i : Nat), RpL K F ds vs → RpL K F (ds.set i d) (vs.set i v)
  | [], _, _, h => by rw [h.nil_inv]; exact .nil
  | x :: ds, _, 0, h => by
    obtain ⟨w, r, rfl, h1, h2⟩ := h.cons_inv
    exact .cons hv h2
  | x :: ds, _, i + 1, h => by
    obtain ⟨w, r, rfl, h1, h2⟩ := h.cons_inv
    exact .cons h1 (RpL.set hv i h2)
theorem RpL.erase : ∀ {ds : List D} {vs : List V} (i : Nat), RpL K F ds vs → RpL K F (ds.eraseIdx i) (vs.eraseIdx i)
  | [], _, _, h => by rw [h.nil_inv]; exact .nil
  | x :: ds, _, 0, h => by
    obtain ⟨w, r, rfl, h1, h2⟩ := h.cons_inv
    exact h2
  | x :: ds, _, i + 1, h => by
    obtain ⟨w, r, rfl, h1, h2⟩ := h.cons_inv
    exact .cons h1 (RpL.erase i h2)
theorem RpL.reverse : ∀ {ds : List D} {vs : List V}, RpL K F ds vs → RpL K F ds.reverse vs.reverse
  | [], _, h => by rw [h.nil_inv]; exact .nil
  | d :: ds, _, h => by
    obtain ⟨v, r, rfl, h1, h2⟩ := h.cons_inv
    rw [List.reverse_cons, List.reverse_cons]
    exact h2.reverse.append (.cons h1 .nil)
theorem RpL.rep {ds : List D} {vs : List V} (h : RpL K F ds vs) : ∀ n, RpL K F (rep ds n) (List.replicate n vs).flatten
  | 0 => .nil
  | n + 1 => by
    rw [List.replicate_succ, List.flatten_cons]
    exact h.append (RpL.rep h n)

/-- slots -/
structure SR (K : PySem.W.Frag) (P F : Hp) (ρ : DL.Env) (σ : L2.St) (H : Hp) : Prop where
  fh : Same F H
  ph : Same P H
  dj : ∀ b o, P b = some o → F b = none
  len : ρ.length = σ.length
  vals : ∀ (i : Nat) (d : D), ρ[i]? = some (some (.val d)) → ∃ v, σ[i]? = some (some v) ∧ Rp K F d v
  muts : ∀ (i : Nat) (ds : List D), ρ[i]? = some (some (.mut ds)) → ∃ a vs, σ[i]? = some (some (.ref a)) ∧ H a = some (.lst vs) ∧ RpL K F ds vs ∧ F a = none ∧ P a = none
  sep : ∀ (i j : Nat) (a : Addr) (ds es : List D), ρ[i]? = some (some (.mut ds)) → ρ[j]? = some (some (.mut es)) → σ[i]? = some (some (.ref a)) → σ[j]? = some (some (.ref a)) → i = j
/-- a result -/
def RV (K : PySem.W.Frag) (P F H : Hp) (ρ : DL.Env) (σ : L2.St) : Vl → V → Prop
  | .val d, v => Rp K F d v
  | .own ds, v => ∃ a vs, v = .ref a ∧ H a = some (.lst vs) ∧ RpL K F ds vs ∧ F a = none ∧ P a = none ∧ ∀ (i : Nat) (es : List D), ρ[i]? = some (some (.mut es)) → σ[i]? ≠ some (some (.ref a))
  | .mref i, v => σ[i]? = some (some v) ∧ ∃ ds, ρ[i]? = some (some (.mut ds))
/-- a result that waits while other things are reckoned -/
def RS (K : PySem.W.Frag) (F : Hp) (σ : L2.St) : Vl → V → Prop
  | .val d, v => Rp K F d v
  | .own ds, v => Rp K F (.lst ds) v
  | .mref i, v => σ[i]? = some (some v)
theorem RS.mono {σ : L2.St} {r : Vl} {v : V} (e : Same F F') (h : RS K F σ r v) : RS K F' σ r v := by
  cases r with
  | val d => exact Rp.mono e _ _ h
  | own ds => exact Rp.mono e _ _ h
  | mref i => exact h
/-- data that may be read in H -/
def Top (K : PySem.W.Frag) (F H : Hp) : D → V → Prop
  | .lst ds, v => ∃ a vs, v = .ref a ∧ SqL K H a vs ∧ RpL K F ds vs
  | d, v => Rp K F d v
theorem Rp.top (e : Same F H) {d : D} {v : V} (h : Rp K F d v) : Top K F H d v := by
  cases d with
  | lst ds =>
    unfold Rp at h
    obtain ⟨a, vs, e1, e2, e3⟩ := h
    exact ⟨a, vs, e1, e.seq e2, e3⟩
  | tup ds => exact h
  | non => exact h
  | bl b => exact h
  | int i => exact h
  | str s => exact h
theorem Rp.int_inv {i : Int} {v : V} (h : Rp K F (.int i) v) : v = .int i := by unfold Rp at h; exact h
theorem Rp.bl_inv {i : Bool} {v : V} (h : Rp K F (.bl i) v) : v = .bl i := by unfold Rp at h; exact h
theorem Rp.non_inv {v : V} (h : Rp K F .non v) : v = .non := by unfold Rp at h; exact h
theorem Rp.str_inv {i : Str} {v : V} (h : Rp K F (.str i) v) : v = .str i := by unfold Rp at h; exact h
theorem Rp.tup_inv {ds : List D} {v : V} (h : Rp K F (.tup ds) v) : ∃ a vs, v = .ref a ∧ SqT K F a vs ∧ RpL K F ds vs := by unfold Rp at h; exact h
theorem Rp.int {i : Int} : Rp K F (.int i) (.int i) := by unfold Rp; rfl
theorem Rp.bl {i : Bool} : Rp K F (.bl i) (.bl i) := by unfold Rp; rfl
theorem Rp.non : Rp K F .non .non := by unfold Rp; rfl
theorem Rp.str {i : Str} : Rp K F (.str i) (.str i) := by unfold Rp; rfl
variable {P : Hp} {ρ : DL.Env} {σ : L2.St}
theorem SR.top (S : SR K P F ρ σ H) {r : Vl} {v : V} {d : D} (h : RS K F σ r v) (e : deref ρ r = some d) : Top K F H d v := by
  cases r with
  | val d' =>
    have e' : d' = d := Option.some.inj e
    subst e'
    exact Rp.top S.fh h
  | own ds =>
    have e' : D.lst ds = d := Option.some.inj e
    subst e'
    exact Rp.top S.fh h
  | mref i =>
    have h' : σ[i]? = some (some v) := h
    unfold deref at e
    dsimp only at e
    split at e
    · rename_i ds q
      cases e
      obtain ⟨a, vs, h1, h2, h3, _⟩ := S.muts i ds q
      rw [h'] at h1
      cases h1
      exact ⟨a, vs, rfl, SqL.of h2, h3⟩
    · rename_i d' q
      cases e
      obtain ⟨u, h1, h2⟩ := S.vals i _ q
      rw [h'] at h1
      cases h1
      exact Rp.top S.fh h2
    · cases e
theorem same_upd {H : Hp} {p : Addr} {o : HO} (h : H p = none) : Same H (upd H p o) := fun b x e => by
  rw [upd_ne (ne_of_none e h)]
  exact e
/-- an address joins what lies still -/
theorem SR.still (S : SR K P F ρ σ H) {a : Addr} {o : HO} (hH : H a = some o) (hF : F a = none) (hP : P a = none) (hm : ∀ (i : Nat) (es : List D), ρ[i]? = some (some (.mut es)) → σ[i]? ≠ some (some (.ref a))) : SR K P (upd F a o) ρ σ H := by
  have e : Same F (upd F a o) := same_upd hF
  refine ⟨fun b x hx => ?_, S.ph, fun b x hx => ?_, S.len, fun i d q => ?_, fun i ds q => ?_, S.sep⟩
  · by_cases hb : b = a
    · subst hb; rw [upd_same] at hx; cases hx; exact hH
    · rw [upd_ne hb] at hx; exact S.fh b x hx
  · have hb : b ≠ a := fun z => by subst z; rw [hP] at hx; cases hx
    rw [upd_ne hb]; exact S.dj b x hx
  · obtain ⟨v, h1, h2⟩ := S.vals i d q
    exact ⟨v, h1, Rp.mono e _ _ h2⟩
  · obtain ⟨b, vs, h1, h2, h3, h4, h5⟩ := S.muts i ds q
    have hb : b ≠ a := fun z => by subst z; exact hm i ds q h1
    exact ⟨b, vs, h1, h2, RpL.mono e _ _ h3, by rw [upd_ne hb]; exact h4, h5⟩
/-- the heap and the still part grow by a new object -/
theorem SR.grow (S : SR K P F ρ σ H) {p : Addr} {o : HO} (hp : H p = none) : SR K P (upd F p o) ρ σ (upd H p o) := by
  have hF : F p = none := S.fh.free hp
  have hP : P p = none := S.ph.free hp
  have e : Same F (upd F p o) := same_upd hF
  refine ⟨fun b x hx => ?_, S.ph.trans (same_upd hp), fun b x hx => ?_, S.len, fun i d q => ?_, fun i ds q => ?_, S.sep⟩
  · by_cases hb : b = p
    · subst hb; rw [upd_same] at hx ⊢; exact hx
    · rw [upd_ne hb] at hx ⊢; exact S.fh b x hx
  · have hb : b ≠ p := fun z => by subst z; rw [hP] at hx; cases hx
    rw [upd_ne hb]; exact S.dj b x hx
  · obtain ⟨v, h1, h2⟩ := S.vals i d q
    exact ⟨v, h1, Rp.mono e _ _ h2⟩
  · obtain ⟨b, vs, h1, h2, h3, h4, h5⟩ := S.muts i ds q
    have hb : b ≠ p := ne_of_none h2 hp
    exact ⟨b, vs, h1, by rw [upd_ne hb]; exact h2, RpL.mono e _ _ h3, by rw [upd_ne hb]; exact h4, h5⟩
/-- the heap alone grows -/
theorem SR.growH (S : SR K P F ρ σ H) {p : Addr} {o : HO} (hp : H p = none) : SR K P F ρ σ (upd H p o) := by
  refine ⟨S.fh.trans (same_upd hp), S.ph.trans (same_upd hp), S.dj, S.len, S.vals, fun i ds q => ?_, S.sep⟩
  obtain ⟨b, vs, h1, h2, h3, h4, h5⟩ := S.muts i ds q
  exact ⟨b, vs, h1, by rw [upd_ne (ne_of_none h2 hp)]; exact h2, h3, h4, h5⟩
theorem RV.newTup (S : SR K P F ρ σ H) {p : Addr} {vs : List V} {ds : List D} (hp : H p = none) (h : RpL K F ds vs) :
    RV K P (upd F p (.tup vs)) (upd H p (.tup vs)) ρ σ (.val (.tup ds)) (.ref p) := by
  unfold RV Rp
  exact ⟨p, vs, rfl, SqT.of upd_same, RpL.mono (same_upd (S.fh.free hp)) _ _ h⟩
theorem RV.newLst (S : SR K P F ρ σ H) {p : Addr} {vs : List V} {ds : List D} (hp : H p = none) (h : RpL K F ds vs) :
    RV K P F (upd H p (.lst vs)) ρ σ (.own ds) (.ref p) := by
  refine ⟨p, vs, rfl, upd_same, h, S.fh.free hp, S.ph.free hp, fun i es q z => ?_⟩
  obtain ⟨b, us, h1, h2, _⟩ := S.muts i es q
  rw [z] at h1
  cases h1
  rw [h2] at hp; cases hp
theorem Rp.lstI {a : Addr} {vs : List V} {ds : List D} (h : F a = some (.lst vs)) (r : RpL K F ds vs) : Rp K F (.lst ds) (.ref a) := by
  unfold Rp
  exact ⟨a, vs, rfl, SqL.of h, r⟩
/-- a result is set aside -/
theorem SR.settle (S : SR K P F ρ σ H) {r : Vl} {v : V} (h : RV K P F H ρ σ r v) : ∃ F', Same F F' ∧ SR K P F' ρ σ H ∧ RS K F' σ r v := by
  cases r with
  | val d => exact ⟨F, .refl _, S, h⟩
  | own ds =>
    obtain ⟨a, vs, rfl, h1, h2, h3, h4, h5⟩ := h
    refine ⟨upd F a (.lst vs), same_upd h3, S.still h1 h3 h4 h5, ?_⟩
    exact Rp.lstI upd_same (RpL.mono (same_upd h3) _ _ h2)
  | mref i => exact ⟨F, .refl _, S, h.1⟩
/-- a slot's list becomes still -/
theorem SR.freezeSlot (S : SR K P F ρ σ H) {i : Nat} {ds : List D} (q : ρ[i]? = some (some (.mut ds))) :
    ∃ F' v, Same F F' ∧ σ[i]? = some (some v) ∧ SR K P F' (ρ.set i (some (.val (.lst ds)))) σ H ∧ Rp K F' (.lst ds) v := by
  obtain ⟨a, vs, h1, h2, h3, h4, h5⟩ := S.muts i ds q
  have hi : i < ρ.length := (List.getElem?_eq_some_iff.mp q).1
  have e : Same F (upd F a (.lst vs)) := same_upd h4
  have hr : Rp K (upd F a (.lst vs)) (.lst ds) (.ref a) := Rp.lstI upd_same (RpL.mono e _ _ h3)
  have nm : ∀ (j : Nat) (es : List D), (ρ.set i (some (.val (.lst ds))))[j]? = some (some (.mut es)) → j ≠ i ∧ ρ[j]? = some (some (.mut es)) := fun j es z => by
    by_cases hj : j = i
    · subst hj; rw [List.getElem?_set_self hi] at z; cases z
    · rw [List.getElem?_set_ne (Ne.symm hj)] at z; exact ⟨hj, z⟩
  refine ⟨upd F a (.lst vs), .ref a, e, h1, ⟨fun b x hx => ?_, S.ph, fun b x hx => ?_, ?_, fun j d z => ?_, fun j es z => ?_, fun j k b es us z1 z2 z3 z4 => ?_⟩, hr⟩
  · by_cases hb : b = a
    · subst hb; rw [upd_same] at hx; cases hx; exact h2
    · rw [upd_ne hb] at hx; exact S.fh b x hx
  · have hb : b ≠ a := fun z => by subst z; rw [h5] at hx; cases hx
    rw [upd_ne hb]; exact S.dj b x hx
  · rw [List.length_set]; exact S.len
  · by_cases hj : j = i
    · subst hj
      rw [List.getElem?_set_self hi] at z
      cases z
      exact ⟨_, h1, hr⟩
    · rw [List.getElem?_set_ne (Ne.symm hj)] at z
      obtain ⟨v, g1, g2⟩ := S.vals j d z
      exact ⟨v, g1, Rp.mono e _ _ g2⟩
  · obtain ⟨hj, z⟩ := nm j es z
    obtain ⟨b, us, g1, g2, g3, g4, g5⟩ := S.muts j es z
    have hb : b ≠ a := fun y => by subst y; exact hj (S.sep j i _ _ _ z q g1 h1)
    exact ⟨b, us, g1, g2, RpL.mono e _ _ g3, by rw [upd_ne hb]; exact g4, g5⟩
  · exact S.sep j k b es us (nm j es z1).2 (nm k us z2).2 z3 z4
/-- freezing a result that waits -/
theorem SR.freeze (S : SR K P F ρ σ H) {r : Vl} {v : V} {d : D} {ρ' : DL.Env} (h : RS K F σ r v) (e : DL.freeze r ρ = .ok d ρ') : ∃ F', Same F F' ∧ SR K P F' ρ' σ H ∧ Rp K F' d v := by
  cases r with
  | val d' => cases e; exact ⟨F, .refl _, S, h⟩
  | own ds => cases e; exact ⟨F, .refl _, S, h⟩
  | mref i =>
    have h' : σ[i]? = some (some v) := h
    unfold DL.freeze at e
    dsimp only at e
    split at e
    · rename_i ds q
      cases e
      obtain ⟨F', u, e1, e2, e3, e4⟩ := S.freezeSlot q
      rw [h'] at e2; cases e2
      exact ⟨F', e1, e3, e4⟩
    · rename_i d' q
      cases e
      obtain ⟨u, h1, h2⟩ := S.vals i _ q
      rw [h'] at h1; cases h1
      exact ⟨F, .refl _, S, h2⟩
    · cases e
theorem freeze_cases (r : Vl) (ρ : DL.Env) : (∃ d ρ', DL.freeze r ρ = .ok d ρ') ∨ DL.freeze r ρ = .stuck := by
  cases r with
  | val d => exact .inl ⟨_, _, rfl⟩
  | own ds => exact .inl ⟨_, _, rfl⟩
  | mref i =>
    unfold DL.freeze
    dsimp only
    split
    · exact .inl ⟨_, _, rfl⟩
    · exact .inl ⟨_, _, rfl⟩
    · exact .inr rfl
/-- a slot is stored -/
theorem SR.store (S : SR K P F ρ σ H) {i : Nat} {d : D} {v : V} (hi : i < ρ.length) (h : Rp K F d v) : SR K P F (ρ.set i (some (.val d))) (σ.set i (some v)) H := by
  have hi' : i < σ.length := by rw [← S.len]; exact hi
  have nm : ∀ (j : Nat) (es : List D), (ρ.set i (some (.val d)))[j]? = some (some (.mut es)) → j ≠ i ∧ ρ[j]? = some (some (.mut es)) := fun j es z => by
    by_cases hj : j = i
    · subst hj; rw [List.getElem?_set_self hi] at z; cases z
    · rw [List.getElem?_set_ne (Ne.symm hj)] at z; exact ⟨hj, z⟩
  refine ⟨S.fh, S.ph, S.dj, by rw [List.length_set, List.length_set]; exact S.len, fun j e z => ?_, fun j es z => ?_, fun j k b es us z1 z2 z3 z4 => ?_⟩
  · by_cases hj : j = i
    · subst hj
      rw [List.getElem?_set_self hi] at z
      cases z
      exact ⟨v, List.getElem?_set_self hi', h⟩
    · rw [List.getElem?_set_ne (Ne.symm hj)] at z ⊢
      exact S.vals j e z
  · obtain ⟨hj, z⟩ := nm j es z
    rw [List.getElem?_set_ne (Ne.symm hj)]
    exact S.muts j es z
  · obtain ⟨hj, z1⟩ := nm j es z1
    obtain ⟨hk, z2⟩ := nm k us z2
    rw [List.getElem?_set_ne (Ne.symm hj)] at z3
    rw [List.getElem?_set_ne (Ne.symm hk)] at z4
    exact S.sep j k b es us z1 z2 z3 z4
/-- a new list is stored -/
theorem SR.storeOwn (S : SR K P F ρ σ H) {i : Nat} {ds : List D} {v : V} (hi : i < ρ.length) (h : RV K P F H ρ σ (.own ds) v) : SR K P F (ρ.set i (some (.mut ds))) (σ.set i (some v)) H := by
  obtain ⟨a, vs, rfl, h1, h2, h3, h4, h5⟩ := h
  have hi' : i < σ.length := by rw [← S.len]; exact hi
  refine ⟨S.fh, S.ph, S.dj, by rw [List.length_set, List.length_set]; exact S.len, fun j e z => ?_, fun j es z => ?_, fun j k b es us z1 z2 z3 z4 => ?_⟩
  · have hj : j ≠ i := fun y => by subst y; rw [List.getElem?_set_self hi] at z; cases z
    rw [List.getElem?_set_ne (Ne.symm hj)] at z ⊢
    exact S.vals j e z
  · by_cases hj : j = i
    · subst hj
      rw [List.getElem?_set_self hi] at z
      cases z
      exact ⟨a, vs, List.getElem?_set_self hi', h1, h2, h3, h4⟩
    · rw [List.getElem?_set_ne (Ne.symm hj)] at z ⊢
      exact S.muts j es z
  · by_cases hj : j = i
    · by_cases hk : k = i
      · rw [hj, hk]
      · subst hj
        rw [List.getElem?_set_self hi'] at z3
        cases z3
        rw [List.getElem?_set_ne (Ne.symm hk)] at z2 z4
        exact absurd z4 (h5 k us z2)
    · by_cases hk : k = i
      · subst hk
        rw [List.getElem?_set_self hi'] at z4
        cases z4
        rw [List.getElem?_set_ne (Ne.symm hj)] at z1 z3
        exact absurd z3 (h5 j es z1)
      · rw [List.getElem?_set_ne (Ne.symm hj)] at z1 z3
        rw [List.getElem?_set_ne (Ne.symm hk)] at z2 z4
        exact S.sep j k b es us z1 z2 z3 z4
/-- a slot's list is changed -/
theorem SR.write (S : SR K P F ρ σ H) {i : Nat} {ds es : List D} {a : Addr} {us : List V} (q : ρ[i]? = some (some (.mut ds))) (ha : σ[i]? = some (some (.ref a))) (r : RpL K F es us) :
    SR K P F (ρ.set i (some (.mut es))) σ (upd H a (.lst us)) := by
  obtain ⟨a', vs, h1, h2, h3, h4, h5⟩ := S.muts i ds q
  rw [ha] at h1
  cases h1
  have hi : i < ρ.length := (List.getElem?_eq_some_iff.mp q).1
  have nm : ∀ (j : Nat) (xs : List D), (ρ.set i (some (.mut es)))[j]? = some (some (.mut xs)) → (j = i ∧ xs = es) ∨ (j ≠ i ∧ ρ[j]? = some (some (.mut xs))) := fun j xs z => by
    by_cases hj : j = i
    · subst hj; rw [List.getElem?_set_self hi] at z; cases z; exact .inl ⟨rfl, rfl⟩
    · rw [List.getElem?_set_ne (Ne.symm hj)] at z; exact .inr ⟨hj, z⟩
  have there : ∀ (j : Nat) (xs : List D), (ρ.set i (some (.mut es)))[j]? = some (some (.mut xs)) → ∃ ys, ρ[j]? = some (some (.mut ys)) := fun j xs z => by
    rcases nm j xs z with ⟨rfl, _⟩ | ⟨_, z⟩
    · exact ⟨_, q⟩
    · exact ⟨_, z⟩
  refine ⟨fun b x hx => ?_, fun b x hx => ?_, S.dj, by rw [List.length_set]; exact S.len, fun j e z => ?_, fun j xs z => ?_, fun j k b xs ys z1 z2 z3 z4 => ?_⟩
  · rw [upd_ne (ne_of_none hx h4)]; exact S.fh b x hx
  · rw [upd_ne (ne_of_none hx h5)]; exact S.ph b x hx
  · have hj : j ≠ i := fun y => by subst y; rw [List.getElem?_set_self hi] at z; cases z
    rw [List.getElem?_set_ne (Ne.symm hj)] at z
    exact S.vals j e z
  · rcases nm j xs z with ⟨rfl, rfl⟩ | ⟨hj, z⟩
    · exact ⟨a, us, ha, upd_same, r, h4, h5⟩
    · obtain ⟨b, ws, g1, g2, g3, g4, g5⟩ := S.muts j xs z
      have hb : b ≠ a := fun y => by subst y; exact hj (S.sep j i _ _ _ z q g1 ha)
      exact ⟨b, ws, g1, by rw [upd_ne hb]; exact g2, g3, g4, g5⟩
  · obtain ⟨xs', z1'⟩ := there j xs z1
    obtain ⟨ys', z2'⟩ := there k ys z2
    exact S.sep j k b xs' ys' z1' z2' z3 z4
end
end DL

end
section
set_option maxRecDepth 100000
set_option maxHeartbeats 1000000
/-! DL, part 3: each operation of the model does what the interpreter says. -/
namespace DL
open PySem PySem.Spec PyProof.Rows L2

theorem LIM_eq : LIM = sizeLine := by rw [sizeLine_eq]; rfl
/-- what an operation leaves: a value that lay still, or a new tuple, or a new list -/
inductive NewR (K : PySem.W.Frag) (F H : Hp) : Hp → Hp → Vl → V → Prop
  | same {d : D} {v : V} (h : Rp K F d v) : NewR K F H F H (.val d) v
  | tup {p : Addr} {vs : List V} {ds : List D} (hp : H p = none) (r : RpL K F ds vs) : NewR K F H (upd F p (.tup vs)) (upd H p (.tup vs)) (.val (.tup ds)) (.ref p)
  | lst {p : Addr} {vs : List V} {ds : List D} (hp : H p = none) (r : RpL K F ds vs) : NewR K F H F (upd H p (.lst vs)) (.own ds) (.ref p)
section
variable {K : PySem.W.Frag} {P F H F' H' : Hp} {ρ : DL.Env} {σ : L2.St} {r : Vl} {v : V}
theorem NewR.sr (n : NewR K F H F' H' r v) (S : SR K P F ρ σ H) : Same F F' ∧ SR K P F' ρ σ H' ∧ RV K P F' H' ρ σ r v := by
  cases n with
  | same h => exact ⟨.refl _, S, h⟩
  | tup hp h => exact ⟨same_upd (S.fh.free hp), S.grow hp, RV.newTup S hp h⟩
  | lst hp h => exact ⟨.refl _, S.growH hp, RV.newLst S hp h⟩
end
/-- an operation on two values, as the interpreter has it -/
def rD (K : PySem.W.Frag) (f : D → D → Option Vl) : R2 := fun x y H Q => ∃ F dx dy r, Same F H ∧ Top K F H dx x ∧ Top K F H dy y ∧ f dx dy = some r ∧ ∀ v F' H', NewR K F H F' H' r v → Q v H'

/-! ### data as the library tells it -/
mutual
def toPy : D → PyData
  | .non => .none
  | .bl b => .bool b
  | .int i => .int i
  | .str s => .str s
  | .tup xs => .tuple (toPys xs)
  | .lst xs => .list (toPys xs)
def toPys : List D → List PyData
  | [] => []
  | x :: xs => toPy x :: toPys xs
end
mutual
theorem toPy_eqv : ∀ a b : D, PyData.eqv (toPy a) (toPy b) = D.eqv a b
  | a, b => by
    cases a with
    | tup xs => cases b with
      | tup ys => simp only [toPy, PyData.eqv, D.eqv]; exact toPys_eqv xs ys
      | _ => simp [toPy, PyData.eqv, D.eqv]
    | lst xs => cases b with
      | lst ys => simp only [toPy, PyData.eqv, D.eqv]; exact toPys_eqv xs ys
      | _ => simp [toPy, PyData.eqv, D.eqv]
    | non => cases b <;> simp [toPy, PyData.eqv, D.eqv]
    | bl _ => cases b <;> simp [toPy, PyData.eqv, D.eqv]
    | int _ => cases b <;> simp [toPy, PyData.eqv, D.eqv]
    | str _ => cases b <;> simp [toPy, PyData.eqv, D.eqv]
theorem toPys_eqv : ∀ a b : List D, PyData.eqvAll (toPys a) (toPys b) = D.eqvs a b
  | [], [] => by simp [toPys, PyData.eqvAll, D.eqvs]
  | [], _ :: _ => by simp [toPys, PyData.eqvAll, D.eqvs]
  | _ :: _, [] => by simp [toPys, PyData.eqvAll, D.eqvs]
  | x :: xs, y :: ys => by simp only [toPys, PyData.eqvAll, D.eqvs, toPy_eqv x y, toPys_eqv xs ys]
end
mutual
theorem toPy_depth : ∀ a : D, (toPy a).depth = D.depth a
  | .non => by simp [toPy, PyData.depth, D.depth]
  | .bl _ => by simp [toPy, PyData.depth, D.depth]
  | .int _ => by simp [toPy, PyData.depth, D.depth]
  | .str _ => by simp [toPy, PyData.depth, D.depth]
  | .tup xs => by simp only [toPy, PyData.depth, D.depth, toPys_depth xs]
  | .lst xs => by simp only [toPy, PyData.depth, D.depth, toPys_depth xs]
theorem toPys_depth : ∀ a : List D, PyData.depthAll (toPys a) = D.depths a
  | [] => by simp [toPys, PyData.depthAll, D.depths]
  | x :: xs => by
    simp only [toPys, PyData.depthAll, D.depths, toPy_depth x, toPys_depth xs]
end
mutual
theorem toPy_lay : ∀ a : D, (toPy a).canLay0 = D.sok a
  | .non => by simp [toPy, PyData.canLay0, D.sok]
  | .bl _ => by simp [toPy, PyData.canLay0, D.sok]
  | .int _ => by simp [toPy, PyData.canLay0, D.sok]
  | .str _ => by simp only [toPy, PyData.canLay0, D.sok]; rfl
  | .tup xs => by simp only [toPy, PyData.canLay0, D.sok, toPys_lay xs]
  | .lst xs => by simp only [toPy, PyData.canLay0, D.sok, toPys_lay xs]
theorem toPys_lay : ∀ a : List D, PyData.canLayAll0 (toPys a) = D.soks a
  | [] => by simp [toPys, PyData.canLayAll0, D.soks]
  | x :: xs => by simp only [toPys, PyData.canLayAll0, D.soks, toPy_lay x, toPys_lay xs]
end
theorem toPys_any (x : D) : ∀ ys : List D, (toPys ys).any (fun y => PyData.eqv y (toPy x)) = ys.any fun y => D.eqv y x
  | [] => rfl
  | y :: ys => by simp only [toPys, List.any_cons, toPy_eqv, toPys_any x ys]
mutual
theorem Rp.dp {K : PySem.W.Frag} {H : Hp} : ∀ (d : D) (v : V), Rp K H d v → Dp K H v (toPy d)
  | .non, v, h => by rw [h.non_inv]; exact .non
  | .bl b, v, h => by rw [h.bl_inv]; exact .bl b
  | .int i, v, h => by rw [h.int_inv]; exact .int i
  | .str s, v, h => by rw [h.str_inv]; exact .str s
  | .tup ds, v, h => by
    obtain ⟨a, vs, rfl, e2, e3⟩ := h.tup_inv
    exact .tup e2 (RpL.dp ds vs e3)
  | .lst ds, v, h => by
    unfold Rp at h
    obtain ⟨a, vs, rfl, e2, e3⟩ := h
    exact .lst e2 (RpL.dp ds vs e3)
theorem RpL.dp {K : PySem.W.Frag} {H : Hp} : ∀ (ds : List D) (vs : List V), RpL K H ds vs → DpAll K H vs (toPys ds)
  | [], vs, h => by rw [h.nil_inv]; exact .nil
  | d :: ds, vs, h => by
    obtain ⟨v, r, rfl, h1, h2⟩ := h.cons_inv
    exact .cons (Rp.dp d v h1) (RpL.dp ds r h2)
end
theorem Top.rp {K : PySem.W.Frag} {F H : Hp} (e : Same F H) {d : D} {v : V} (h : Top K F H d v) : Rp K H d v := by
  cases d with
  | lst ds =>
    obtain ⟨a, vs, h1, h2, h3⟩ := h
    unfold Rp
    exact ⟨a, vs, h1, h2, RpL.mono e _ _ h3⟩
  | tup ds => exact Rp.mono e _ _ h
  | non => exact Rp.mono e _ _ h
  | bl b => exact Rp.mono e _ _ h
  | int i => exact Rp.mono e _ _ h
  | str s => exact Rp.mono e _ _ h
theorem Top.dp {K : PySem.W.Frag} {F H : Hp} (e : Same F H) {d : D} {v : V} (h : Top K F H d v) : Dp K H v (toPy d) := Rp.dp d v (Top.rp e h)

section
variable {X : Cx} {k : Nat}
theorem cmpable_iff {x y : D} (h : cmpable x y = true) : min (toPy x).depth (toPy y).depth ≤ 60 ∧ (toPy x).canLay0 = true ∧ (toPy y).canLay0 = true := by
  unfold cmpable at h
  simp only [Bool.and_eq_true, Bool.or_eq_true, decide_eq_true_eq] at h
  rw [toPy_depth, toPy_depth, toPy_lay, toPy_lay]
  exact ⟨by omega, h.1.2, h.2⟩
/-! ### comparisons -/
def cmpOf : Cop → CmpOp
  | .eq => .Eq | .ne => .NotEq | .lt => .Lt | .le => .LtE | .gt => .Gt | .ge => .GtE | .isin => .In | .notin => .NotIn
def cmpV (op : Cop) (x y : D) : Option Vl := (cmpop op x y).map fun b => .val (.bl b)
theorem opD_eq (hr : Room k X.A) : OpR X (compareOp .Eq) (rD X.K (cmpV .eq)) := by
  intro pins s σ H x y v u Q I rx ry h
  obtain ⟨F, dx, dy, r, hF, hx, hy, e, q⟩ := h
  unfold cmpV cmpop at e
  dsimp only at e
  split at e
  · rename_i hc
    obtain ⟨c1, c2, c3⟩ := cmpable_iff hc
    cases e
    obtain ⟨as, r1⟩ := Dp.reads I _ x v (hx.dp hF) rx
    obtain ⟨bs, r2⟩ := Dp.reads I _ y u (hy.dp hF) ry
    have hu := hr.un
    refine PySem.SeqAt.compareEq_reads r1 r2 c2 c3 (by omega) ⟨.bl (D.eqv dx dy), H, I, ?_, q _ F H (.same .bl)⟩
    rw [toPy_eqv]; rfl
  · cases e
theorem opD_ne (hr : Room k X.A) : OpR X (compareOp .NotEq) (rD X.K (cmpV .ne)) := by
  intro pins s σ H x y v u Q I rx ry h
  obtain ⟨F, dx, dy, r, hF, hx, hy, e, q⟩ := h
  unfold cmpV cmpop at e
  dsimp only at e
  split at e
  · rename_i hc
    obtain ⟨c1, c2, c3⟩ := cmpable_iff hc
    cases e
    obtain ⟨as, r1⟩ := Dp.reads I _ x v (hx.dp hF) rx
    obtain ⟨bs, r2⟩ := Dp.reads I _ y u (hy.dp hF) ry
    have hu := hr.un
    refine PySem.SeqAt.compareNe_reads r1 r2 c2 c3 (by omega) ⟨.bl (!D.eqv dx dy), H, I, ?_, q _ F H (.same .bl)⟩
    rw [toPy_eqv]; rfl
  · cases e
theorem opD_ord {o : Cop} {op : CmpOp} {p : Int → Int → Bool} (ho : OpR X (compareOp op) (rI0 fun i j => .bl (p i j)))
    (hd : ∀ x y r, cmpop o x y = some r → ∃ i j, x = .int i ∧ y = .int j ∧ r = p i j) : OpR X (compareOp op) (rD X.K (cmpV o)) := by
  intro pins s σ H x y v u Q I rx ry h
  obtain ⟨F, dx, dy, r, hF, hx, hy, e, q⟩ := h
  obtain ⟨b, e1, e2⟩ := Option.map_eq_some_iff.mp e
  obtain ⟨i, j, rfl, rfl, rfl⟩ := hd dx dy b e1
  subst e2
  have ex : x = .int i := Rp.int_inv (K := X.K) (F := F) hx
  have ey : y = .int j := Rp.int_inv (K := X.K) (F := F) hy
  exact ho pins s σ H x y v u Q I rx ry ⟨i, j, ex, ey, q _ F H (.same .bl)⟩
theorem cmp_lt : ∀ x y r, cmpop .lt x y = some r → ∃ i j, x = .int i ∧ y = .int j ∧ r = decide (i < j) := by
  intro x y r h
  cases x <;> cases y <;> simp [cmpop] at h <;> exact ⟨_, _, rfl, rfl, h.symm⟩
theorem cmp_le : ∀ x y r, cmpop .le x y = some r → ∃ i j, x = .int i ∧ y = .int j ∧ r = decide (i ≤ j) := by
  intro x y r h
  cases x <;> cases y <;> simp [cmpop] at h <;> exact ⟨_, _, rfl, rfl, h.symm⟩
theorem cmp_gt : ∀ x y r, cmpop .gt x y = some r → ∃ i j, x = .int i ∧ y = .int j ∧ r = decide (j < i) := by
  intro x y r h
  cases x <;> cases y <;> simp [cmpop] at h <;> exact ⟨_, _, rfl, rfl, h.symm⟩
theorem cmp_ge : ∀ x y r, cmpop .ge x y = some r → ∃ i j, x = .int i ∧ y = .int j ∧ r = decide (j ≤ i) := by
  intro x y r h
  cases x <;> cases y <;> simp [cmpop] at h <;> exact ⟨_, _, rfl, rfl, h.symm⟩
theorem isin_list {pins : List (Addr × Obj)} {s : Shared} {σ : L2.St} {F H : Hp} {x y : V} {v u : Value} {dx : D} {ys : List D} (I : Inv X pins σ H s) (rx : RelV x v) (ry : RelV y u) (hF : Same F H) (hr : Room k X.A)
    (hx : Top X.K F H dx x) (hc : cmpable (.lst ys) dx = true) (hy : Top X.K F H (.lst ys) y) {Q : Value → Shared → Prop} {E : Value → Shared → Prop} {neg : Bool} (h : Q (.bool (if neg then !(ys.any fun z => D.eqv z dx) else ys.any fun z => D.eqv z dx)) s) :
    wpAny (model X.prog X.w) X.A (compareOp (if neg then .NotIn else .In) v u) Q E s := by
  obtain ⟨c1, c2, c3⟩ := cmpable_iff hc
  obtain ⟨as, r1⟩ := Dp.reads I _ x v (hx.dp hF) rx
  obtain ⟨bs, r2⟩ := Dp.reads I _ y u (hy.dp hF) ry
  have hu := hr.un
  simp only [toPy, PyData.depth] at c1
  simp only [toPy, PyData.canLay0] at c2
  have hu2 : X.A.units + 1 + min (PyData.depthAll (toPys ys)) (toPy dx).depth < cLine := by omega
  cases neg with
  | false => exact SeqAt.in_list_reads (by simpa only [toPy] using r2) r1 c2 c3 hu2 (by rw [toPys_any]; exact h)
  | true => exact SeqAt.notIn_list_reads (by simpa only [toPy] using r2) r1 c2 c3 hu2 (by rw [toPys_any]; exact h)
theorem isin_tup {pins : List (Addr × Obj)} {s : Shared} {σ : L2.St} {F H : Hp} {x y : V} {v u : Value} {dx : D} {ys : List D} (I : Inv X pins σ H s) (rx : RelV x v) (ry : RelV y u) (hF : Same F H) (hr : Room k X.A)
    (hx : Top X.K F H dx x) (hc : cmpable (.tup ys) dx = true) (hy : Top X.K F H (.tup ys) y) {Q : Value → Shared → Prop} {E : Value → Shared → Prop} {neg : Bool} (h : Q (.bool (if neg then !(ys.any fun z => D.eqv z dx) else ys.any fun z => D.eqv z dx)) s) :
    wpAny (model X.prog X.w) X.A (compareOp (if neg then .NotIn else .In) v u) Q E s := by
  obtain ⟨c1, c2, c3⟩ := cmpable_iff hc
  obtain ⟨as, r1⟩ := Dp.reads I _ x v (hx.dp hF) rx
  obtain ⟨bs, r2⟩ := Dp.reads I _ y u (hy.dp hF) ry
  have hu := hr.un
  simp only [toPy, PyData.depth] at c1
  simp only [toPy, PyData.canLay0] at c2
  have hu2 : X.A.units + 1 + min (PyData.depthAll (toPys ys)) (toPy dx).depth < cLine := by omega
  cases neg with
  | false => exact SeqAt.in_tuple_reads (by simpa only [toPy] using r2) r1 c2 c3 hu2 (by rw [toPys_any]; exact h)
  | true => exact SeqAt.notIn_tuple_reads (by simpa only [toPy] using r2) r1 c2 c3 hu2 (by rw [toPys_any]; exact h)
theorem opD_in (hr : Room k X.A) : OpR X (compareOp .In) (rD X.K (cmpV .isin)) := by
  intro pins s σ H x y v u Q I rx ry h
  obtain ⟨F, dx, dy, r, hF, hx, hy, e, q⟩ := h
  obtain ⟨b, e1, e2⟩ := Option.map_eq_some_iff.mp e
  subst e2
  have fin : EP X pins σ Q (.bool b) s := ⟨.bl b, H, I, rfl, q _ F H (.same .bl)⟩
  cases dy with
  | tup ys =>
    simp only [cmpop, isinD] at e1
    split at e1
    · rename_i hc
      cases e1
      exact isin_tup (neg := false) I rx ry hF hr hx hc hy fin
    · cases e1
  | lst ys =>
    simp only [cmpop, isinD] at e1
    split at e1
    · rename_i hc
      cases e1
      exact isin_list (neg := false) I rx ry hF hr hx hc hy fin
    · cases e1
  | str t =>
    cases dx with
    | str z =>
      have ex : x = .str z := Rp.str_inv (K := X.K) (F := F) hx
      have ey : y = .str t := Rp.str_inv (K := X.K) (F := F) hy
      refine op_in_str pins s σ H x y v u Q I rx ry ⟨z, t, ex, ey, ?_⟩
      simp only [cmpop, isinD] at e1
      cases e1
      exact q _ F H (.same .bl)
    | _ => simp [cmpop, isinD] at e1
  | _ => simp [cmpop, isinD] at e1
theorem opD_notin (hr : Room k X.A) : OpR X (compareOp .NotIn) (rD X.K (cmpV .notin)) := by
  intro pins s σ H x y v u Q I rx ry h
  obtain ⟨F, dx, dy, r, hF, hx, hy, e, q⟩ := h
  obtain ⟨b, e1, e2⟩ := Option.map_eq_some_iff.mp e
  subst e2
  have fin : EP X pins σ Q (.bool b) s := ⟨.bl b, H, I, rfl, q _ F H (.same .bl)⟩
  cases dy with
  | tup ys =>
    simp only [cmpop, isinD] at e1
    split at e1
    · rename_i hc
      cases e1
      exact isin_tup (neg := true) I rx ry hF hr hx hc hy fin
    · cases e1
  | lst ys =>
    simp only [cmpop, isinD] at e1
    split at e1
    · rename_i hc
      cases e1
      exact isin_list (neg := true) I rx ry hF hr hx hc hy fin
    · cases e1
  | str t =>
    cases dx with
    | str z =>
      have ex : x = .str z := Rp.str_inv (K := X.K) (F := F) hx
      have ey : y = .str t := Rp.str_inv (K := X.K) (F := F) hy
      refine op_notIn_str pins s σ H x y v u Q I rx ry ⟨z, t, ex, ey, ?_⟩
      simp only [cmpop, isinD, Option.map_some] at e1
      cases e1
      exact q _ F H (.same .bl)
    | _ => simp [cmpop, isinD] at e1
  | _ => simp [cmpop, isinD] at e1
/-- every comparison -/
theorem opD_cmp (hr : Room k X.A) : ∀ op : Cop, OpR X (compareOp (cmpOf op)) (rD X.K (cmpV op))
  | .eq => opD_eq hr
  | .ne => opD_ne hr
  | .lt => opD_ord op_lt cmp_lt
  | .le => opD_ord op_le cmp_le
  | .gt => opD_ord op_gt cmp_gt
  | .ge => opD_ord op_ge cmp_ge
  | .isin => opD_in hr
  | .notin => opD_notin hr
end
end DL

end
section
set_option maxRecDepth 100000
set_option maxHeartbeats 1000000
/-! DL, part 4: arithmetic, sums and multiples of tuples and lists. -/
namespace DL
open PySem PySem.Spec PyProof.Rows L2
theorem int_rmul_list (a : Int) (t : Tok) (l : Addr) (items : Array Value) (n : Nat) (dd : Option Addr) (sl : Array (Option Value)) :
    Meets (Builtin.«int.__rmul__» ⟨[.int a t, .ref l], []⟩) (fun _ R s => s.heap.get? l = some { cls := .type "list", dict := dd, data := .seq items n, slots := sl } ∧ R (.ok (.ret Value.notImplemented)) s) :=
  .of_wp fun prog w A R s h => by obtain ⟨hp, g, d, tk, os⟩ := s; obtain ⟨hl, h⟩ := h; wp_walk using wpAny_loadPart' hl; exact ⟨_, rfl, h⟩
theorem list_mulW (l : Addr) (items : Array Value) (n : Nat) (dd : Option Addr) (sl : Array (Option Value)) (x : Int) (u : Tok) (hc0 : ¬(!Builtin.List.listFitsIndex x) = true) (hc1 : ¬items.size * x.toNat > (2 ^ 63 - 1) / 8) (hc2 : ¬Builtin.List.listTooLong (items.size * x.toNat) = true) :
    Meets (Builtin.«list.__mul__» ⟨[.ref l, .int x u], []⟩) (fun _ R s => s.heap.get? l = some { cls := .type "list", dict := dd, data := .seq items n, slots := sl } ∧ R (.ok (.ret (Value.ref s.heap.objs.size))) { s with heap := s.heap.push { cls := Value.type "list", data := Data.seq (List.foldl (fun x1 x2 => x1 ++ x2) #[] (List.replicate (if items.isEmpty = true then 0 else x.toNat) items)) }, toks := s.toks }) :=
  .of_wp fun prog w A R s h => by
    obtain ⟨hp, g, d, tk, os⟩ := s; obtain ⟨hl, h⟩ := h
    have hsz := PySem.AutoListH.joined_fits hc2
    wp_walk using wpAny_loadPart' hl; refine wpAny_ite_false (decide_eq_false (Nat.not_lt.mpr hsz)) ?_; wp_walk using wpAny_loadPart' hl; exact ⟨_, rfl, h⟩
/-- t * k, k at most 0: an empty tuple, new -/
theorem tuple_mul0 (l : Addr) (items : Array Value) (n : Nat) (dd : Option Addr) (sl : Array (Option Value)) (x : Int) (u : Tok) (c0 : (decide (x < -(2 ^ 63)) || decide (x ≥ 2 ^ 63)) = false) (c1 : (items.isEmpty || x == 1) = false) (c2 : (decide (x ≤ 0) || items.isEmpty) = true) :
    Meets (Builtin.«tuple.__mul__» ⟨[.ref l, .int x u], []⟩) (fun _ R s => s.heap.get? l = some { cls := .type "tuple", dict := dd, data := .seq items n, slots := sl } ∧
      R (.ok (.ret (Value.ref s.heap.objs.size))) { s with heap := s.heap.push { cls := Value.type "tuple", data := Data.seq #[] }, toks := s.toks }) :=
  .of_wp fun prog w A R s h => by
    obtain ⟨hp, g, d, tk, os⟩ := s
    obtain ⟨hl, h⟩ := h
    have f1 := AutoSeq1.idx_int
    wp_walk using wpAny_loadPart' hl
    repeat (first
      | (refine wpAny_ite_false (decide_eq_false (by rw [c0]; exact Bool.false_ne_true)) ?_; wp_walk using wpAny_loadPart' hl)
      | (refine wpAny_ite_false (decide_eq_false (by rw [c1]; exact Bool.false_ne_true)) ?_; wp_walk using wpAny_loadPart' hl)
      | (refine wpAny_ite_true (decide_eq_true c2) ?_; wp_walk using wpAny_loadPart' hl))
    exact ⟨_, rfl, h⟩
/-- t * 1, or t empty: itself -/
theorem tuple_mul1 (l : Addr) (items : Array Value) (n : Nat) (dd : Option Addr) (sl : Array (Option Value)) (x : Int) (u : Tok) (c0 : (decide (x < -(2 ^ 63)) || decide (x ≥ 2 ^ 63)) = false) (c1 : (items.isEmpty || x == 1) = true) :
    Meets (Builtin.«tuple.__mul__» ⟨[.ref l, .int x u], []⟩) (fun _ R s => s.heap.get? l = some { cls := .type "tuple", dict := dd, data := .seq items n, slots := sl } ∧ R (.ok (.ret (Value.ref l))) s) :=
  .of_wp fun prog w A R s h => by
    obtain ⟨hp, g, d, tk, os⟩ := s
    obtain ⟨hl, h⟩ := h
    have f1 := AutoSeq1.idx_int
    wp_walk using wpAny_loadPart' hl
    repeat (first
      | (refine wpAny_ite_false (decide_eq_false (by rw [c0]; exact Bool.false_ne_true)) ?_; wp_walk using wpAny_loadPart' hl)
      | (refine wpAny_ite_true (decide_eq_true c1) ?_; wp_walk using wpAny_loadPart' hl))
    exact ⟨_, rfl, h⟩
theorem rep_len {α : Type} (xs : List α) : ∀ n, (rep xs n).length = n * xs.length
  | 0 => by simp [rep]
  | n + 1 => by rw [rep, List.length_append, rep_len xs n, Nat.succ_mul, Nat.add_comm]
theorem rep_nil {α : Type} : ∀ n, rep ([] : List α) n = []
  | 0 => rfl
  | n + 1 => by rw [rep, rep_nil n]; rfl
section
variable {X : Cx} {pins : List (Addr × Obj)} {s : Shared} {σ : L2.St} {F H : Hp} {x y : V} {v u : Value} {Q : VK}
theorem int_of {i : Int} (h : Top X.K F H (.int i) x) : x = .int i := Rp.int_inv (K := X.K) (F := F) h
theorem str_of {i : Str} (h : Top X.K F H (.str i) x) : x = .str i := Rp.str_inv (K := X.K) (F := F) h
theorem mulOk_ok {i j : Int} (h : mulOk i j = true) : CMul i j := by
  unfold mulOk at h
  simp only [Bool.or_eq_true, Bool.and_eq_true, decide_eq_true_eq] at h
  exact h
theorem tup_mul (I : Inv X pins σ H s) (hF : Same F H) {xs : List D} {k : Int} (hx : Rp X.K F (.tup xs) x) (rx : RelV x v) (ry : RelV (.int k) u) (h1 : k < 2 ^ 62) (h2 : xs.length * k.toNat ≤ LIM) (h3 : -(2 ^ 62) < k)
    (q : ∀ v F' H', NewR X.K F H F' H' (.val (.tup (rep xs k.toNat))) v → Q v H') : wpAny (model X.prog X.w) X.A (binaryOp .Mult v u) (EP X pins σ Q) X.xe s := by
  obtain ⟨l, vs, rfl, hT, hr⟩ := hx.tup_inv
  cases rx
  obtain ⟨t, rfl⟩ := ry
  obtain ⟨its, r, ⟨⟨cls, dd, data, sl⟩, ho, hc, n, hd⟩, hs⟩ := I.tuple (sameT hF hT)
  simp only at hc hd
  subst hc hd
  have hle : its.length = vs.length := r.length.symm
  have hlx : vs.length = xs.length := hr.len
  have c0 : (decide (k < -(2 ^ 63)) || decide (k ≥ 2 ^ 63)) = false := by
    rw [decide_eq_false (by omega), decide_eq_false (by omega)] <;> rfl
  by_cases c1 : (its.toArray.isEmpty || k == 1) = true
  · have e : rep xs k.toNat = xs := by
      rw [Bool.or_eq_true] at c1
      rcases c1 with c | c
      · have z : its.length = 0 := by simpa using c
        have : xs = [] := List.eq_nil_of_length_eq_zero (by omega)
        rw [this, rep_nil]
      · have z : k = 1 := by simpa using c
        subst z
        show rep xs 1 = xs
        rw [rep, rep, List.append_nil]
    rw [e] at q
    refine wpAny_binaryOp_repeat_ref (T := "tuple") (U := "int") (by decide) ⟨_, ho, rfl⟩ (fun s' => typeIs_int s' k t) noFill_tuple_mul PySem.F.fills_int_mul PySem.F.slot_int_rmul repeat_tuple PySem.F.slot_int_index.lookup
      (call_meets PySem.F.slot_int_rmul (typeIs_int s k t) PySem.F.entry_int_rmul (PySem.F.args_int_rmul_2 _ _) (int_rmul_tuple k t l its.toArray n dd sl)
        ⟨ho, rfl, ⟨_, ho, rfl⟩, call_meets PySem.F.slot_tuple_mul ⟨_, ho, rfl⟩ PySem.F.entry_tuple_mul (PySem.F.args_tuple_mul_2 _ _) (tuple_mul1 l its.toArray n dd sl k t c0 c1) ⟨ho, ?_⟩⟩)
    exact ⟨.ref l, H, I, rfl, q _ F H (.same hx)⟩
  · have c1' : (its.toArray.isEmpty || k == 1) = false := by simpa using c1
    by_cases c2 : (decide (k ≤ 0) || its.toArray.isEmpty) = true
    · refine wpAny_binaryOp_repeat_ref (T := "tuple") (U := "int") (by decide) ⟨_, ho, rfl⟩ (fun s' => typeIs_int s' k t) noFill_tuple_mul PySem.F.fills_int_mul PySem.F.slot_int_rmul repeat_tuple PySem.F.slot_int_index.lookup
        (call_meets PySem.F.slot_int_rmul (typeIs_int s k t) PySem.F.entry_int_rmul (PySem.F.args_int_rmul_2 _ _) (int_rmul_tuple k t l its.toArray n dd sl)
          ⟨ho, rfl, ⟨_, ho, rfl⟩, call_meets PySem.F.slot_tuple_mul ⟨_, ho, rfl⟩ PySem.F.entry_tuple_mul (PySem.F.args_tuple_mul_2 _ _) (tuple_mul0 l its.toArray n dd sl k t c0 c1' c2) ⟨ho, ?_⟩⟩)
      have hk : k.toNat = 0 := by
        simp only [Bool.or_eq_false_iff] at c1'
        rw [c1'.1, Bool.or_false, decide_eq_true_eq] at c2
        omega
      have hf : H s.heap.objs.size = none := I.hok.fresh (Nat.le_refl _)
      rw [hk] at q
      refine ⟨.ref s.heap.objs.size, _, I.laid (t' := s.toks) (o := .tup []) (fun b ob z => Heap.get?_push_of_some _ z) (Nat.le_refl _) ?_, rfl, q _ _ _ (.tup (vs := []) hf RpL.nil)⟩
      exact ⟨Nat.zero_le _, [], .nil, IsTup.new _ _⟩
    · have c2' : (decide (k ≤ 0) || its.toArray.isEmpty) = false := by simpa using c2
      have hsz : its.toArray.size = xs.length := by rw [List.size_toArray, hle, hlx]
      have hk0 : 0 < k := by
        simp only [Bool.or_eq_false_iff, decide_eq_false_iff_not] at c2'
        omega
      have hkn : (k.toNat : Int) = k := Int.toNat_of_nonneg (by omega)
      have hm : ((its.toArray.size : Nat) : Int) * k = ((its.toArray.size * k.toNat : Nat) : Int) := by
        rw [Int.natCast_mul, hkn]
      have hL := LIM_eq
      have hS := sizeLine_eq
      have h2' : its.toArray.size * k.toNat ≤ sizeLine := by rw [hsz]; omega
      have c4 : Builtin.Tuple.tupleTooMany (((its.toArray.size : Nat) : Int) * k) = false := by
        unfold Builtin.Tuple.tupleTooMany
        rw [hm]
        exact decide_eq_false (by omega)
      have flen : (List.replicate k.toNat its).flatten.length ≤ sizeLine := by
        rw [PyProof.Rows.lm_len_rep_flat, Nat.mul_comm]
        rw [List.size_toArray] at h2'
        exact h2'
      refine wpAny_binaryOp_repeat_ref (T := "tuple") (U := "int") (by decide) ⟨_, ho, rfl⟩ (fun s' => typeIs_int s' k t) noFill_tuple_mul PySem.F.fills_int_mul PySem.F.slot_int_rmul repeat_tuple PySem.F.slot_int_index.lookup
        (call_meets PySem.F.slot_int_rmul (typeIs_int s k t) PySem.F.entry_int_rmul (PySem.F.args_int_rmul_2 _ _) (int_rmul_tuple k t l its.toArray n dd sl)
          ⟨ho, rfl, ⟨_, ho, rfl⟩, call_meets PySem.F.slot_tuple_mul ⟨_, ho, rfl⟩ PySem.F.entry_tuple_mul (PySem.F.args_tuple_mul_2 _ _) (tuple_mulW l its.toArray n dd sl k t c0 c1' c2' (by rw [hm]; omega) c4 (by rw [size_rep, List.size_toArray]; exact flen)) ⟨ho, ?_⟩⟩)
      rw [size_rep]
      have hf : H s.heap.objs.size = none := I.hok.fresh (Nat.le_refl _)
      refine ⟨.ref s.heap.objs.size, _, I.laid (t' := s.toks) (o := .tup (List.replicate k.toNat vs).flatten) (fun b ob z => Heap.get?_push_of_some _ z) (Nat.le_refl _) ?_, rfl, q _ _ _ (.tup hf (hr.rep k.toNat))⟩
      exact ⟨by rw [PyProof.Rows.lm_len_rep_flat] at flen ⊢; rw [← hle]; exact flen, _, r.rep k.toNat, IsTup.new _ _⟩
theorem lst_mul (I : Inv X pins σ H s) {xs : List D} {k : Int} (hx : Top X.K F H (.lst xs) x) (rx : RelV x v) (ry : RelV (.int k) u) (h1 : k < 2 ^ 62) (h2 : xs.length * k.toNat ≤ LIM) (h3 : -(2 ^ 62) < k)
    (q : ∀ v F' H', NewR X.K F H F' H' (.own (rep xs k.toNat)) v → Q v H') : wpAny (model X.prog X.w) X.A (binaryOp .Mult v u) (EP X pins σ Q) X.xe s := by
  obtain ⟨l, vs, rfl, hT, hr⟩ := hx
  cases rx
  obtain ⟨t, rfl⟩ := ry
  obtain ⟨its, r, ⟨⟨cls, dd, data, sl⟩, n, ho, hc, _, hd⟩, hs⟩ := I.list hT
  simp only at hc hd
  subst hc hd
  have hle : its.length = vs.length := r.length.symm
  have hlx : vs.length = xs.length := hr.len
  have hL := LIM_eq
  have hS := sizeLine_eq
  have hlen : its.toArray.size * k.toNat ≤ sizeLine := by rw [List.size_toArray, hle, hlx]; omega
  have hcap : ¬ its.toArray.size * k.toNat > (2 ^ 63 - 1) / 8 := by
    have : (sizeLine : Nat) ≤ (2 ^ 63 - 1) / 8 := by decide
    omega
  have hfit : ¬ (!Builtin.List.listFitsIndex k) = true := by
    rw [fitsIndex_both (by omega) (by omega)]
    exact Bool.false_ne_true
  have hlong : ¬ Builtin.List.listTooLong (its.toArray.size * k.toNat) = true := by
    rw [notLongL hlen]
    exact Bool.false_ne_true
  have hnew : List.foldl (fun x1 x2 => x1 ++ x2) #[] (List.replicate (if its.toArray.isEmpty = true then 0 else k.toNat) its.toArray) = (List.replicate k.toNat its).flatten.toArray := by
    rw [size_rep]
    cases its with
    | nil => simp
    | cons a r' => rw [if_neg (by simp)]
  refine wpAny_binaryOp_repeat_ref (T := "list") (U := "int") (by decide) ⟨_, ho, rfl⟩ (fun s' => typeIs_int s' k t) noFill_list_mul PySem.F.fills_int_mul PySem.F.slot_int_rmul repeat_list PySem.F.slot_int_index.lookup
    (call_meets PySem.F.slot_int_rmul (typeIs_int s k t) PySem.F.entry_int_rmul (PySem.F.args_int_rmul_2 _ _) (int_rmul_list k t l its.toArray n dd sl)
      ⟨ho, rfl, ⟨_, ho, rfl⟩, call_meets PySem.F.slot_list_mul ⟨_, ho, rfl⟩ PySem.F.entry_list_mul (PySem.F.args_list_mul_2 _ _) (list_mulW l its.toArray n dd sl k t hfit hcap hlong) ⟨ho, ?_⟩⟩)
  rw [hnew]
  have hz : (List.replicate k.toNat vs).flatten.length ≤ sizeLine := by
    rw [PyProof.Rows.lm_len_rep_flat, ← hle, Nat.mul_comm]
    rw [List.size_toArray] at hlen
    exact hlen
  exact ⟨.ref _, _, I.lnew (t' := s.toks) (r.rep k.toNat) hz, rfl, q _ _ _ (.lst I.fresh (hr.rep k.toNat))⟩
theorem lst_add (I : Inv X pins σ H s) {xs ys : List D} (hx : Top X.K F H (.lst xs) x) (hy : Top X.K F H (.lst ys) y) (rx : RelV x v) (ry : RelV y u) (h1 : xs.length + ys.length ≤ LIM)
    (q : ∀ v F' H', NewR X.K F H F' H' (.own (xs ++ ys)) v → Q v H') : wpAny (model X.prog X.w) X.A (binaryOp .Add v u) (EP X pins σ Q) X.xe s := by
  obtain ⟨l, vs, rfl, hT, hr⟩ := hx
  obtain ⟨b, us, rfl, hT2, hr2⟩ := hy
  cases rx
  cases ry
  obtain ⟨its, r, ⟨⟨cls, dd, data, sl⟩, n, ho, hc, _, hd⟩, hs⟩ := I.list hT
  obtain ⟨its2, r2, ⟨⟨cls2, dd2, data2, sl2⟩, n2, ho2, hc2, _, hd2⟩, hs2⟩ := I.list hT2
  simp only at hc hd hc2 hd2
  subst hc hd hc2 hd2
  have l1 := r.length
  have l2 := r2.length
  have l3 := hr.len
  have l4 := hr2.len
  have hL := LIM_eq
  have e : its.toArray ++ its2.toArray = (its ++ its2).toArray := by simp
  refine concat_meets ⟨_, ho, rfl⟩ ⟨_, ho2, rfl⟩ noFill_list_add seq_list_add PySem.F.slot_list_add PySem.F.entry_list_add (PySem.F.args_list_add_2 _ _) (PyProof.Rows.list_addW l b its.toArray its2.toArray n n2 dd dd2 sl sl2 (by rw [List.size_toArray, List.size_toArray]; omega)) ⟨ho, ho2, ?_⟩
  rw [e]
  exact ⟨.ref _, _, I.lnew (t' := s.toks) (r.append r2) (by rw [List.length_append]; omega), rfl, q _ _ _ (.lst I.fresh (hr.append hr2))⟩
theorem tup_add (I : Inv X pins σ H s) (hF : Same F H) {xs ys : List D} (hx : Rp X.K F (.tup xs) x) (hy : Rp X.K F (.tup ys) y) (rx : RelV x v) (ry : RelV y u) (h1 : xs.length + ys.length ≤ LIM)
    (q : ∀ v F' H', NewR X.K F H F' H' (.val (.tup (xs ++ ys))) v → Q v H') : wpAny (model X.prog X.w) X.A (binaryOp .Add v u) (EP X pins σ Q) X.xe s := by
  obtain ⟨l, vs, rfl, hT, hr⟩ := hx.tup_inv
  obtain ⟨b, us, rfl, hT2, hr2⟩ := hy.tup_inv
  have l3 := hr.len
  have l4 := hr2.len
  have hL := LIM_eq
  refine op_catA pins s σ H _ _ v u Q I rx ry ⟨l, b, vs, us, rfl, rfl, sameT hF hT, sameT hF hT2, by omega, fun z => ?_, fun z1 z2 => ?_, fun z1 z2 p hp => ?_⟩
  · subst z
    have e : xs = [] := List.eq_nil_of_length_eq_zero (by rw [← l3]; rfl)
    subst e
    exact q _ F H (.same hy)
  · subst z2
    have e : ys = [] := List.eq_nil_of_length_eq_zero (by rw [← l4]; rfl)
    subst e
    rw [List.append_nil] at q
    exact q _ F H (.same hx)
  · exact q _ _ _ (.tup hp (hr.append hr2))
def binOf : Bop → Operator
  | .add => .Add | .sub => .Sub | .mul => .Mult | .fdiv => .FloorDiv | .mod => .Mod | .pow => .Pow
/-- every operator -/
theorem opD_bin (op : Bop) : OpR X (binaryOp (binOf op)) (rD X.K (binop op)) := by
  intro pins s σ H x y v u Q I rx ry h
  obtain ⟨F, dx, dy, r, hF, hx, hy, e, q⟩ := h
  cases op with
  | add =>
    cases dx <;> cases dy <;> simp only [binop] at e <;> try (cases e)
    · rename_i i j
      exact op_add pins s σ H x y v u Q I rx ry ⟨i, j, int_of hx, int_of hy, q _ F H (.same .int)⟩
    · rename_i i j
      split at e
      · rename_i hc
        cases e
        exact op_add_str pins s σ H x y v u Q I rx ry ⟨i, j, str_of hx, str_of hy, by have := LIM_eq; omega, q _ F H (.same .str)⟩
      · cases e
    · rename_i xs ys
      split at e
      · rename_i hc
        cases e
        exact tup_add I hF hx hy rx ry hc q
      · cases e
    · rename_i xs ys
      split at e
      · rename_i hc
        cases e
        exact lst_add I hx hy rx ry hc q
      · cases e
  | sub =>
    cases dx <;> cases dy <;> simp only [binop] at e <;> cases e
    rename_i i j
    exact op_sub pins s σ H x y v u Q I rx ry ⟨i, j, int_of hx, int_of hy, q _ F H (.same .int)⟩
  | mul =>
    cases dx <;> cases dy <;> simp only [binop] at e <;> try (cases e)
    · rename_i i j
      split at e
      · rename_i hc
        cases e
        exact op_mul pins s σ H x y v u Q I rx ry ⟨i, j, int_of hx, int_of hy, mulOk_ok hc, q _ F H (.same .int)⟩
      · cases e
    · rename_i xs k
      split at e
      · rename_i hc
        cases e
        have ey := int_of hy
        subst ey
        exact tup_mul I hF hx rx ry hc.1 hc.2.1 hc.2.2 q
      · cases e
    · rename_i xs k
      split at e
      · rename_i hc
        cases e
        have ey := int_of hy
        subst ey
        exact lst_mul I hx rx ry hc.1 hc.2.1 hc.2.2 q
      · cases e
  | fdiv =>
    cases dx <;> cases dy <;> simp only [binop] at e <;> try (cases e)
    rename_i i j
    split at e
    · rename_i hc
      cases e
      exact op_fdivN pins s σ H x y v u Q I rx ry ⟨i, j, int_of hx, int_of hy, hc, q _ F H (.same .int)⟩
    · cases e
  | mod =>
    cases dx <;> cases dy <;> simp only [binop] at e <;> try (cases e)
    rename_i i j
    split at e
    · rename_i hc
      cases e
      exact op_modN pins s σ H x y v u Q I rx ry ⟨i, j, int_of hx, int_of hy, hc, q _ F H (.same .int)⟩
    · cases e
  | pow =>
    cases dx <;> cases dy <;> simp only [binop] at e <;> try (cases e)
    rename_i i j
    split at e
    · rename_i hc
      cases e
      exact op_pow pins s σ H x y v u Q I rx ry ⟨i, j, int_of hx, int_of hy, hc, q _ F H (.same .int)⟩
    · cases e
end
end DL

end
section
set_option maxRecDepth 100000
set_option maxHeartbeats 1000000
/-! DL, part 5: built-ins by call. -/
namespace DL
open PySem PySem.Spec PyProof.Rows L2
/-- arguments that may be read in H -/
inductive TopL (K : PySem.W.Frag) (F H : Hp) : List D → List V → Prop
  | nil : TopL K F H [] []
  | cons {d : D} {v : V} {ds : List D} {vs : List V} : Top K F H d v → TopL K F H ds vs → TopL K F H (d :: ds) (v :: vs)
/-- a built-in's call, as the interpreter has it -/
def callD (K : PySem.W.Frag) (f : List D → Option Vl) : List V → Hp → VK → Prop := fun vs H Q => ∃ F ds r, Same F H ∧ TopL K F H ds vs ∧ f ds = some r ∧ ∀ v F' H', NewR K F H F' H' r v → Q v H'
theorem TopL.one {K : PySem.W.Frag} {F H : Hp} {d : D} {vs : List V} (h : TopL K F H [d] vs) : ∃ v, vs = [v] ∧ Top K F H d v := by
  cases h with
  | cons h1 h2 => cases h2; exact ⟨_, rfl, h1⟩
theorem TopL.two {K : PySem.W.Frag} {F H : Hp} {d e : D} {vs : List V} (h : TopL K F H [d, e] vs) : ∃ v u, vs = [v, u] ∧ Top K F H d v ∧ Top K F H e u := by
  cases h with
  | cons h1 h2 =>
    cases h2 with
    | cons h3 h4 => cases h4; exact ⟨_, _, rfl, h1, h3⟩
/-- a list or a tuple to be read -/
def Seq (K : PySem.W.Frag) (F H : Hp) (ds : List D) (x : V) : Prop := ∃ a vs, x = .ref a ∧ (SqL K H a vs ∨ SqT K H a vs) ∧ RpL K F ds vs
theorem seq_lst {K : PySem.W.Frag} {F H : Hp} {ds : List D} {x : V} (h : Top K F H (.lst ds) x) : Seq K F H ds x := by
  obtain ⟨a, vs, e, q, r⟩ := h
  exact ⟨a, vs, e, .inl q, r⟩
theorem seq_tup {K : PySem.W.Frag} {F H : Hp} {ds : List D} {x : V} (hF : Same F H) (h : Top K F H (.tup ds) x) : Seq K F H ds x := by
  obtain ⟨a, vs, e, q, r⟩ := Rp.tup_inv (K := K) (F := F) h
  exact ⟨a, vs, e, .inr (sameT hF q), r⟩
theorem ints_rp {K : PySem.W.Frag} {F : Hp} : ∀ {ds : List D} {ns : List Int} {vs : List V}, intsOf ds = some ns → RpL K F ds vs → vs = ns.map V.int
  | [], ns, vs, e, h => by
    rw [h.nil_inv]
    cases e
    rfl
  | d :: ds, ns, vs, e, h => by
    obtain ⟨v, r, rfl, h1, h2⟩ := h.cons_inv
    cases d with
    | int i =>
      obtain ⟨ms, e1, rfl⟩ := Option.map_eq_some_iff.mp (show (intsOf ds).map (i :: ·) = some ns from e)
      rw [h1.int_inv, ints_rp e1 h2]
      rfl
    | _ => cases e
/-- the truth of ints and bools -/
def scalT : V → Option Bool
  | .bl b => some b
  | .int i => some (i != 0)
  | _ => none
theorem bls_rp {K : PySem.W.Frag} {F : Hp} : ∀ {ds : List D} {bs : List Bool} {vs : List V}, blsOf ds = some bs → RpL K F ds vs → vs.map scalT = bs.map some
  | [], ns, vs, e, h => by
    rw [h.nil_inv]
    cases e
    rfl
  | d :: ds, bs, vs, e, h => by
    obtain ⟨v, r, rfl, h1, h2⟩ := h.cons_inv
    cases d with
    | int i =>
      obtain ⟨ms, e1, rfl⟩ := Option.map_eq_some_iff.mp (show (blsOf ds).map ((i != 0) :: ·) = some bs from e)
      rw [h1.int_inv, List.map_cons, bls_rp e1 h2]
      rfl
    | bl b =>
      obtain ⟨ms, e1, rfl⟩ := Option.map_eq_some_iff.mp (show (blsOf ds).map (b :: ·) = some bs from e)
      rw [h1.bl_inv, List.map_cons, bls_rp e1 h2]
      rfl
    | _ => cases e
section
variable {X : Cx} {pins : List (Addr × Obj)} {s : Shared} {σ : L2.St} {F H : Hp} {Q : VK}
/-- iter(x) of a list or a tuple -/
theorem iter_seq {a : Addr} {vs : List V} (I : Inv X pins σ H s) (h : SqL X.K H a vs ∨ SqT X.K H a vs) : ∃ its : List Value, Vals vs its ∧ ∀ (A : Around) (Q : Value → Shared → Prop) (E : Value → Shared → Prop), A.handled = none →
    (∀ (It : Addr) (fp wr : List Addr) (St : Nat → Heap → Prop) (s₂ : Shared) (o : Obj), s₂ = { s with heap := s.heap.push o } → Walks X.prog X.w A It fp wr its.length (fun i v => its[i]? = some v) St → St 0 s₂.heap → (∀ b ∈ fp, b < s₂.heap.objs.size) →
      (∀ b o, s.heap.get? b = some o → b ∉ wr) → Q (.ref It) s₂) → wpAny (model X.prog X.w) A (pyIter (.ref a)) Q E s := by
  have key : ∀ {n : Nat} {N It : Nat}, n = N → It < N + 1 → It = N → True := fun _ _ _ => trivial
  rcases h with h | h
  · obtain ⟨its, rv, p, _⟩ := I.list h
    refine ⟨its, rv, fun A Q E hh k => wpAny_pyIter_list p.isList ?_⟩
    have hlt : a < s.heap.objs.size := p.lt
    have W := Walks.list (prog := X.prog) (w := X.w) (A := A) hh s.heap.objs.size a (Nat.ne_of_lt hlt) its.toArray
    simp only [List.size_toArray, List.getElem?_toArray] at W
    refine k s.heap.objs.size _ _ _ _ _ rfl W ⟨⟨_, Heap.get?_push_size _ rfl, rfl, rfl⟩, p.isList.push _⟩ (fun b hb => ?_) fun b o e hm => ?_
    · rw [show ({ s with heap := s.heap.push { cls := .type "list_iterator", data := .fields #[.ref a, .int 0 0] } } : Shared).heap.objs.size = s.heap.objs.size + 1 from Heap.size_push ..]
      simp only [List.mem_cons, List.not_mem_nil, or_false] at hb
      rcases hb with rfl | rfl
      · exact Nat.lt_succ_self _
      · exact Nat.lt_succ_of_lt hlt
    · simp only [List.mem_cons, List.not_mem_nil, or_false] at hm
      subst hm
      exact absurd (Heap.lt_size e) (Nat.lt_irrefl _)
  · obtain ⟨its, rv, p, _⟩ := I.tuple h
    refine ⟨its, rv, fun A Q E hh k => wpAny_pyIter_tuple (show s.heap.IsTuple a its.toArray from p) ?_⟩
    have hlt : a < s.heap.objs.size := p.lt
    have W := Walks.tuple (prog := X.prog) (w := X.w) (A := A) hh s.heap.objs.size a (Nat.ne_of_lt hlt) its.toArray
    simp only [List.size_toArray, List.getElem?_toArray] at W
    have p2 : s.heap.IsTuple a its.toArray := p
    refine k s.heap.objs.size _ _ _ _ _ rfl W ⟨⟨_, Heap.get?_push_size _ rfl, rfl, rfl⟩, p2.push _⟩ (fun b hb => ?_) fun b o e hm => ?_
    · rw [show ({ s with heap := s.heap.push { cls := .type "tuple_iterator", data := .fields #[.ref a, .int 0 0] } } : Shared).heap.objs.size = s.heap.objs.size + 1 from Heap.size_push ..]
      simp only [List.mem_cons, List.not_mem_nil, or_false] at hb
      rcases hb with rfl | rfl
      · exact Nat.lt_succ_self _
      · exact Nat.lt_succ_of_lt hlt
    · simp only [List.mem_cons, List.not_mem_nil, or_false] at hm
      subst hm
      exact absurd (Heap.lt_size e) (Nat.lt_irrefl _)
theorem preSum_list (ns : List Int) : ∀ j, j ≤ ns.length → preSum (fun i => ns.getD i 0) j = (ns.take j).sum
  | 0, _ => by simp [preSum]
  | j + 1, h => by
    have hj : j < ns.length := h
    rw [preSum, preSum_list ns j (by omega), List.take_add_one, List.getElem?_eq_getElem hj, Option.toList_some, List.sum_append, List.getD_eq_getElem?_getD, List.getElem?_eq_getElem hj]
    simp
/-- sum(x) of ints -/
theorem sum_seq {ds : List D} {ns : List Int} {x : V} {us : List Value} (hc : X.calm = true) (I : Inv X pins σ H s) (r : Vals [x] us) (h : Seq X.K F H ds x) (e : intsOf ds = some ns) (q : Q (.int ns.sum) H) :
    wpAny (model X.prog X.w) X.A (call (.builtin "sum") us) (EP X pins σ Q) X.xe s := by
  obtain ⟨a, vs, rfl, hs, hr⟩ := h
  have ev := ints_rp e hr
  subst ev
  rw [Vals.ref1 r]
  obtain ⟨its, rv, go⟩ := iter_seq I hs
  have hi := rv.ints
  refine call_sum_walkG (go X.A.in1 _ _ (I.ok.hd hc) fun It fp wr St s₂ o e2 W st hfp hwr => ?_)
  subst e2
  refine ⟨It, fp, wr, _, _, St, fun i => ns.getD i 0, rfl, W, st, hfp, fun i v hv => ?_, fun h' tk t' hk => ?_⟩
  · obtain ⟨y, hy⟩ : ∃ y, ns[i]? = some y := by
      have hl := rv.length
      have h1 : i < its.length := (List.getElem?_eq_some_iff.mp hv).1
      rw [List.length_map] at hl
      exact ⟨ns[i]'(by omega), List.getElem?_eq_getElem _⟩
    obtain ⟨u, hu, ru⟩ := rv.get (i := i) (x := .int y) (by rw [List.getElem?_map, hy]; rfl)
    rw [hv] at hu
    cases hu
    obtain ⟨t, rfl⟩ := ru
    exact ⟨t, by show Value.int y t = Value.int (ns.getD i 0) t; rw [List.getD_eq_getElem?_getD, hy]; rfl⟩
  · have hl := rv.length
    rw [List.length_map] at hl
    refine ⟨.int ns.sum, H, I.kept fun b o eo => hk b o (hwr b o eo) (Heap.get?_push_of_some _ eo), ?_, q⟩
    rw [← hl, preSum_list ns _ (Nat.le_refl _), List.take_length]
    exact ⟨_, rfl⟩
theorem truth_scals {A : Around} {vs : List V} {bs : List Bool} {its : List Value} (rv : Vals vs its) (e : vs.map scalT = bs.map some) : TruthOf X.prog X.w A (fun i v => its[i]? = some v) (fun i => bs.getD i false) := fun i v s Q E hv hq => by
  have hl := rv.length
  have hi : i < vs.length := by have := (List.getElem?_eq_some_iff.mp hv).1; omega
  obtain ⟨u, hu, ru⟩ := rv.get (List.getElem?_eq_getElem hi)
  rw [hv] at hu
  cases hu
  have e2 : (vs.map scalT)[i]? = (bs.map some)[i]? := by rw [e]
  rw [List.getElem?_map, List.getElem?_map, List.getElem?_eq_getElem hi] at e2
  obtain ⟨b, hb⟩ : ∃ b, bs[i]? = some b := by
    cases q : bs[i]? with
    | none => rw [q] at e2; cases e2
    | some b => exact ⟨b, rfl⟩
  rw [hb] at e2
  have e3 : scalT vs[i] = some b := Option.some.inj e2
  have hg : bs.getD i false = b := by rw [List.getD_eq_getElem?_getD, hb] <;> rfl
  have hq' : Q (bs.getD i false) s := hq
  rw [hg] at hq'
  generalize vs[i] = z at e3 ru
  cases z with
  | bl c =>
    cases e3
    cases ru
    exact wpAny_truthy_bool hq'
  | int n =>
    cases e3
    obtain ⟨t, rfl⟩ := ru
    exact PyProof.Rows.truthy_int hq'
  | _ => cases e3
theorem any_seq {ds : List D} {bs : List Bool} {x : V} {us : List Value} (hc : X.calm = true) (I : Inv X pins σ H s) (r : Vals [x] us) (h : Seq X.K F H ds x) (e : blsOf ds = some bs) (q : Q (.bl (bs.any id)) H) :
    wpAny (model X.prog X.w) X.A (call (.builtin "any") us) (EP X pins σ Q) X.xe s := by
  obtain ⟨a, vs, rfl, hs, hr⟩ := h
  have ev := bls_rp e hr
  rw [Vals.ref1 r]
  obtain ⟨its, rv, go⟩ := iter_seq I hs
  refine call_any_walk (go X.A.in1 _ _ (I.ok.hd hc) fun It fp wr St s₂ o e2 W st hfp hwr => ?_)
  subst e2
  refine ⟨It, fp, wr, _, _, St, fun i => bs.getD i false, rfl, W, st, truth_scals rv ev, fun h' tk hk => ?_⟩
  refine ⟨.bl (bs.any id), H, I.kept fun b o eo => hk b o (hwr b o eo) (Heap.get?_push_of_some _ eo), ?_, q⟩
  have hl := rv.length
  have hl2 : vs.length = bs.length := by simpa using congrArg List.length ev
  rw [← hl, hl2, L2.any_range]
  rfl
theorem all_seq {ds : List D} {bs : List Bool} {x : V} {us : List Value} (hc : X.calm = true) (I : Inv X pins σ H s) (r : Vals [x] us) (h : Seq X.K F H ds x) (e : blsOf ds = some bs) (q : Q (.bl (bs.all id)) H) :
    wpAny (model X.prog X.w) X.A (call (.builtin "all") us) (EP X pins σ Q) X.xe s := by
  obtain ⟨a, vs, rfl, hs, hr⟩ := h
  have ev := bls_rp e hr
  rw [Vals.ref1 r]
  obtain ⟨its, rv, go⟩ := iter_seq I hs
  refine call_all_walk (go X.A.in1 _ _ (I.ok.hd hc) fun It fp wr St s₂ o e2 W st hfp hwr => ?_)
  subst e2
  refine ⟨It, fp, wr, _, _, St, fun i => bs.getD i false, rfl, W, st, truth_scals rv ev, fun h' tk hk => ?_⟩
  refine ⟨.bl (bs.all id), H, I.kept fun b o eo => hk b o (hwr b o eo) (Heap.get?_push_of_some _ eo), ?_, q⟩
  have hl := rv.length
  have hl2 : vs.length = bs.length := by simpa using congrArg List.length ev
  rw [← hl, hl2, L2.all_range]
  rfl
end
/-! ### greatest, least, in order -/
theorem foldl_max_spec : ∀ (ns : List Int) (n : Int), (ns.foldl (fun a b => if a < b then b else a) n) ∈ n :: ns ∧ ∀ y ∈ n :: ns, y ≤ ns.foldl (fun a b => if a < b then b else a) n
  | [], n => by simp
  | m :: ns, n => by
    rw [List.foldl_cons]
    obtain ⟨h1, h2⟩ := foldl_max_spec ns (if n < m then m else n)
    refine ⟨?_, fun y hy => ?_⟩
    · rcases List.mem_cons.mp h1 with e | e
      · rw [e]; split <;> simp
      · simp [e]
    · have g := h2 (if n < m then m else n) List.mem_cons_self
      rcases List.mem_cons.mp hy with rfl | hy
      · generalize ns.foldl _ _ = M at g ⊢
        split at g <;> omega
      · rcases List.mem_cons.mp hy with rfl | hy
        · generalize ns.foldl _ _ = M at g ⊢
          split at g <;> omega
        · exact h2 y (List.mem_cons_of_mem _ hy)
theorem foldl_min_spec : ∀ (ns : List Int) (n : Int), (ns.foldl (fun a b => if b < a then b else a) n) ∈ n :: ns ∧ ∀ y ∈ n :: ns, ns.foldl (fun a b => if b < a then b else a) n ≤ y
  | [], n => by simp
  | m :: ns, n => by
    rw [List.foldl_cons]
    obtain ⟨h1, h2⟩ := foldl_min_spec ns (if m < n then m else n)
    refine ⟨?_, fun y hy => ?_⟩
    · rcases List.mem_cons.mp h1 with e | e
      · rw [e]; split <;> simp
      · simp [e]
    · have g := h2 (if m < n then m else n) List.mem_cons_self
      rcases List.mem_cons.mp hy with rfl | hy
      · generalize ns.foldl _ _ = M at g ⊢
        split at g <;> omega
      · rcases List.mem_cons.mp hy with rfl | hy
        · generalize ns.foldl _ _ = M at g ⊢
          split at g <;> omega
        · exact h2 y (List.mem_cons_of_mem _ hy)
theorem max_uniq {ns : List Int} {m n : Int} (h1 : m ∈ ns) (h2 : ∀ y ∈ ns, y ≤ m) (h3 : n ∈ ns) (h4 : ∀ y ∈ ns, y ≤ n) : m = n := Int.le_antisymm (h4 m h1) (h2 n h3)
theorem min_uniq {ns : List Int} {m n : Int} (h1 : m ∈ ns) (h2 : ∀ y ∈ ns, m ≤ y) (h3 : n ∈ ns) (h4 : ∀ y ∈ ns, n ≤ y) : m = n := Int.le_antisymm (h2 n h3) (h4 m h1)
section
variable {X : Cx} {pins : List (Addr × Obj)} {s : Shared} {σ : L2.St} {F H : Hp} {Q : VK}
/-- max(x) of ints -/
theorem max_seq {ds : List D} {n : Int} {ns : List Int} {x : V} {us : List Value} (hc : X.calm = true) (I : Inv X pins σ H s) (r : Vals [x] us) (h : Seq X.K F H ds x) (e : intsOf ds = some (n :: ns)) (q : Q (.int (ns.foldl (fun a b => if a < b then b else a) n)) H) :
    wpAny (model X.prog X.w) X.A (call (.builtin "max") us) (EP X pins σ Q) X.xe s := by
  obtain ⟨a, vs, rfl, hs, hr⟩ := h
  have ev := ints_rp e hr
  subst ev
  rw [Vals.ref1 r]
  obtain ⟨its, rv, go⟩ := iter_seq I hs
  have hi : IntsAre its (n :: ns) := rv.ints
  have hl : its.length = ns.length + 1 := by rw [← rv.length]; simp
  refine call_max_walk (go X.A.in1 _ _ (I.ok.hd hc) fun It fp wr St s₂ o e2 W st hfp hwr => ?_)
  subst e2
  refine ⟨It, fp, wr, _, _, St, fun i j => decide ((n :: ns).getD i 0 > (n :: ns).getD j 0), rfl, W, st, hfp, by omega, CmpOf.ints_gt (fun i => (n :: ns).getD i 0) (fun i v hv => PyProof.Rows.IntsAre.int_at hi i v hv), fun v h' tk hv hk => ?_⟩
  obtain ⟨g1, g2⟩ := argBest_gt (fun i => (n :: ns).getD i 0) (its.length - 1)
  obtain ⟨t, ht⟩ := PyProof.Rows.IntsAre.int_at hi _ v hv
  have hk1 : argBest (fun i j => decide ((n :: ns).getD i 0 > (n :: ns).getD j 0)) (its.length - 1) < (n :: ns).length := by
    rw [List.length_cons, ← hl]
    exact Nat.lt_of_le_of_lt g1 (by omega)
  generalize argBest (fun i j => decide ((n :: ns).getD i 0 > (n :: ns).getD j 0)) (its.length - 1) = k at *
  have hm : (n :: ns).getD k 0 ∈ n :: ns := by
    rw [List.getD_eq_getElem?_getD, List.getElem?_eq_getElem hk1]
    exact List.getElem_mem hk1
  have hle : ∀ y ∈ n :: ns, y ≤ (n :: ns).getD k 0 := fun y hy => by
    obtain ⟨j, hj, ej⟩ := List.mem_iff_getElem.mp hy
    have g3 := g2 j (by rw [List.length_cons] at hj; omega)
    have e3 : (n :: ns).getD j 0 = y := by rw [List.getD_eq_getElem?_getD, List.getElem?_eq_getElem hj]; exact ej
    simp only [e3] at g3
    exact g3
  obtain ⟨f1, f2⟩ := foldl_max_spec ns n
  have eq : (n :: ns).getD k 0 = ns.foldl (fun a b => if a < b then b else a) n := max_uniq hm hle f1 f2
  refine ⟨.int (ns.foldl (fun a b => if a < b then b else a) n), H, I.kept fun b o eo => hk b o (hwr b o eo) (Heap.get?_push_of_some _ eo), ⟨t, ?_⟩, q⟩
  rw [ht, eq]
/-- min(x) of ints -/
theorem min_seq {ds : List D} {n : Int} {ns : List Int} {x : V} {us : List Value} (hc : X.calm = true) (I : Inv X pins σ H s) (r : Vals [x] us) (h : Seq X.K F H ds x) (e : intsOf ds = some (n :: ns)) (q : Q (.int (ns.foldl (fun a b => if b < a then b else a) n)) H) :
    wpAny (model X.prog X.w) X.A (call (.builtin "min") us) (EP X pins σ Q) X.xe s := by
  obtain ⟨a, vs, rfl, hs, hr⟩ := h
  have ev := ints_rp e hr
  subst ev
  rw [Vals.ref1 r]
  obtain ⟨its, rv, go⟩ := iter_seq I hs
  have hi : IntsAre its (n :: ns) := rv.ints
  have hl : its.length = ns.length + 1 := by rw [← rv.length]; simp
  refine call_min_walk (go X.A.in1 _ _ (I.ok.hd hc) fun It fp wr St s₂ o e2 W st hfp hwr => ?_)
  subst e2
  refine ⟨It, fp, wr, _, _, St, fun i j => decide ((n :: ns).getD i 0 < (n :: ns).getD j 0), rfl, W, st, hfp, by omega, CmpOf.ints_lt (fun i => (n :: ns).getD i 0) (fun i v hv => PyProof.Rows.IntsAre.int_at hi i v hv), fun v h' tk hv hk => ?_⟩
  obtain ⟨g1, g2⟩ := argBest_lt (fun i => (n :: ns).getD i 0) (its.length - 1)
  obtain ⟨t, ht⟩ := PyProof.Rows.IntsAre.int_at hi _ v hv
  have hk1 : argBest (fun i j => decide ((n :: ns).getD i 0 < (n :: ns).getD j 0)) (its.length - 1) < (n :: ns).length := by
    rw [List.length_cons, ← hl]
    exact Nat.lt_of_le_of_lt g1 (by omega)
  generalize argBest (fun i j => decide ((n :: ns).getD i 0 < (n :: ns).getD j 0)) (its.length - 1) = k at *
  have hm : (n :: ns).getD k 0 ∈ n :: ns := by
    rw [List.getD_eq_getElem?_getD, List.getElem?_eq_getElem hk1]
    exact List.getElem_mem hk1
  have hle : ∀ y ∈ n :: ns, (n :: ns).getD k 0 ≤ y := fun y hy => by
    obtain ⟨j, hj, ej⟩ := List.mem_iff_getElem.mp hy
    have g3 := g2 j (by rw [List.length_cons] at hj; omega)
    have e3 : (n :: ns).getD j 0 = y := by rw [List.getD_eq_getElem?_getD, List.getElem?_eq_getElem hj]; exact ej
    simp only [e3] at g3
    exact g3
  obtain ⟨f1, f2⟩ := foldl_min_spec ns n
  have eq : (n :: ns).getD k 0 = ns.foldl (fun a b => if b < a then b else a) n := min_uniq hm hle f1 f2
  refine ⟨.int (ns.foldl (fun a b => if b < a then b else a) n), H, I.kept fun b o eo => hk b o (hwr b o eo) (Heap.get?_push_of_some _ eo), ⟨t, ?_⟩, q⟩
  rw [ht, eq]
end
theorem insI_perm (x : Int) : ∀ l : List Int, (insI x l).Perm (x :: l)
  | [] => .refl _
  | y :: r => by
    rw [insI]
    split
    · exact .refl _
    · exact ((insI_perm x r).cons y).trans (.swap x y r)
theorem sortI_perm : ∀ l : List Int, (sortI l).Perm l
  | [] => .refl _
  | x :: r => (insI_perm x _).trans ((sortI_perm r).cons x)
theorem insI_sorted (x : Int) : ∀ l : List Int, l.Pairwise (· ≤ ·) → (insI x l).Pairwise (· ≤ ·)
  | [], _ => by simp [insI]
  | y :: r, h => by
    rw [insI]
    obtain ⟨h1, h2⟩ := List.pairwise_cons.mp h
    split
    · rename_i c
      refine List.pairwise_cons.mpr ⟨fun z hz => ?_, h⟩
      rcases List.mem_cons.mp hz with rfl | hz
      · exact c
      · exact Int.le_trans c (h1 z hz)
    · rename_i c
      refine List.pairwise_cons.mpr ⟨fun z hz => ?_, insI_sorted x r h2⟩
      rcases List.mem_cons.mp ((insI_perm x r).mem_iff.mp hz) with rfl | hz
      · omega
      · exact h1 z hz
theorem sortI_sorted : ∀ l : List Int, (sortI l).Pairwise (· ≤ ·)
  | [] => .nil
  | x :: r => insI_sorted x _ (sortI_sorted r)
theorem sorted_unique {l m : List Int} (p : l.Perm m) (hl : l.Pairwise (· ≤ ·)) (hm : m.Pairwise (· ≤ ·)) : l = m :=
  p.eq_of_pairwise (fun a b _ _ h1 h2 => Int.le_antisymm h1 h2) hl hm
section
variable {X : Cx}
def biName : Bi → Str
  | .len => "len" | .int => "int" | .abs => "abs" | .min => "min" | .max => "max" | .sum => "sum" | .all => "all" | .any => "any" | .tuple => "tuple" | .list => "list" | .sorted => "sorted" | .str => "str"
def biVal : Bi → Value
  | .len => .builtin "len" | .int => .type "int" | .abs => .builtin "abs" | .min => .builtin "min" | .max => .builtin "max" | .sum => .builtin "sum" | .all => .builtin "all" | .any => .builtin "any" | .tuple => .type "tuple" | .list => .type "list" | .sorted => .builtin "sorted" | .str => .type "str"
theorem biop_inv1 {f : Bi} {ds : List D} {r : Vl} (h : biop f ds = some r) (hf : f ≠ .min) (hf2 : f ≠ .max) : ∃ d, ds = [d] := by
  cases ds with
  | nil => cases f <;> simp [biop] at h
  | cons d t =>
    cases t with
    | nil => exact ⟨d, rfl⟩
    | cons e t => cases f <;> first | exact absurd rfl hf | exact absurd rfl hf2 | (cases d <;> simp [biop] at h)
theorem callD_len : CallR X (.builtin "len") (callD X.K (biop .len)) := by
  intro pins s σ H vs us Q I rv h
  obtain ⟨F, ds, r, hF, ht, e, q⟩ := h
  obtain ⟨d, rfl⟩ := biop_inv1 e (by decide) (by decide)
  obtain ⟨v, rfl, hv⟩ := ht.one
  cases d <;> simp only [biop] at e <;> try (cases e)
  · rename_i z
    split at e
    · rename_i hc
      cases e
      exact call_len_str pins s σ H _ us Q I rv ⟨z, by rw [str_of hv], by have := LIM_eq; omega, q _ F H (.same .int)⟩
    · cases e
  · obtain ⟨a, xs, rfl, hs, hr⟩ := seq_tup hF hv
    refine call_len_seq pins s σ H _ us Q I rv ⟨a, xs, rfl, hs, ?_⟩
    rw [hr.len]
    exact q _ F H (.same .int)
  · obtain ⟨a, xs, rfl, hs, hr⟩ := seq_lst hv
    refine call_len_seq pins s σ H _ us Q I rv ⟨a, xs, rfl, hs, ?_⟩
    rw [hr.len]
    exact q _ F H (.same .int)
theorem callD_int : CallR X (.type "int") (callD X.K (biop .int)) := by
  intro pins s σ H vs us Q I rv h
  obtain ⟨F, ds, r, hF, ht, e, q⟩ := h
  obtain ⟨d, rfl⟩ := biop_inv1 e (by decide) (by decide)
  obtain ⟨v, rfl, hv⟩ := ht.one
  cases d <;> simp only [biop] at e <;> cases e
  · rename_i b
    exact call_int1 pins s σ H _ us Q I rv (.inr ⟨b, by rw [Rp.bl_inv (K := X.K) (F := F) hv], q _ F H (.same .int)⟩)
  · rename_i i
    exact call_int1 pins s σ H _ us Q I rv (.inl ⟨i, by rw [int_of hv], q _ F H (.same .int)⟩)
theorem callD_abs : CallR X (.builtin "abs") (callD X.K (biop .abs)) := by
  intro pins s σ H vs us Q I rv h
  obtain ⟨F, ds, r, hF, ht, e, q⟩ := h
  obtain ⟨d, rfl⟩ := biop_inv1 e (by decide) (by decide)
  obtain ⟨v, rfl, hv⟩ := ht.one
  cases d <;> simp only [biop] at e <;> cases e
  rename_i i
  exact call_abs pins s σ H _ us Q I rv ⟨i, by rw [int_of hv], q _ F H (.same .int)⟩
theorem callD_sum (hc : X.calm = true) : CallR X (.builtin "sum") (callD X.K (biop .sum)) := by
  intro pins s σ H vs us Q I rv h
  obtain ⟨F, ds, r, hF, ht, e, q⟩ := h
  obtain ⟨d, rfl⟩ := biop_inv1 e (by decide) (by decide)
  obtain ⟨v, rfl, hv⟩ := ht.one
  cases d <;> simp only [biop] at e <;> try (cases e)
  · split at e
    · rename_i xs ns hn
      cases e
      exact sum_seq hc I rv (seq_tup hF hv) hn (q _ F H (.same .int))
    · cases e
  · split at e
    · rename_i xs ns hn
      cases e
      exact sum_seq hc I rv (seq_lst hv) hn (q _ F H (.same .int))
    · cases e
theorem callD_any (hc : X.calm = true) : CallR X (.builtin "any") (callD X.K (biop .any)) := by
  intro pins s σ H vs us Q I rv h
  obtain ⟨F, ds, r, hF, ht, e, q⟩ := h
  obtain ⟨d, rfl⟩ := biop_inv1 e (by decide) (by decide)
  obtain ⟨v, rfl, hv⟩ := ht.one
  cases d <;> simp only [biop] at e <;> try (cases e)
  · split at e
    · rename_i xs ns hn
      cases e
      exact any_seq hc I rv (seq_tup hF hv) hn (q _ F H (.same .bl))
    · cases e
  · split at e
    · rename_i xs ns hn
      cases e
      exact any_seq hc I rv (seq_lst hv) hn (q _ F H (.same .bl))
    · cases e
theorem callD_all (hc : X.calm = true) : CallR X (.builtin "all") (callD X.K (biop .all)) := by
  intro pins s σ H vs us Q I rv h
  obtain ⟨F, ds, r, hF, ht, e, q⟩ := h
  obtain ⟨d, rfl⟩ := biop_inv1 e (by decide) (by decide)
  obtain ⟨v, rfl, hv⟩ := ht.one
  cases d <;> simp only [biop] at e <;> try (cases e)
  split at e
  · rename_i xs ns hn
    cases e
    exact all_seq hc I rv (seq_lst hv) hn (q _ F H (.same .bl))
  · cases e
theorem callD_tuple : CallR X (.type "tuple") (callD X.K (biop .tuple)) := by
  intro pins s σ H vs us Q I rv h
  obtain ⟨F, ds, r, hF, ht, e, q⟩ := h
  obtain ⟨d, rfl⟩ := biop_inv1 e (by decide) (by decide)
  obtain ⟨v, rfl, hv⟩ := ht.one
  cases d <;> simp only [biop] at e <;> cases e
  · obtain ⟨a, xs, rfl, hs, hr⟩ := Rp.tup_inv (K := X.K) (F := F) hv
    exact call_tuple_of pins s σ H _ us Q I rv ⟨a, xs, rfl, .inr ⟨sameT hF hs, q _ F H (.same hv)⟩⟩
  · obtain ⟨a, xs, rfl, hs, hr⟩ := hv
    exact call_tuple_of pins s σ H _ us Q I rv ⟨a, xs, rfl, .inl ⟨hs, fun l hl => q _ _ _ (.tup hl hr)⟩⟩
theorem callD_list : CallR X (.type "list") (callD X.K (biop .list)) := by
  intro pins s σ H vs us Q I rv h
  obtain ⟨F, ds, r, hF, ht, e, q⟩ := h
  obtain ⟨d, rfl⟩ := biop_inv1 e (by decide) (by decide)
  obtain ⟨v, rfl, hv⟩ := ht.one
  cases d <;> simp only [biop] at e <;> cases e
  · obtain ⟨a, xs, rfl, hs, hr⟩ := seq_tup hF hv
    exact call_list_of pins s σ H _ us Q I rv ⟨a, xs, rfl, hs, fun l hl => q _ _ _ (.lst hl hr)⟩
  · obtain ⟨a, xs, rfl, hs, hr⟩ := seq_lst hv
    exact call_list_of pins s σ H _ us Q I rv ⟨a, xs, rfl, hs, fun l hl => q _ _ _ (.lst hl hr)⟩
theorem RpL.ints {K : PySem.W.Frag} {F : Hp} : ∀ ns : List Int, RpL K F (ns.map D.int) (ns.map V.int)
  | [] => .nil
  | n :: ns => .cons .int (RpL.ints ns)
theorem callD_sorted : CallR X (.builtin "sorted") (callD X.K (biop .sorted)) := by
  intro pins s σ H vs us Q I rv h
  obtain ⟨F, ds, r, hF, ht, e, q⟩ := h
  obtain ⟨d, rfl⟩ := biop_inv1 e (by decide) (by decide)
  obtain ⟨v, rfl, hv⟩ := ht.one
  cases d <;> simp only [biop] at e <;> try (cases e)
  split at e
  · rename_i xs ns hn
    cases e
    obtain ⟨a, ws, rfl, hs, hr⟩ := hv
    have ev := ints_rp hn hr
    subst ev
    refine cr_sortedI pins s σ H _ us Q I rv ⟨a, ns, rfl, hs, fun ns' p hp hs' hl => ?_⟩
    have e2 : ns' = sortI ns := sorted_unique (hp.trans (sortI_perm ns).symm) hs' (sortI_sorted ns)
    subst e2
    exact q _ _ _ (.lst hl (.ints _))
  · cases e
theorem callD_max (hc : X.calm = true) : CallR X (.builtin "max") (callD X.K (biop .max)) := by
  intro pins s σ H vs us Q I rv h
  obtain ⟨F, ds, r, hF, ht, e, q⟩ := h
  cases ds with
  | nil => simp [biop] at e
  | cons d t =>
    cases t with
    | nil =>
      obtain ⟨v, rfl, hv⟩ := ht.one
      cases d <;> simp only [biop] at e <;> try (cases e)
      · split at e
        · rename_i xs n ns hn
          cases e
          exact max_seq hc I rv (seq_tup hF hv) hn (q _ F H (.same .int))
        · cases e
      · split at e
        · rename_i xs n ns hn
          cases e
          exact max_seq hc I rv (seq_lst hv) hn (q _ F H (.same .int))
        · cases e
    | cons d2 t =>
      cases t with
      | nil =>
        obtain ⟨v, u, rfl, hv, hu⟩ := ht.two
        cases d <;> cases d2 <;> simp only [biop] at e <;> cases e
        rename_i i j
        exact call_max2 hc pins s σ H _ us Q I rv ⟨i, j, by rw [int_of hv, int_of hu], q _ F H (.same .int)⟩
      | cons d3 t => cases d <;> cases d2 <;> simp [biop] at e
theorem callD_min (hc : X.calm = true) : CallR X (.builtin "min") (callD X.K (biop .min)) := by
  intro pins s σ H vs us Q I rv h
  obtain ⟨F, ds, r, hF, ht, e, q⟩ := h
  cases ds with
  | nil => simp [biop] at e
  | cons d t =>
    cases t with
    | nil =>
      obtain ⟨v, rfl, hv⟩ := ht.one
      cases d <;> simp only [biop] at e <;> try (cases e)
      · split at e
        · rename_i xs n ns hn
          cases e
          exact min_seq hc I rv (seq_tup hF hv) hn (q _ F H (.same .int))
        · cases e
      · split at e
        · rename_i xs n ns hn
          cases e
          exact min_seq hc I rv (seq_lst hv) hn (q _ F H (.same .int))
        · cases e
    | cons d2 t =>
      cases t with
      | nil =>
        obtain ⟨v, u, rfl, hv, hu⟩ := ht.two
        cases d <;> cases d2 <;> simp only [biop] at e <;> cases e
        rename_i i j
        exact call_min2 hc pins s σ H _ us Q I rv ⟨i, j, by rw [int_of hv, int_of hu], q _ F H (.same .int)⟩
      | cons d3 t => cases d <;> cases d2 <;> simp [biop] at e
/-- every built-in by call -/
theorem callD_bi (hc : X.calm = true) : ∀ f : Bi, CallR X (biVal f) (callD X.K (biop f))
  | .len => callD_len
  | .int => callD_int
  | .abs => callD_abs
  | .min => callD_min hc
  | .max => callD_max hc
  | .sum => callD_sum hc
  | .all => callD_all hc
  | .any => callD_any hc
  | .tuple => callD_tuple
  | .list => callD_list
  | .sorted => callD_sorted
  | .str => by
    intro pins s σ H vs us Q I rv h
    obtain ⟨F, ds, r, hF, ht, e, q⟩ := h
    obtain ⟨d, rfl⟩ := biop_inv1 e (by decide) (by decide)
    cases d <;> simp [biop] at e
end
end DL

end
section
set_option maxRecDepth 100000
set_option maxHeartbeats 4000000
/-! DL, part 5b: sorted(set(xs)) of a list of ints. -/
namespace DL
open PySem PySem.Spec PyProof.Rows L2
section
variable {P : Program} {w : World} {A : Around} {E : Value → Shared → Prop} {s : Shared}
theorem set_of_list {l : Addr} {items : Array Value} (ns : List Int) {Q : Value → Shared → Prop} (hh : A.handled = none) (hl : s.heap.IsList l items) (hit : IntsAre items.toList ns) (hb : ns.length + 1 < scanBound)
    (h : ∀ (h' : Heap) (tk c : Nat), SetR w h' s.heap.objs.size (fun j => decide (j ∈ ns)) c → c ≤ ns.length → (∀ b o, s.heap.get? b = some o → h'.get? b = some o) → Q (.ref s.heap.objs.size) { s with heap := h', toks := tk }) :
    wpAny (model P w) A (call (.type "set") [.ref l]) Q E s := by
  have gz : items.size = ns.length := by
    have q := IntsAre.length hit
    rw [Array.length_toList] at q
    exact q
  obtain ⟨c, tl, gm⟩ := F.called_set.mro
  have gd := F.called_set.made
  have gs := F.called_set.sub
  refine wpAny_call (codeAny_of_tree ?_)
  show wpAny _ _ (callAny (.type "set") _) _ _ _
  refine wpAny_pure ⟨Code.quiet_builtin _ (by decide +kernel), codeAny_builtin F.entry_type_call ?_⟩
  rw [Around.under_plain (weight_type_call_type "set" [.ref l] []) rfl]
  have h1 := F.called_set.notType
  have h2 := F.called_set.canCreate
  have gt := F.typeCall_set_1 (.ref l)
  repeat (any_goals (first | assumption | wp_step))

  refine codeAny_mono (code_set_led1 (.ref l) (E := E) (Q₁ := fun obj s₁ => obj = .ref s.heap.objs.size ∧ s₁ = { s with heap := s.heap.push ({ cls := .type "set", dict := none, data := .set #[] 0 (.fresh 0 0 (!(w).params.followText "set-order")) } : Obj) }) ⟨rfl, rfl⟩) fun r s₁ hr => ?_
  cases r with
  | error e => exact hr
  | ok fl =>
    cases fl with
    | ret obj =>
      obtain ⟨rfl, rfl⟩ := hr
      have hS : (s.heap.push ({ cls := .type "set", dict := none, data := .set #[] 0 (.fresh 0 0 (!(w).params.followText "set-order")) } : Obj)).get? s.heap.objs.size = some ({ cls := .type "set", dict := none, data := .set #[] 0 (.fresh 0 0 (!(w).params.followText "set-order")) } : Obj) := Heap.get?_push_size _ rfl
      have hT : Shared.TypeIs { s with heap := s.heap.push ({ cls := .type "set", dict := none, data := .set #[] 0 (.fresh 0 0 (!(w).params.followText "set-order")) } : Obj) } (.ref s.heap.objs.size) "set" := ⟨_, hS, rfl⟩
      have gl := F.called_set.init.lookup
      have gb := F.called_set.init.bind (.ref s.heap.objs.size)
      repeat (any_goals (first | assumption | wp_step))

      refine codeAny_mono (codeAny_call_builtin (R := wants (fun r s₂ => r = .none ∧ ∃ h' tk c, s₂ = { s with heap := h', toks := tk } ∧ SetR w h' s.heap.objs.size (fun j => decide (j ∈ ns)) c ∧ c ≤ ns.length ∧
          (∀ b o, s.heap.get? b = some o → h'.get? b = some o)) E) F.called_set.init.plain F.entry_set_init (check_set_init_1 hT ?_)) fun r₂ s₂ hr₂ => ?_
      · obtain ⟨ol, go, hcl, nl, hdl⟩ := hl
        obtain ⟨c1, c2, c3, c4⟩ := ol
        simp only at hcl hdl
        subst hcl; subst hdl
        have go' : (s.heap.push ({ cls := .type "set", dict := none, data := .set #[] 0 (.fresh 0 0 (!(w).params.followText "set-order")) } : Obj)).get? l = some { cls := .type "list", dict := c2, data := .seq items nl, slots := c4 } := Heap.get?_push_of_some _ go
        have gx := F.sub_list_set
        have gy := F.sub_list_frozenset
        have gn : (Value.type "list" == Value.type "dict") = false := by decide
        have gk : (s.heap.push ({ cls := .type "set", dict := none, data := .set #[] 0 (.fresh 0 0 (!(w).params.followText "set-order")) } : Obj)).IsList l items := ⟨_, go', rfl, nl, rfl⟩
        unfold Builtin.«set.__init__» noKeywords Builtin.Frozenset.updateFrom
        generalize hPI : pyIter = PI
        wp_walk
        subst hPI

        refine wpAny_pyIter_list gk ?_
        refine wpAny_bind (wpAny_runValue ?_)
        have gq : l < s.heap.objs.size := Heap.lt_size go
        have gh : A.in1.in1.in1.handled = none := by simp [hh]
        have hz1 : (s.heap.push ({ cls := .type "set", dict := none, data := .set #[] 0 (.fresh 0 0 (!(w).params.followText "set-order")) } : Obj)).objs.size = s.heap.objs.size + 1 := Heap.size_push ..
        have gnI : l ≠ (s.heap.push ({ cls := .type "set", dict := none, data := .set #[] 0 (.fresh 0 0 (!(w).params.followText "set-order")) } : Obj)).objs.size := by
          rw [Heap.size_push]; exact Nat.ne_of_lt (Nat.lt_succ_of_lt gq)
        have gS : s.heap.objs.size ∉ [(s.heap.push ({ cls := .type "set", dict := none, data := .set #[] 0 (.fresh 0 0 (!(w).params.followText "set-order")) } : Obj)).objs.size, l] := by
          rw [Heap.size_push]; simp only [List.mem_cons, List.mem_singleton, List.not_mem_nil, or_false, not_or]
          exact ⟨Nat.ne_of_lt (Nat.lt_succ_self _), Nat.ne_of_gt gq⟩
        have gv : ∀ (i : Nat) (v : Value), items[i]? = some v → ∃ k t, ns[i]? = some k ∧ v = .int k t := fun i v hv => by
          have hi : i < ns.length := by rw [← gz]; exact (Array.getElem?_eq_some_iff.mp hv).1
          obtain ⟨t, e⟩ := PyProof.Rows.IntsAre.int_at hit i v (by rw [Array.getElem?_toList]; exact hv)
          refine ⟨ns[i], t, List.getElem?_eq_getElem hi, ?_⟩
          rw [e, List.getD_eq_getElem?_getD, List.getElem?_eq_getElem hi] <;> rfl
        refine set_update_ints ((Walks.list gh _ l gnI items).toS) s.heap.objs.size
          gS ns gz hb gv (items.size - 0) 0 _ (by omega) (Nat.zero_le _)
          ⟨⟨_, Heap.get?_push_size _ rfl, rfl, rfl⟩, (gk.push _)⟩ ?hS0 ?hR
        case hS0 =>
          have gg : ((s.heap.push ({ cls := .type "set", dict := none, data := .set #[] 0 (.fresh 0 0 (!(w).params.followText "set-order")) } : Obj)).push { cls := .type "list_iterator", data := .fields #[.ref l, .int 0 0] }).get? s.heap.objs.size
              = some ({ cls := .type "set", dict := none, data := .set #[] 0 (.fresh 0 0 (!(w).params.followText "set-order")) } : Obj) := Heap.get?_push_of_some _ hS
          exact ⟨0, Nat.le_refl 0, setR_new_at gg⟩
        case hR =>
          intro s' c' hm gc' gT'
          obtain ⟨h', g2, d', tk', os'⟩ := s'
          have eg : g2 = s.gens := hm.gens
          have ed : d' = s.drawn := hm.drawn
          have eo : os' = s.os := hm.os
          subst eg; subst ed; subst eo
          show wpAny _ _ _ _ _ _
          refine wpAny_pure ?_
          show wpAny _ _ (ret Value.none) _ _ _
          rw [gz] at gc'
          refine wpAny_pure ⟨rfl, h', tk', c', rfl, gT', gc', fun b o e => ?_⟩
          have hb0 : b < s.heap.objs.size := Heap.lt_size e
          have hb1 : b ≠ s.heap.objs.size := Nat.ne_of_lt hb0
          have hb2 : b ≠ (s.heap.push ({ cls := .type "set", dict := none, data := .set #[] 0 (.fresh 0 0 (!(w).params.followText "set-order")) } : Obj)).objs.size := by
            rw [Heap.size_push]; exact Nat.ne_of_lt (Nat.lt_succ_of_lt hb0)
          exact hm.heap b o (by simp only [List.mem_cons, List.mem_singleton, List.not_mem_nil, or_false, not_or]; exact ⟨hb1, hb2⟩) (Heap.get?_push_of_some _ (Heap.get?_push_of_some _ e))

      · cases r₂ with
        | error e => exact hr₂
        | ok fl₂ =>
          cases fl₂ with
          | ret r =>
            obtain ⟨rfl, h', tk, c', rfl, gT', gc', hk'⟩ := hr₂
            repeat (any_goals (first | assumption | wp_step))
            exact h _ _ _ gT' gc' hk'
          | _ => exact hr₂.elim
    | _ => exact hr.elim

end
/-! ### the two calls -/
theorem insU_mem (x k : Int) : ∀ l : List Int, k ∈ insU x l ↔ k = x ∨ k ∈ l
  | [] => by simp [insU]
  | y :: r => by
    rw [insU]
    split
    · simp
    · split
      · rename_i c
        subst c
        simp
      · rw [List.mem_cons, insU_mem x k r, List.mem_cons]
        constructor <;> (rintro (c | c | c) <;> simp [c])
theorem setI_mem (k : Int) : ∀ l : List Int, k ∈ setI l ↔ k ∈ l
  | [] => .rfl
  | x :: r => by rw [setI, insU_mem, setI_mem k r, List.mem_cons]
theorem insU_lt (x : Int) : ∀ l : List Int, l.Pairwise (· < ·) → (insU x l).Pairwise (· < ·)
  | [], _ => by simp [insU]
  | y :: r, h => by
    obtain ⟨h1, h2⟩ := List.pairwise_cons.mp h
    rw [insU]
    split
    · rename_i c
      refine List.pairwise_cons.mpr ⟨fun z hz => ?_, h⟩
      rcases List.mem_cons.mp hz with rfl | hz
      · exact c
      · exact Int.lt_trans c (h1 z hz)
    · split
      · exact h
      · refine List.pairwise_cons.mpr ⟨fun z hz => ?_, insU_lt x r h2⟩
        rcases (insU_mem x z r).mp hz with rfl | hz
        · omega
        · exact h1 z hz
theorem setI_lt : ∀ l : List Int, (setI l).Pairwise (· < ·)
  | [] => .nil
  | x :: r => insU_lt x _ (setI_lt r)
/-- rising lists of the same members are one -/
theorem rising_one : ∀ {l m : List Int}, l.Pairwise (· < ·) → m.Pairwise (· < ·) → (∀ k, k ∈ l ↔ k ∈ m) → l = m
  | [], [], _, _, _ => rfl
  | [], y :: m, _, _, h => absurd ((h y).mpr List.mem_cons_self) (by simp)
  | x :: l, [], _, _, h => absurd ((h x).mp List.mem_cons_self) (by simp)
  | x :: l, y :: m, hl, hm, h => by
    obtain ⟨l1, l2⟩ := List.pairwise_cons.mp hl
    obtain ⟨m1, m2⟩ := List.pairwise_cons.mp hm
    have e : x = y := by
      rcases List.mem_cons.mp ((h x).mp List.mem_cons_self) with e | e
      · exact e
      · rcases List.mem_cons.mp ((h y).mpr List.mem_cons_self) with e2 | e2
        · exact e2.symm
        · have a := m1 x e
          have b := l1 y e2
          omega
    subst e
    rw [rising_one l2 m2 fun k => ?_]
    constructor <;> intro hk
    · rcases List.mem_cons.mp ((h k).mp (List.mem_cons_of_mem _ hk)) with e | e
      · subst e; exact absurd (l1 k hk) (Int.lt_irrefl _)
      · exact e
    · rcases List.mem_cons.mp ((h k).mpr (List.mem_cons_of_mem _ hk)) with e | e
      · subst e; exact absurd (m1 k hk) (Int.lt_irrefl _)
      · exact e
section
variable {X : Cx}
/-- set(xs), xs a list of fewer than 64 ints -/
def rSetOfL (K : PySem.W.Frag) (w : World) : List V → Hp → VK → Prop := fun xs H Q => ∃ (l : Addr) (ns : List Int), xs = [V.ref l] ∧ SqL K H l (ns.map V.int) ∧ ns.length < 64 ∧ ∀ p c, H p = none → c ≤ ns.length → Q (.ref p) (upd H p (SetO w p (fun j => decide (j ∈ ns)) c))
theorem cr_setL (hc : X.calm = true) : CallR X (.type "set") (rSetOfL X.K X.w) := by
  intro pins s σ H xs us Q I r h
  obtain ⟨l, ns, rfl, hs, h64, q⟩ := h
  obtain ⟨its, rv, hl, _⟩ := I.list hs
  rw [Vals.ref1 r]
  have hb : ns.length + 1 < scanBound := by unfold scanBound; omega
  refine set_of_list ns (I.ok.hd hc) hl.isList rv.ints hb fun h' tk c R hcn hk => ?_
  have hn : H s.heap.objs.size = none := I.hok.fresh (Nat.le_refl _)
  exact ⟨.ref _, upd H s.heap.objs.size (SetO X.w s.heap.objs.size (fun j => decide (j ∈ ns)) c), I.laid (t' := tk) hk (Nat.le_refl _) (setO_new R), rfl, q _ _ hn hcn⟩
end
end DL

end
section
set_option maxRecDepth 100000
set_option maxHeartbeats 1000000
/-! DL, part 6: subscripts, slices, isinstance, truth. -/
namespace DL
open PySem PySem.Spec PyProof.Rows L2
section
variable {X : Cx}
theorem atD_ix {xs : List D} {i : Int} {d : D} (h : atD xs i = some d) : ∃ j, ixN xs.length i = some j ∧ xs[j]? = some d := by
  unfold atD at h
  unfold ixN
  by_cases h0 : 0 ≤ i
  · rw [if_pos h0] at h ⊢
    have hj := (List.getElem?_eq_some_iff.mp h).1
    exact ⟨i.toNat, by rw [if_pos (by omega)], h⟩
  · rw [if_neg h0] at h ⊢
    by_cases h1 : -(xs.length : Int) ≤ i
    · rw [if_pos h1] at h ⊢
      exact ⟨_, rfl, h⟩
    · rw [if_neg h1] at h
      cases h
theorem atI_of {K : PySem.W.Frag} {F : Hp} {xs : List D} {vs : List V} {i : Int} {d : D} (hr : RpL K F xs vs) (h : atD xs i = some d) : ∃ v, atI vs i = some v ∧ Rp K F d v := by
  obtain ⟨j, h1, h2⟩ := atD_ix h
  obtain ⟨v, h3, h4⟩ := hr.get h2
  refine ⟨v, ?_, h4⟩
  unfold atI
  rw [hr.len, h1]
  exact h3
theorem ixD : IxR X (rD X.K fun x y => (ixop x y).map .val) := by
  intro value slice pins s σ H x y v u Q I rx ry h hs
  obtain ⟨F, dx, dy, r, hF, hx, hy, e, q⟩ := h
  obtain ⟨d, e1, rfl⟩ := Option.map_eq_some_iff.mp e
  cases dx with
  | tup xs =>
    cases dy with
    | int i =>
      obtain ⟨a, vs, rfl, hT, hr⟩ := Rp.tup_inv (K := X.K) (F := F) hx
      obtain ⟨z, hz, rz⟩ := atI_of hr (show atD xs i = some d from e1)
      exact ix_tup value slice pins s σ H _ y v u Q I rx ry ⟨a, vs, i, z, rfl, int_of hy, sameT hF hT, hz, q _ F H (.same rz)⟩ hs
    | _ => cases e1
  | lst xs =>
    cases dy with
    | int i =>
      obtain ⟨a, vs, rfl, hT, hr⟩ := hx
      obtain ⟨z, hz, rz⟩ := atI_of hr (show atD xs i = some d from e1)
      exact ix_list value slice pins s σ H _ y v u Q I rx ry ⟨a, vs, i, z, rfl, int_of hy, hT, hz, q _ F H (.same rz)⟩ hs
    | _ => cases e1
  | _ => cases e1
/-! ### slices -/
def partO : D → Option (Option Int)
  | .non => some none
  | .int i => some (some i)
  | _ => none
theorem part_sIx {n dflt : Nat} {d : D} {k : Nat} (h : part n dflt d = some k) : ∃ o, partO d = some o ∧ HT.sIx n dflt o = k := by
  cases d with
  | non => cases h; exact ⟨none, rfl, rfl⟩
  | int i =>
    cases h
    refine ⟨some i, rfl, ?_⟩
    show (if i < 0 then (i + (n : Int)).toNat else min i.toNat n) = if 0 ≤ i then Nat.min i.toNat n else (i + n).toNat
    by_cases h0 : i < 0
    · rw [if_pos h0, if_neg (by omega)]
    · rw [if_neg h0, if_pos (by omega)]
  | _ => cases h
/-- a slice, as the interpreter has it -/
def rSlD (K : PySem.W.Frag) : V → Option Int → Option Int → Hp → VK → Prop := fun x lo hi H Q => ∃ F dx dl dh r, Same F H ∧ Top K F H dx x ∧ partO dl = some lo ∧ partO dh = some hi ∧ sliceop dx dl dh = some r ∧ ∀ v F' H', NewR K F H F' H' r v → Q v H'
theorem slD : SlR X (rSlD X.K) := by
  intro pins s σ H x v vl vu lo hi sl Q I rx hs pl pu h
  obtain ⟨F, dx, dl, dh, r, hF, hx, hl, hh, e, q⟩ := h
  cases dx with
  | tup xs =>
    simp only [sliceop] at e
    split at e
    · rename_i a b ha hb
      cases e
      obtain ⟨l, vs, rfl, hT, hr⟩ := Rp.tup_inv (K := X.K) (F := F) hx
      obtain ⟨o1, g1, g2⟩ := part_sIx ha
      obtain ⟨o2, g3, g4⟩ := part_sIx hb
      rw [hl] at g1; cases g1
      rw [hh] at g3; cases g3
      have hlen := hr.len
      refine sl_tupA pins s σ H _ v vl vu lo hi sl Q I rx hs pl pu ⟨l, vs, rfl, sameT hF hT, fun hw => ?_, fun hw p hp => ?_⟩
      · rw [hlen, g2, g4] at hw
        have e2 : cut xs a b = xs := by
          unfold cut
          rw [hw.1, hw.2, List.drop_zero, Nat.sub_zero, List.take_length]
        rw [e2] at q
        exact q _ F H (.same hx)
      · have e3 : RpL X.K F (cut xs a b) (cutV vs lo hi) := by
          unfold cut cutV
          rw [hlen, g2, g4]
          exact (hr.drop a).take (b - a)
        exact q _ _ _ (.tup hp e3)
    · cases e
  | lst xs =>
    simp only [sliceop] at e
    split at e
    · rename_i a b ha hb
      cases e
      obtain ⟨l, vs, rfl, hT, hr⟩ := hx
      obtain ⟨o1, g1, g2⟩ := part_sIx ha
      obtain ⟨o2, g3, g4⟩ := part_sIx hb
      rw [hl] at g1; cases g1
      rw [hh] at g3; cases g3
      have hlen := hr.len
      refine sl_list pins s σ H _ v vl vu lo hi sl Q I rx hs pl pu ⟨l, vs, rfl, hT, fun p hp => ?_⟩
      have e3 : RpL X.K F (cut xs a b) (cutV vs lo hi) := by
        unfold cut cutV
        rw [hlen, g2, g4]
        exact (hr.drop a).take (b - a)
      exact q _ _ _ (.lst hp e3)
    · cases e
  | _ => cases e
/-! ### isinstance -/
def tyName : Ty → String
  | .int => "int" | .bool => "bool" | .str => "str" | .list => "list" | .tuple => "tuple"
def dTy : D → String
  | .non => "NoneType" | .bl _ => "bool" | .int _ => "int" | .str _ => "str" | .tup _ => "tuple" | .lst _ => "list"
theorem kit_isTy (d : D) (t : Ty) : kitB (dTy d) (tyName t) = some (isTy d t) := by
  cases d <;> cases t <;> first | decide +kernel | (simp only [dTy, tyName, isTy]; decide +kernel)
theorem tyX_of {K : PySem.W.Frag} {F H : Hp} {d : D} {v : V} (hF : Same F H) (h : Top K F H d v) : TyX K H v (.type (dTy d)) := by
  cases d with
  | non => rw [Rp.non_inv (K := K) (F := F) h]; exact .base .non
  | bl b => rw [Rp.bl_inv (K := K) (F := F) h]; exact .base (.bl b)
  | int i => rw [Rp.int_inv (K := K) (F := F) h]; exact .base (.int i)
  | str s => rw [Rp.str_inv (K := K) (F := F) h]; exact .base (.str s)
  | tup ds =>
    obtain ⟨a, vs, rfl, hT, _⟩ := Rp.tup_inv (K := K) (F := F) h
    rcases sameT hF hT with (e | ⟨o, e⟩) | ⟨o, its, n, e, c, _⟩
    · exact .base (.tup e)
    · exact .fTuple e
    · exact .kTuple e c
  | lst ds =>
    obtain ⟨a, vs, rfl, hT, _⟩ := h
    rcases hT with (e | ⟨o, e⟩) | ⟨o, its, n, e, c, _⟩
    · exact .base (.lst e)
    · exact .base (.frz e)
    · exact .kList e c
theorem kitAny_of {K : PySem.W.Frag} (d : D) : ∀ ts : List Ty, PySem.W.kitAny K (.type (dTy d)) (ts.map fun t => Value.type (tyName t)) = some (ts.any (isTy d))
  | [] => rfl
  | t :: ts => kitAny_cons (kit_ty (kit_isTy d t)) (fun e => by
      rw [List.any_cons, e, Bool.false_or]
      exact kitAny_of d ts) fun e => by rw [List.any_cons, e, Bool.true_or]
/-! ### truth -/
theorem truV_of {K : PySem.W.Frag} {F H : Hp} {d : D} {v : V} {k : Bool} (hF : Same F H) (h : Top K F H d v) (e : d.truth = some k) : TruV K v H k := by
  cases d with
  | non => cases e; rw [Rp.non_inv (K := K) (F := F) h]; exact rfl
  | bl b => cases e; rw [Rp.bl_inv (K := K) (F := F) h]; exact rfl
  | int i => cases e; rw [Rp.int_inv (K := K) (F := F) h]; exact rfl
  | str s => cases e
  | tup ds =>
    cases e
    obtain ⟨a, vs, rfl, hT, hr⟩ := Rp.tup_inv (K := K) (F := F) h
    have e1 : vs.isEmpty = ds.isEmpty := by
      have := hr.len
      cases vs <;> cases ds <;> simp_all
    exact .inr (.inl ⟨vs, sameT hF hT, by rw [e1]⟩)
  | lst ds =>
    cases e
    obtain ⟨a, vs, rfl, hT, hr⟩ := h
    have e1 : vs.isEmpty = ds.isEmpty := by
      have := hr.len
      cases vs <;> cases ds <;> simp_all
    exact .inl ⟨vs, hT, by rw [e1]⟩
end
end DL

end
section
set_option maxRecDepth 100000
set_option maxHeartbeats 1000000
/-! DL, part 7: what is walked: lists, tuples, ranges, enumerate and zip over both. -/
namespace DL
open PySem PySem.Spec PyProof.Rows L2
/-- a list (b false) or a tuple (b true) -/
def SqB (b : Bool) (K : PySem.W.Frag) (H : Hp) (a : Addr) (vs : List V) : Prop := if b then SqT K H a vs else SqL K H a vs
def ItB (b : Bool) (h : Heap) (it a : Addr) (i : Nat) : Prop := if b then h.IsTupleIter it a i else h.IsListIter it a i
def IsB (b : Bool) (h : Heap) (a : Addr) (its : Array Value) : Prop := if b then h.IsTuple a its else h.IsList a its
theorem ItB.at {b : Bool} {h h' : Heap} {it a : Addr} {i : Nat} (x : ItB b h it a i) (k : ∀ o, h.get? it = some o → h'.get? it = some o) : ItB b h' it a i := by
  cases b with
  | false => exact Heap.IsListIter.at x k
  | true => exact Heap.IsTupleIter.at x k
theorem ItB.obj {b : Bool} {h : Heap} {it a : Addr} {i : Nat} (x : ItB b h it a i) : ∃ o, h.get? it = some o ∧ ∀ v, o.data ≠ .cell v := by
  cases b with
  | false => obtain ⟨o, e, _, d⟩ := (show h.IsListIter it a i from x); exact ⟨o, e, fun v q => by rw [d] at q; cases q⟩
  | true => obtain ⟨o, e, _, d⟩ := (show h.IsTupleIter it a i from x); exact ⟨o, e, fun v q => by rw [d] at q; cases q⟩
section
variable {X : Cx} {pins : List (Addr × Obj)} {s : Shared} {σ : L2.St} {H : Hp}
theorem Inv.seqB {b : Bool} {a : Addr} {vs : List V} (I : Inv X pins σ H s) (h : SqB b X.K H a vs) : ∃ its : List Value, Vals vs its ∧ IsB b s.heap a its.toArray ∧ a < s.heap.objs.size := by
  cases b with
  | false => obtain ⟨its, rv, p, _⟩ := I.list (show SqL X.K H a vs from h); exact ⟨its, rv, p.isList, p.lt⟩
  | true => obtain ⟨its, rv, p, _⟩ := I.tuple (show SqT X.K H a vs from h); exact ⟨its, rv, p, p.lt⟩
theorem Inv.seqB_inj {b : Bool} {a : Addr} {vs us : List V} (I : Inv X pins σ H s) (h : SqB b X.K H a vs) (h' : SqB b X.K H a us) : vs = us := by
  cases b with
  | false => exact I.list_inj h h'
  | true => exact I.tuple_inj h h'
end
theorem drawsB (b : Bool) {prog : Program} {w : World} {A : Around} (hh : A.handled = none) (it a : Addr) (hne : a ≠ it) (items : Array Value) :
    Draws prog w A it [it, a] items.size (fun i v => items[i]? = some v) (fun i h => ItB b h it a i ∧ IsB b h a items) := by
  cases b with
  | false => exact Draws.list hh it a hne items
  | true => exact Draws.tuple hh it a hne items
def itObj (b : Bool) (a : Addr) : Obj := if b then { cls := .type "tuple_iterator", data := .fields #[.ref a, .int 0 0] } else { cls := .type "list_iterator", data := .fields #[.ref a, .int 0 0] }
theorem beginsB (b : Bool) (a : Addr) (items : Array Value) : Begins (.ref a) (itObj b a) (fun h => IsB b h a items) := by
  cases b with
  | false => exact begins_list a items
  | true => exact begins_tuple a items
theorem itB0 {b : Bool} {h : Heap} {it a : Addr} (e : h.get? it = some (itObj b a)) : ItB b h it a 0 := by
  cases b with
  | false => exact ⟨_, e, rfl, rfl⟩
  | true => exact ⟨_, e, rfl, rfl⟩
/-- enumerate -/
def IteB (b : Bool) (K : PySem.W.Frag) (a : Addr) : L2.It :=
  ⟨fun i H => ∃ (xs : List V) (x : V), SqB b K H a xs ∧ xs[i]? = some x, fun i H v H' => ∃ T x, v = .ref T ∧ H T = none ∧ H' = upd H T (.tup [.int (i : Nat), x]) ∧ ∀ xs, SqB b K H a xs → xs[i]? = some x, fun i H => ∃ xs : List V, SqB b K H a xs ∧ xs.length = i⟩
theorem turn_enumB (b : Bool) {P : Program} {w : World} {K : PySem.W.Frag} {elts : List Expr} {kk : Nat} {tpos : Pos} (a e it : Addr) :
    Turn P w K (.Tuple elts kk tpos) (IteB b K a) [e, it] e (fun i h => (∃ old, IsEnum h e it (0 + ((i : Nat) : Int)) old) ∧ ItB b h it a i ∧ e ≠ it ∧ a ≠ e ∧ a ≠ it) where
  mem := by simp
  obj := fun i h st b hb => by
    obtain ⟨⟨old, he⟩, hi, _⟩ := st
    have e' : b = e ∨ b = it := by simpa using hb
    rcases e' with z | z
    · rw [z]; exact ⟨_, he, fun v q => nomatch q⟩
    · rw [z]; exact hi.obj
  keep := fun i h h' st k => let ⟨⟨old, he⟩, hi, hne⟩ := st; ⟨⟨old, k e (by simp) _ he⟩, hi.at fun o q => k it (by simp) o q, hne⟩
  item := by
    intro X hP hw hK hc i pins s σ H E I hf st hg
    subst hP hw hK
    obtain ⟨⟨old, he⟩, hit, hne, hae, hai⟩ := st
    obtain ⟨xs, x, hq, hx⟩ := hg
    obtain ⟨its, rv, p, hlt⟩ := Inv.seqB I hq
    have D := drawsB b (prog := X.prog) (w := X.w) (A := X.A.in1) (I.ok.hd hc) it a hai its.toArray
    have W := GoesN.enumFrom (elts := elts) (x1 := kk) (pos := tpos) 0 D e hne (by simp; exact ⟨hne, fun z => hae z.symm⟩) (by simp)
    have hi : i < its.toArray.size := by
      have := rv.length
      have := (List.getElem?_eq_some_iff.mp hx).1
      rw [List.size_toArray]; omega
    refine W.goes i s (fun v s₂ => ∃ x H', Inv X pins σ H' s₂ ∧ RelV x v ∧ (IteB b X.K a).yld i H x H' ∧ _ ∧ ∀ b ∈ [e, it], H' b = none) E hi ⟨⟨old, he⟩, hit, p⟩ fun v h' tk hY st' hk htk => ?_
    obtain ⟨T, t, u, rfl, hT, hu, hTup⟩ := hY
    obtain ⟨u', hu', ru⟩ := rv.get hx
    have hu2 : its[i]? = some u := by simpa using hu
    rw [hu'] at hu2
    cases hu2
    have e0 : (0 : Int) + (i : Int) = (i : Int) := by omega
    have new : ObjOk X.prog X.w (upd H T (.tup [.int (i : Nat), x])) h' T (.tup [.int (i : Nat), x]) := by
      refine ⟨by show 2 ≤ sizeLine; decide, [.int (0 + (i : Int)) t, u], .cons ⟨t, by rw [e0]⟩ (.cons ru .nil), ?_⟩
      exact hTup
    have hTn : ∀ c ∈ [e, it], c ≠ T := fun c hcm z => by
      have e' : c = e ∨ c = it := by simpa using hcm
      have hlt' : c < s.heap.objs.size := by
        rcases e' with z | z
        · rw [z]; exact Heap.lt_size he
        · rw [z]; obtain ⟨o, ho, _⟩ := hit.obj; exact Heap.lt_size ho
      rw [z] at hlt'
      exact absurd (Nat.lt_of_lt_of_le hlt' hT) (Nat.lt_irrefl _)
    have I1 : Inv X pins σ (upd H T (.tup [.int (i : Nat), x])) { s with heap := h', toks := tk } :=
      I.turnedNew (ch := [e, it]) (fun c ob hb q => hk c ob hb q) hf hT new
    refine ⟨.ref T, _, I1, rfl, ⟨T, x, rfl, I.hok.fresh hT, rfl, fun ys hy => by rw [Inv.seqB_inj I hy hq]; exact hx⟩, ⟨st'.1, st'.2.1, hne, hae, hai⟩, fun c hcm => ?_⟩
    rw [upd_ne (hTn c hcm)]
    exact (hf c hcm).1
  done := by
    intro X hP hw hK hc i pins s σ H E I hf st hg
    subst hP hw hK
    obtain ⟨⟨old, he⟩, hit, hne, hae, hai⟩ := st
    obtain ⟨xs, hq, hx⟩ := hg
    obtain ⟨its, rv, p, hlt⟩ := Inv.seqB I hq
    have D := drawsB b (prog := X.prog) (w := X.w) (A := X.A.in1) (I.ok.hd hc) it a hai its.toArray
    have W := GoesN.enumFrom (elts := elts) (x1 := kk) (pos := tpos) 0 D e hne (by simp; exact ⟨hne, fun z => hae z.symm⟩) (by simp)
    have hi : i = its.toArray.size := by
      have := rv.length
      rw [List.size_toArray]; omega
    subst hi
    refine W.stops s (fun s₁ => Inv X pins σ H s₁) E ⟨⟨old, he⟩, hit, p⟩ fun h' tk hk htk => ?_
    exact I.turnedL (t' := tk) (ch := [e, it]) (fun c o hb q => hk c o hb q) hf
  self := fun A i s Q E st h => let ⟨⟨_, he⟩, _⟩ := st; wpAny_pyIter_enum he h
/-- zip -/
def ItzB (b1 b2 : Bool) (K : PySem.W.Frag) (a1 a2 : Addr) : L2.It :=
  ⟨fun i H => ∃ (xs ys : List V) (x y : V), SqB b1 K H a1 xs ∧ SqB b2 K H a2 ys ∧ xs[i]? = some x ∧ ys[i]? = some y,
    fun i H v H' => ∃ T x y, v = .ref T ∧ H T = none ∧ H' = upd H T (.tup [x, y]) ∧ (∀ xs, SqB b1 K H a1 xs → xs[i]? = some x) ∧ ∀ ys, SqB b2 K H a2 ys → ys[i]? = some y,
    fun i H => ∃ xs ys : List V, SqB b1 K H a1 xs ∧ SqB b2 K H a2 ys ∧ min xs.length ys.length = i⟩
theorem turn_zipB (b1 b2 : Bool) {P : Program} {w : World} {K : PySem.W.Frag} {elts : List Expr} {kk : Nat} {tpos : Pos} {a1 a2 z TI TO i1 i2 : Addr} (S : ZipSep2 z TI TO i1 i2 [i1, a1] [i2, a2]) :
    Turn P w K (.Tuple elts kk tpos) (ItzB b1 b2 K a1 a2) [z, TI, TO, i1, i2] z (fun i h => IsZip h z TI TO .none ∧ IsTupOf2 h TI (.ref i1) (.ref i2) ∧ (∃ x y, IsTupOf2 h TO x y) ∧ ItB b1 h i1 a1 i ∧ ItB b2 h i2 a2 i) where
  mem := by simp
  obj := fun i h st c hc => by
    obtain ⟨hz, hTI, ⟨x, y, hTO⟩, h1, h2⟩ := st
    have e' : c = z ∨ c = TI ∨ c = TO ∨ c = i1 ∨ c = i2 := by simpa using hc
    rcases e' with q | q | q | q | q
    · rw [q]; exact ⟨_, hz, fun v q => nomatch q⟩
    · rw [q]; exact ⟨_, hTI, fun v q => nomatch q⟩
    · rw [q]; exact ⟨_, hTO, fun v q => nomatch q⟩
    · rw [q]; exact h1.obj
    · rw [q]; exact h2.obj
  keep := fun i h h' st k => by
    obtain ⟨hz, hTI, ⟨x, y, hTO⟩, h1, h2⟩ := st
    exact ⟨k z (by simp) _ hz, k TI (by simp) _ hTI, ⟨x, y, k TO (by simp) _ hTO⟩, h1.at fun o q => k i1 (by simp) o q, h2.at fun o q => k i2 (by simp) o q⟩
  item := by
    intro X hP hw hK hc i pins s σ H E I hf st hg
    subst hP hw hK
    obtain ⟨hz, hTI, ⟨x0, y0, hTO⟩, h1, h2⟩ := st
    obtain ⟨xs, ys, x, y, hqx, hqy, hx, hy⟩ := hg
    obtain ⟨its, rv, p, hlt1⟩ := Inv.seqB I hqx
    obtain ⟨its2, rv2, p2, hlt2⟩ := Inv.seqB I hqy
    have n1 : a1 ≠ i1 := fun e => by
      have q := (hf i1 (by simp)).1
      cases b1 with
      | false =>
        obtain ⟨o, e1, _, d1⟩ := (show s.heap.IsListIter i1 a1 i from h1)
        obtain ⟨o', e2, _, k2, d2⟩ := (show s.heap.IsList a1 its.toArray from p)
        rw [e, e1] at e2; cases e2; rw [d1] at d2; cases d2
      | true =>
        obtain ⟨o, e1, _, d1⟩ := (show s.heap.IsTupleIter i1 a1 i from h1)
        obtain ⟨o', e2, _, k2, d2⟩ := (show s.heap.IsTuple a1 its.toArray from p)
        rw [e, e1] at e2; cases e2; rw [d1] at d2; cases d2
    have n2 : a2 ≠ i2 := fun e => by
      cases b2 with
      | false =>
        obtain ⟨o, e1, _, d1⟩ := (show s.heap.IsListIter i2 a2 i from h2)
        obtain ⟨o', e2, _, k2, d2⟩ := (show s.heap.IsList a2 its2.toArray from p2)
        rw [e, e1] at e2; cases e2; rw [d1] at d2; cases d2
      | true =>
        obtain ⟨o, e1, _, d1⟩ := (show s.heap.IsTupleIter i2 a2 i from h2)
        obtain ⟨o', e2, _, k2, d2⟩ := (show s.heap.IsTuple a2 its2.toArray from p2)
        rw [e, e1] at e2; cases e2; rw [d1] at d2; cases d2
    have D1 := drawsB b1 (prog := X.prog) (w := X.w) (A := X.A.in1) (I.ok.hd hc) i1 a1 n1 its.toArray
    have D2 := drawsB b2 (prog := X.prog) (w := X.w) (A := X.A.in1) (I.ok.hd hc) i2 a2 n2 its2.toArray
    have W := GoesN.zip2 (elts := elts) (x1 := kk) (pos := tpos) S D1 D2
    have hi : i < min its.toArray.size its2.toArray.size := by
      have l1 := rv.length
      have l2 := rv2.length
      have g1 := (List.getElem?_eq_some_iff.mp hx).1
      have g2 := (List.getElem?_eq_some_iff.mp hy).1
      rw [List.size_toArray, List.size_toArray]; omega
    refine W.goes i s (fun v s₂ => ∃ x H', Inv X pins σ H' s₂ ∧ RelV x v ∧ (ItzB b1 b2 X.K a1 a2).yld i H x H' ∧ _ ∧ ∀ b ∈ [z, TI, TO, i1, i2], H' b = none) E hi ⟨hz, hTI, ⟨_, _, hTO⟩, ⟨h1, p⟩, ⟨h2, p2⟩⟩ fun v h' tk hY st' hk htk => ?_
    obtain ⟨T, u, u2, rfl, hT, hu, hu2, hTup⟩ := hY
    obtain ⟨u', hu', ru⟩ := rv.get hx
    obtain ⟨u2', hu2', ru2⟩ := rv2.get hy
    have eu : its[i]? = some u := by simpa using hu
    have eu2 : its2[i]? = some u2 := by simpa using hu2
    rw [hu'] at eu
    rw [hu2'] at eu2
    cases eu
    cases eu2
    have new : ObjOk X.prog X.w (upd H T (.tup [x, y])) h' T (.tup [x, y]) :=
      ⟨by show 2 ≤ sizeLine; decide, [u, u2], .cons ru (.cons ru2 .nil), hTup⟩
    have hTn : ∀ c ∈ [z, TI, TO, i1, i2], c ≠ T := fun c hcm q => by
      have hlt' : c < s.heap.objs.size := by
        have e' : c = z ∨ c = TI ∨ c = TO ∨ c = i1 ∨ c = i2 := by simpa using hcm
        rcases e' with q | q | q | q | q
        · rw [q]; exact Heap.lt_size hz
        · rw [q]; exact Heap.lt_size hTI
        · rw [q]; exact Heap.lt_size hTO
        · rw [q]; obtain ⟨o, ho, _⟩ := h1.obj; exact Heap.lt_size ho
        · rw [q]; obtain ⟨o, ho, _⟩ := h2.obj; exact Heap.lt_size ho
      rw [q] at hlt'
      exact absurd (Nat.lt_of_lt_of_le hlt' hT) (Nat.lt_irrefl _)
    have I1 : Inv X pins σ (upd H T (.tup [x, y])) { s with heap := h', toks := tk } :=
      I.turnedNew (ch := [z, TI, TO, i1, i2]) (fun c ob hb q => hk c ob (fun m => hb (by
        have e' : c = z ∨ c = TO ∨ c = i1 ∨ c = i2 := by simpa using m
        rcases e' with q | q | q | q <;> simp [q])) q) hf hT new
    refine ⟨.ref T, _, I1, rfl, ⟨T, x, y, rfl, I.hok.fresh hT, rfl, fun ys hy' => by rw [Inv.seqB_inj I hy' hqx]; exact hx, fun ys hy' => by rw [Inv.seqB_inj I hy' hqy]; exact hy⟩, ⟨st'.1, st'.2.1, st'.2.2.1, st'.2.2.2.1.1, st'.2.2.2.2.1⟩, fun c hcm => ?_⟩
    rw [upd_ne (hTn c hcm)]
    exact (hf c hcm).1
  done := by
    intro X hP hw hK hc i pins s σ H E I hf st hg
    subst hP hw hK
    obtain ⟨hz, hTI, ⟨x0, y0, hTO⟩, h1, h2⟩ := st
    obtain ⟨xs, ys, hqx, hqy, hx⟩ := hg
    obtain ⟨its, rv, p, hlt1⟩ := Inv.seqB I hqx
    obtain ⟨its2, rv2, p2, hlt2⟩ := Inv.seqB I hqy
    have n1 : a1 ≠ i1 := fun e => by
      cases b1 with
      | false =>
        obtain ⟨o, e1, _, d1⟩ := (show s.heap.IsListIter i1 a1 i from h1)
        obtain ⟨o', e2, _, k2, d2⟩ := (show s.heap.IsList a1 its.toArray from p)
        rw [e, e1] at e2; cases e2; rw [d1] at d2; cases d2
      | true =>
        obtain ⟨o, e1, _, d1⟩ := (show s.heap.IsTupleIter i1 a1 i from h1)
        obtain ⟨o', e2, _, k2, d2⟩ := (show s.heap.IsTuple a1 its.toArray from p)
        rw [e, e1] at e2; cases e2; rw [d1] at d2; cases d2
    have n2 : a2 ≠ i2 := fun e => by
      cases b2 with
      | false =>
        obtain ⟨o, e1, _, d1⟩ := (show s.heap.IsListIter i2 a2 i from h2)
        obtain ⟨o', e2, _, k2, d2⟩ := (show s.heap.IsList a2 its2.toArray from p2)
        rw [e, e1] at e2; cases e2; rw [d1] at d2; cases d2
      | true =>
        obtain ⟨o, e1, _, d1⟩ := (show s.heap.IsTupleIter i2 a2 i from h2)
        obtain ⟨o', e2, _, k2, d2⟩ := (show s.heap.IsTuple a2 its2.toArray from p2)
        rw [e, e1] at e2; cases e2; rw [d1] at d2; cases d2
    have D1 := drawsB b1 (prog := X.prog) (w := X.w) (A := X.A.in1) (I.ok.hd hc) i1 a1 n1 its.toArray
    have D2 := drawsB b2 (prog := X.prog) (w := X.w) (A := X.A.in1) (I.ok.hd hc) i2 a2 n2 its2.toArray
    have W := GoesN.zip2 (elts := elts) (x1 := kk) (pos := tpos) S D1 D2
    have hi : i = min its.toArray.size its2.toArray.size := by
      have l1 := rv.length
      have l2 := rv2.length
      rw [List.size_toArray, List.size_toArray]; omega
    subst hi
    refine W.stops s (fun s₁ => Inv X pins σ H s₁) E ⟨hz, hTI, ⟨_, _, hTO⟩, ⟨h1, p⟩, ⟨h2, p2⟩⟩ fun h' tk hk htk => ?_
    exact I.turnedL (t' := tk) (ch := [z, TI, TO, i1, i2]) (fun c o hb q => hk c o (fun m => hb (by
        have e' : c = z ∨ c = TO ∨ c = i1 ∨ c = i2 := by simpa using m
        rcases e' with q | q | q | q <;> simp [q])) q) hf
  self := fun A i s Q E st h => wpAny_pyIter_zip st.1 h

set_option maxHeartbeats 2000000 in
theorem meets_enumerate_new1 {v : Value} {o : Obj} {H : Heap → Prop} (B : Begins v o H) (hv : ∀ (prog : Program) (w : World) (A : Around) (E : Value → Shared → Prop) (s : Shared), True) :
    Meets (Builtin.«enumerate.__new__» ⟨[.type "enumerate", v], []⟩) (fun _ R s => H s.heap ∧
      R (.ok (.ret (.ref (s.heap.push o).objs.size))) { s with heap := (s.heap.push o).push { cls := .type "enumerate", data := .fields #[.none, .bool false, .ref s.heap.objs.size, rawInt 0, .none, .none] } }) :=
  .of_wp fun prog w A R s h => by
    obtain ⟨hp, g, d, tk, os⟩ := s; obtain ⟨h1, h⟩ := h
    have hsub := sub_enumerate
    have q1 : ∀ {A' : Around} {E : Value → Shared → Prop} {Q : Value → Shared → Prop}, Q (.ref hp.objs.size) ⟨hp.push o, g, d, tk, os⟩ → wpAny (model prog w) A' (pyIter v) Q E ⟨hp, g, d, tk, os⟩ :=
      fun q => B.iter prog w _ _ ⟨hp, g, d, tk, os⟩ _ h1 q
    wp_walk using q1
    refine wpAny_stack_any fun st => wpAny_pure ?_
    split
    · rename_i c _ _ _ _ _
      cases (c == Value.type "enumerate")
      · wp_walk using q1
        exact ⟨_, rfl, h⟩
      · wp_walk using q1
        exact ⟨_, rfl, h⟩
    · wp_walk using q1
      exact ⟨_, rfl, h⟩
section
variable {prog : Program} {w : World} {A : Around} {E : Value → Shared → Prop} {s : Shared}
theorem enum_begins1 {v : Value} {o : Obj} {H : Heap → Prop} {Q : Value → Shared → Prop} (B : Begins v o H) (h1 : H s.heap)
    (h : ∀ h', IsEnum h' (s.heap.objs.size + 1) s.heap.objs.size 0 .none → h'.get? s.heap.objs.size = some o → h'.objs.size = s.heap.objs.size + 2 →
      (∀ b o, s.heap.get? b = some o → h'.get? b = some o) → Q (.ref (s.heap.objs.size + 1)) { s with heap := h' }) :
    wpAny (model prog w) A (call (.type "enumerate") [v]) Q E s := by
  refine callType_new F.called_enumerate (by decide) (F.typeCall_enumerate_1 _) (F.newCall_enumerate_1 _) (fun obj => F.args_object_init_2 obj _) F.entry_enumerate_new
    (meets_enumerate_new1 B fun _ _ _ _ _ => trivial) ⟨h1, ?_⟩
  have hz : (s.heap.push o).objs.size = s.heap.objs.size + 1 := Heap.size_push ..
  show _ ∧ _
  rw [hz]
  have he : IsEnum ((s.heap.push o).push { cls := .type "enumerate", data := .fields #[.none, .bool false, .ref s.heap.objs.size, rawInt 0, .none, .none] }) (s.heap.objs.size + 1) s.heap.objs.size 0 .none := by
    have := Heap.get?_push_size (s.heap.push o) (o := { cls := .type "enumerate", data := .fields #[.none, .bool false, .ref s.heap.objs.size, rawInt 0, .none, .none] }) rfl
    rw [hz] at this; exact this
  refine ⟨⟨_, he, rfl⟩, h _ he (Heap.get?_push_of_some _ (Heap.get?_push_size _ B.free)) (by rw [Heap.size_push, hz]) fun b o x => Heap.get?_push_of_some _ (Heap.get?_push_of_some _ x)⟩
end
/-! ### the iterables -/
def iSeq (K : PySem.W.Frag) (tl : TE) : TI := fun σ H R => tl σ H fun x H1 => ∃ (b : Bool) (a : Addr) (xs : List V), x = .ref a ∧ SqB b K H1 a xs ∧ R (if b then Itt K a else Itl K a) H1
section
variable {X : Cx} {tg : Expr}
theorem pi_seq {l : Expr} {tl : TE} (hl : PE X l tl) : PI X tg l (iSeq X.K tl) := by
  refine ⟨fun pins s σ H R I h => ?_⟩
  refine thn (hl.run pins s σ H _ I h) fun v s1 ⟨x, H1, I1, r1, q1⟩ => ?_
  obtain ⟨b, a, xs, e, hq, q⟩ := q1
  subst e
  cases r1
  have fp : ∀ b ∈ [s1.heap.objs.size], FpOk X pins H1 b := fun b hb => by
    have e : b = s1.heap.objs.size := by simpa using hb
    subst e
    exact I1.fpOk (Nat.le_refl _) (I1.hok.fresh (Nat.le_refl _))
  cases b with
  | false =>
    obtain ⟨its, rv, p, hz⟩ := I1.list (show SqL X.K H1 a xs from hq)
    refine wpAny_pyIter_list p.isList ?_
    exact ⟨s1.heap.objs.size, [s1.heap.objs.size], _, _, H1, rfl, I1.kept (t' := s1.toks) fun b o e => Heap.get?_push_of_some _ e, turn_list a _, ⟨_, Heap.get?_push_size _ rfl, rfl, rfl⟩, fp, q⟩
  | true =>
    obtain ⟨its, rv, p, hz⟩ := I1.tuple (show SqT X.K H1 a xs from hq)
    refine wpAny_pyIter_tuple (show s1.heap.IsTuple a its.toArray from p) ?_
    exact ⟨s1.heap.objs.size, [s1.heap.objs.size], _, _, H1, rfl, I1.kept (t' := s1.toks) fun b o e => Heap.get?_push_of_some _ e, turn_tuple a _, ⟨_, Heap.get?_push_size _ rfl, rfl, rfl⟩, fp, q⟩
def iEnB (K : PySem.W.Frag) (ta : TA) : TI := fun σ H R => ta σ H fun vs H1 => ∃ (b : Bool) (a : Addr) (xs : List V), vs = [.ref a] ∧ SqB b K H1 a xs ∧ R (IteB b K a) H1
theorem pi_enB {e : Expr} {ta : TA} {p pos tpos : Pos} {elts : List Expr} {kk : Nat} (hg : Gl X "enumerate") (hm : X.mg "enumerate" = none) (ha : PA X [e] ta) (hs : starEach [e] X.env = [(false, eval e X.env)]) :
    PI X (.Tuple elts kk tpos) (.Call (.Name "enumerate" p) [e] [] pos) (iEnB X.K ta) := by
  refine ⟨fun pins s σ H R I h => ?_⟩
  refine Call_ (ld_blt I hg hm boot_enumerate (PyProof.Rows.callWith_type1 (thn (ha.run pos pins s σ H _ I h) fun us s1 ⟨vs, H1, I1, r1, q1⟩ => ?_) hs rfl))
  obtain ⟨b, a, xs, ex, hq, q⟩ := q1
  subst ex
  obtain rfl := Vals.ref1 r1
  obtain ⟨its, rv, p', hlt⟩ := Inv.seqB I1 hq
  refine enum_begins1 (beginsB b a its.toArray) p' fun h' he hit hsz hk => wpAny_pyIter_enum he ?_
  have I2 : Inv X pins σ H1 { s1 with heap := h' } := I1.kept (t' := s1.toks) hk
  have n0 : a ≠ s1.heap.objs.size + 1 := fun z => absurd hlt (by rw [z]; exact Nat.not_lt.mpr (Nat.le_succ _))
  have n1 : a ≠ s1.heap.objs.size := fun z => absurd hlt (by rw [z]; exact Nat.lt_irrefl _)
  refine ⟨s1.heap.objs.size + 1, [s1.heap.objs.size + 1, s1.heap.objs.size], _, _, H1, rfl, I2, turn_enumB b a (s1.heap.objs.size + 1) s1.heap.objs.size, ⟨⟨.none, by simpa using he⟩, itB0 hit, Nat.succ_ne_self _, n0, n1⟩, fun b hb => ?_, q⟩
  have e' : b = s1.heap.objs.size + 1 ∨ b = s1.heap.objs.size := by simpa using hb
  have hle : s1.heap.objs.size ≤ b := by
    rcases e' with z | z
    · rw [z]; exact Nat.le_add_right _ _
    · rw [z]; exact Nat.le_refl _
  exact I1.fpOk hle (I1.hok.fresh hle)
def iZiB (K : PySem.W.Frag) (ta : TA) : TI := fun σ H R => ta σ H fun vs H1 => ∃ (b1 b2 : Bool) (a1 a2 : Addr) (xs ys : List V), vs = [.ref a1, .ref a2] ∧ SqB b1 K H1 a1 xs ∧ SqB b2 K H1 a2 ys ∧ R (ItzB b1 b2 K a1 a2) H1
theorem pi_ziB {e e2 : Expr} {ta : TA} {p pos tpos : Pos} {elts : List Expr} {kk : Nat} (hg : Gl X "zip") (hm : X.mg "zip" = none) (ha : PA X [e, e2] ta)
    (hs : starEach [e, e2] X.env = (false, eval e X.env) :: starEach [e2] X.env) (hpl : (backTo pos (starEach [e2] X.env)).any (·.1) = false) :
    PI X (.Tuple elts kk tpos) (.Call (.Name "zip" p) [e, e2] [] pos) (iZiB X.K ta) := by
  refine ⟨fun pins s σ H R I h => ?_⟩
  refine Call_ (ld_blt I hg hm PyProof.Rows.boot_zip (PyProof.Rows.callWith_type1 (thn (ha.run pos pins s σ H _ I h) fun us s1 ⟨vs, H1, I1, r1, q1⟩ => ?_) hs hpl))
  obtain ⟨b1, b2, a1, a2, xs, ys, ex, hqx, hqy, q⟩ := q1
  subst ex
  obtain ⟨u1, us1, rfl⟩ : ∃ u us1, us = u :: us1 := by cases r1 with | cons _ _ => exact ⟨_, _, rfl⟩
  cases r1 with
  | cons r rr =>
    obtain rfl := Vals.ref1 rr
    cases (show u1 = Value.ref a1 from r)
    obtain ⟨its, rv, p1, lt1⟩ := Inv.seqB I1 hqx
    obtain ⟨its2, rv2, p2, lt2⟩ := Inv.seqB I1 hqy
    refine zip_begins2 (beginsB b1 a1 its.toArray) (beginsB b2 a2 its2.toArray) p1 p2 fun h' hz hTI hTO h1 h2 hsz hk => wpAny_pyIter_zip hz ?_
    have I2 : Inv X pins σ H1 { s1 with heap := h' } := I1.kept (t' := s1.toks) hk
    refine ⟨s1.heap.objs.size + 4, [s1.heap.objs.size + 4, s1.heap.objs.size + 2, s1.heap.objs.size + 3, s1.heap.objs.size, s1.heap.objs.size + 1], _, _, H1, rfl, I2, turn_zipB b1 b2 (zip_sep2 (fun b hb => ?_) fun b hb => ?_), ⟨hz, hTI, ⟨_, _, hTO⟩, itB0 h1, itB0 h2⟩, fun c hcm => ?_, q⟩
    · have e : b = a1 := by simpa using hb
      rw [e]; exact lt1
    · have e : b = a2 := by simpa using hb
      rw [e]; exact lt2
    have e' : c = s1.heap.objs.size + 4 ∨ c = s1.heap.objs.size + 2 ∨ c = s1.heap.objs.size + 3 ∨ c = s1.heap.objs.size ∨ c = s1.heap.objs.size + 1 := by simpa using hcm
    have hle : s1.heap.objs.size ≤ c := by
      rcases e' with z | z | z | z | z
      · rw [z]; exact Nat.le_add_right _ _
      · rw [z]; exact Nat.le_add_right _ _
      · rw [z]; exact Nat.le_add_right _ _
      · rw [z]; exact Nat.le_refl _
      · rw [z]; exact Nat.le_add_right _ _
    exact I1.fpOk hle (I1.hok.fresh hle)
end
/-- J walks xs -/
structure ItOf (K : PySem.W.Frag) (F : Hp) (J : L2.It) (xs : List D) : Prop where
  go : ∀ i H, Same F H → i < xs.length → J.go i H
  stop : ∀ H, Same F H → J.stop xs.length H
  yld : ∀ i H x H', Same F H → i < xs.length → J.yld i H x H' → (H' = H ∧ ∃ d, xs[i]? = some d ∧ Rp K F d x) ∨
    ∃ T vs ds, x = .ref T ∧ H T = none ∧ H' = upd H T (.tup vs) ∧ xs[i]? = some (.tup ds) ∧ RpL K F ds vs
theorem sameB {K : PySem.W.Frag} {F H : Hp} {b : Bool} {a : Addr} {vs : List V} (e : Same F H) (h : SqB b K F a vs) : SqB b K H a vs := by
  cases b with
  | false => exact e.seq (show SqL K F a vs from h)
  | true => exact sameT e (show SqT K F a vs from h)
/-- a list or a tuple that lies still -/
theorem items_rp {K : PySem.W.Frag} {F : Hp} {d : D} {ds : List D} {v : V} (h : Rp K F d v) (e : items d = some ds) : ∃ (b : Bool) (a : Addr) (vs : List V), v = .ref a ∧ SqB b K F a vs ∧ RpL K F ds vs := by
  cases d with
  | tup xs => cases e; unfold Rp at h; obtain ⟨a, vs, e1, e2, e3⟩ := h; exact ⟨true, a, vs, e1, e2, e3⟩
  | lst xs => cases e; unfold Rp at h; obtain ⟨a, vs, e1, e2, e3⟩ := h; exact ⟨false, a, vs, e1, e2, e3⟩
  | _ => cases e
theorem itOf_seq {K : PySem.W.Frag} {F : Hp} {b : Bool} {a : Addr} {vs : List V} {ds : List D} (h : SqB b K F a vs) (r : RpL K F ds vs) : ItOf K F (if b then Itt K a else Itl K a) ds := by
  have hl := r.len
  have at' : ∀ i, i < ds.length → ∃ x d, vs[i]? = some x ∧ ds[i]? = some d ∧ Rp K F d x := fun i hi => by
    obtain ⟨x, h1, h2⟩ := r.get (List.getElem?_eq_getElem hi)
    exact ⟨x, _, h1, List.getElem?_eq_getElem hi, h2⟩
  cases b with
  | false =>
    refine ⟨fun i H e hi => ?_, fun H e => ⟨vs, sameB e h, by omega⟩, fun i H x H' e hi y => ?_⟩
    · obtain ⟨x, d, h1, h2, h3⟩ := at' i hi
      exact ⟨vs, x, sameB e h, h1⟩
    · obtain ⟨x', d, h1, h2, h3⟩ := at' i hi
      obtain ⟨y1, y2⟩ := (show H' = H ∧ ∀ xs, SqL K H a xs → xs[i]? = some x from y)
      have := y2 vs (sameB e h)
      rw [h1] at this
      cases this
      exact .inl ⟨y1, d, h2, h3⟩
  | true =>
    refine ⟨fun i H e hi => ?_, fun H e => ⟨vs, sameB e h, by omega⟩, fun i H x H' e hi y => ?_⟩
    · obtain ⟨x, d, h1, h2, h3⟩ := at' i hi
      exact ⟨vs, x, sameB e h, h1⟩
    · obtain ⟨x', d, h1, h2, h3⟩ := at' i hi
      obtain ⟨y1, y2⟩ := (show H' = H ∧ ∀ xs, SqT K H a xs → xs[i]? = some x from y)
      have := y2 vs (sameB e h)
      rw [h1] at this
      cases this
      exact .inl ⟨y1, d, h2, h3⟩
theorem enumL_len : ∀ (ds : List D) (k : Nat), (enumL k ds).length = ds.length
  | [], _ => rfl
  | d :: ds, k => by simp [enumL, enumL_len ds]
theorem enumL_get : ∀ (ds : List D) (k i : Nat) (d : D), ds[i]? = some d → (enumL k ds)[i]? = some (.tup [.int ((k + i : Nat) : Int), d])
  | [], _, _, _, h => by simp at h
  | x :: ds, k, 0, d, h => by simp at h; subst h; simp [enumL]
  | x :: ds, k, i + 1, d, h => by
    have := enumL_get ds (k + 1) i d (by simpa using h)
    simp only [enumL, List.getElem?_cons_succ, this]
    congr 4
    omega
theorem itOf_enum {K : PySem.W.Frag} {F : Hp} {b : Bool} {a : Addr} {vs : List V} {ds : List D} (h : SqB b K F a vs) (r : RpL K F ds vs) : ItOf K F (IteB b K a) (enumL 0 ds) := by
  have hl := r.len
  refine ⟨fun i H e hi => ?_, fun H e => ⟨vs, sameB e h, by rw [enumL_len]; exact hl⟩, fun i H x H' e hi y => ?_⟩
  · rw [enumL_len] at hi
    obtain ⟨x, h1, h2⟩ := r.get (List.getElem?_eq_getElem hi)
    exact ⟨vs, x, sameB e h, h1⟩
  · rw [enumL_len] at hi
    obtain ⟨x', h1, h2⟩ := r.get (List.getElem?_eq_getElem hi)
    obtain ⟨T, z, y1, y2, y3, y4⟩ := y
    have := y4 vs (sameB e h)
    rw [h1] at this
    cases this
    refine .inr ⟨T, _, [.int (i : Nat), ds[i]], y1, y2, y3, ?_, .cons .int (.cons h2 .nil)⟩
    have := enumL_get ds 0 i _ (List.getElem?_eq_getElem hi)
    simpa using this
theorem zipL_len : ∀ (xs ys : List D), (zipL xs ys).length = min xs.length ys.length
  | [], ys => by simp [zipL]
  | x :: xs, [] => by simp [zipL]
  | x :: xs, y :: ys => by simp [zipL, zipL_len xs ys]
theorem zipL_get : ∀ (xs ys : List D) (i : Nat) (d e : D), xs[i]? = some d → ys[i]? = some e → (zipL xs ys)[i]? = some (.tup [d, e])
  | [], _, _, _, _, h, _ => by simp at h
  | x :: xs, [], _, _, _, _, h => by simp at h
  | x :: xs, y :: ys, 0, d, e, h, g => by simp at h g; subst h; subst g; simp [zipL]
  | x :: xs, y :: ys, i + 1, d, e, h, g => by
    have := zipL_get xs ys i d e (by simpa using h) (by simpa using g)
    simpa [zipL] using this
theorem itOf_zip {K : PySem.W.Frag} {F : Hp} {b1 b2 : Bool} {a1 a2 : Addr} {vs us : List V} {ds es : List D} (h : SqB b1 K F a1 vs) (g : SqB b2 K F a2 us) (r : RpL K F ds vs) (t : RpL K F es us) : ItOf K F (ItzB b1 b2 K a1 a2) (zipL ds es) := by
  have hl := r.len
  have gl := t.len
  refine ⟨fun i H e hi => ?_, fun H e => ⟨vs, us, sameB e h, sameB e g, by rw [zipL_len, hl, gl]⟩, fun i H x H' e hi y => ?_⟩
  · rw [zipL_len] at hi
    obtain ⟨x, h1, h2⟩ := r.get (List.getElem?_eq_getElem (show i < ds.length by omega))
    obtain ⟨y, g1, g2⟩ := t.get (List.getElem?_eq_getElem (show i < es.length by omega))
    exact ⟨vs, us, x, y, sameB e h, sameB e g, h1, g1⟩
  · rw [zipL_len] at hi
    have hi1 : i < ds.length := by omega
    have hi2 : i < es.length := by omega
    obtain ⟨x', h1, h2⟩ := r.get (List.getElem?_eq_getElem hi1)
    obtain ⟨y', g1, g2⟩ := t.get (List.getElem?_eq_getElem hi2)
    obtain ⟨T, z, z', y1, y2, y3, y4, y5⟩ := y
    have q1 := y4 vs (sameB e h)
    have q2 := y5 us (sameB e g)
    rw [h1] at q1
    rw [g1] at q2
    cases q1
    cases q2
    exact .inr ⟨T, _, [ds[i], es[i]], y1, y2, y3, zipL_get _ _ _ _ _ (List.getElem?_eq_getElem hi1) (List.getElem?_eq_getElem hi2), .cons h2 (.cons g2 .nil)⟩
theorem rangeL_len (lo : Int) (n : Nat) : (rangeL lo n).length = n := by simp [rangeL]
theorem itOf_range {K : PySem.W.Frag} {F : Hp} {lo : Int} {n : Nat} : ItOf K F (Itr lo n) (rangeL lo n) := by
  refine ⟨fun i H e hi => by rw [rangeL_len] at hi; exact hi, fun H e => by rw [rangeL_len]; exact Nat.le_refl _, fun i H x H' e hi y => ?_⟩
  rw [rangeL_len] at hi
  obtain ⟨y1, y2⟩ := (show H' = H ∧ x = .int (lo + i) from y)
  refine .inl ⟨y1, .int (lo + i), ?_, by rw [y2]; exact .int⟩
  simp [rangeL, hi]
end DL

end
section
set_option maxRecDepth 100000
set_option maxHeartbeats 1000000
/-! DL, part 8: the interpreter's results as readings. -/
namespace DL
open PySem PySem.Spec PyProof.Rows L2
def Res.wp {α : Type} (Q : α → DL.Env → Prop) (E : Nat → DL.Env → Prop) : Res α → Prop
  | .ok a ρ => Q a ρ
  | .exc c _ ρ => E c ρ
  | .stuck => False
theorem wp_bind {α β : Type} {r : Res α} {f : α → DL.Env → Res β} {Q : β → DL.Env → Prop} {E : Nat → DL.Env → Prop} (h : (r.bind f).wp Q E) : r.wp (fun a ρ => (f a ρ).wp Q E) E := by
  cases r <;> exact h
theorem wp_mono {α : Type} {r : Res α} {Q Q' : α → DL.Env → Prop} {E E' : Nat → DL.Env → Prop} (h : r.wp Q E) (hq : ∀ a ρ, Q a ρ → Q' a ρ) (he : ∀ c ρ, E c ρ → E' c ρ) : r.wp Q' E' := by
  cases r with
  | ok a ρ => exact hq _ _ h
  | exc c as ρ => exact he _ _ h
  | stuck => exact h
theorem wp_quiet {α : Type} {r : Res α} {Q : α → DL.Env → Prop} {E E' : Nat → DL.Env → Prop} (h : r.quiet.wp Q E) : r.wp Q E' := by
  cases r with
  | ok a ρ => exact h
  | exc c as ρ => exact False.elim h
  | stuck => exact h
theorem wp_lft {α : Type} {o : Option α} {ρ : DL.Env} {Q : α → DL.Env → Prop} {E : Nat → DL.Env → Prop} (h : (lft ρ o).wp Q E) : ∃ a, o = some a ∧ Q a ρ := by
  cases o with
  | none => exact False.elim h
  | some a => exact ⟨a, rfl, h⟩
section
variable (K : PySem.W.Frag) (cls : Nat → Addr) (W : WX)
/-- an exception that leaves -/
def exD (P F : Hp) (σ : L2.St) : Nat → DL.Env → Prop := fun c ρ' => ∀ H' F' d, Same F F' → SR K P F' ρ' σ H' → W (.ref (cls c)) d σ H'
theorem exD.mono {K : PySem.W.Frag} {cls : Nat → Addr} {W : WX} {P F F1 : Hp} {σ : L2.St} (e : Same F F1) (c : Nat) (ρ : DL.Env) (h : exD K cls W P F σ c ρ) : exD K cls W P F1 σ c ρ := fun H' F' d e1 S => h H' F' d (e.trans e1) S
/-- the reading of a part of the interpreter; RR: how its results lie -/
def tG {α β : Type} (RR : Hp → Hp → Hp → DL.Env → L2.St → α → β → Prop) (sem : DL.Env → Res α) : L2.St → Hp → (β → Hp → Prop) → Prop := fun σ H Q =>
  ∃ P F ρ, SR K P F ρ σ H ∧ (sem ρ).wp (fun a ρ' => ∀ b H' F', Same F F' → SR K P F' ρ' σ H' → RR P F' H' ρ' σ a b → Q b H') (exD K cls W P F σ)
abbrev tD (sem : DL.Env → Res Vl) : TE := tG K cls W (RV K) sem
abbrev tDT (sem : DL.Env → Res Bool) : TT := tG K cls W (fun _ _ _ _ _ (a b : Bool) => a = b) sem
abbrev tDA (sem : DL.Env → Res (List D)) : TA := tG K cls W (fun _ F _ _ _ ds vs => RpL K F ds vs) sem
def RSL (F : Hp) (σ : L2.St) : List Vl → List V → Prop
  | [], vs => vs = []
  | r :: rs, vs => ∃ v us, vs = v :: us ∧ RS K F σ r v ∧ RSL F σ rs us
abbrev tDV (sem : DL.Env → Res (List Vl)) : TA := tG K cls W (fun _ F _ _ σ rs vs => RSL K F σ rs vs) sem
abbrev tDI (sem : DL.Env → Res (List D)) : TI := tG K cls W (fun _ F _ _ _ ds J => ItOf K F J ds) sem
end
theorem RSL.mono {K : PySem.W.Frag} {F F' : Hp} {σ : L2.St} (e : Same F F') : ∀ {rs : List Vl} {vs : List V}, RSL K F σ rs vs → RSL K F' σ rs vs
  | [], _, h => h
  | r :: rs, _, h => by
    obtain ⟨v, us, e1, h1, h2⟩ := h
    exact ⟨v, us, e1, h1.mono e, RSL.mono e h2⟩
theorem RSL.top {K : PySem.W.Frag} {P F H : Hp} {ρ : DL.Env} {σ : L2.St} (S : SR K P F ρ σ H) : ∀ {rs : List Vl} {vs : List V} {ds : List D}, RSL K F σ rs vs → rs.mapM (deref ρ) = some ds → TopL K F H ds vs
  | [], vs, ds, h, e => by
    have h' : vs = [] := h
    have e' : ds = [] := by simpa using e.symm
    rw [h', e']
    exact .nil
  | r :: rs, vs, ds, h, e => by
    obtain ⟨v, us, e1, h1, h2⟩ := h
    rw [List.mapM_cons] at e
    cases hd : deref ρ r with
    | none => rw [hd] at e; cases e
    | some d =>
      rw [hd] at e
      cases hr : rs.mapM (deref ρ) with
      | none => rw [hr] at e; cases e
      | some ds' =>
        rw [hr] at e
        cases e
        rw [e1]
        exact .cons (S.top h1 hd) (RSL.top S h2 hr)
section
variable {K : PySem.W.Frag} {cls : Nat → Addr} {W : WX} {α β : Type} {RR : Hp → Hp → Hp → DL.Env → L2.St → α → β → Prop} {σ : L2.St} {H P F : Hp} {ρ : DL.Env}
/-- a part is reckoned, then the rest -/
theorem tG.step {sem : DL.Env → Res α} {G : α → DL.Env → Prop} {Q : β → Hp → Prop} (S : SR K P F ρ σ H) (h : (sem ρ).wp G (exD K cls W P F σ))
    (k : ∀ a ρ' b H' F', G a ρ' → Same F F' → SR K P F' ρ' σ H' → RR P F' H' ρ' σ a b → Q b H') : tG K cls W RR sem σ H Q :=
  ⟨P, F, ρ, S, wp_mono h (fun a ρ' g b H' F' e S' r => k a ρ' b H' F' g e S' r) fun _ _ h => h⟩
/-- the next part, behind F -/
theorem wp_next {r : Res α} {F1 : Hp} {Q : α → DL.Env → Prop} (e : Same F F1) (h : r.wp Q (exD K cls W P F σ)) : r.wp Q (exD K cls W P F1 σ) := wp_mono h (fun _ _ h => h) fun c ρ h => h.mono e
theorem tG.mono {sem : DL.Env → Res α} {Q Q' : β → Hp → Prop} (h : tG K cls W RR sem σ H Q) (k : ∀ b H', Q b H' → Q' b H') : tG K cls W RR sem σ H Q' := by
  obtain ⟨P, F, ρ, S, w⟩ := h
  exact tG.step S w fun a ρ' b H' F' g e S' r => k _ _ (g b H' F' e S' r)

/-! ### expressions -/
theorem d_val {Q : VK} {d : D} {v : V} (hv : ∀ F, Rp K F d v) (h : tD K cls W (fun ρ => .ok (.val d) ρ) σ H Q) : Q v H := by
  obtain ⟨P, F, ρ, S, h⟩ := h
  exact h v H F (.refl _) S (hv F)
def semVar (i : Nat) : DL.Env → Res Vl := fun ρ => match ρ[i]? with
  | some (some (.val d)) => .ok (.val d) ρ
  | some (some (.mut _)) => .ok (.mref i) ρ
  | _ => .stuck
theorem d_var {Q : VK} {i : Nat} (h : tD K cls W (semVar i) σ H Q) : tVar i σ H Q := by
  obtain ⟨P, F, ρ, S, h⟩ := h
  unfold semVar at h
  split at h
  · rename_i d q
    obtain ⟨v, h1, h2⟩ := S.vals i d q
    exact ⟨v, h1, h v H F (.refl _) S h2⟩
  · rename_i ds q
    obtain ⟨a, vs, h1, h2, h3, h4, h5⟩ := S.muts i ds q
    exact ⟨_, h1, h _ H F (.refl _) S ⟨h1, ds, q⟩⟩
  · exact False.elim h
/-- the end of an operation on two values -/
def fin2 (f : D → D → Option Vl) (x y : Vl) : DL.Env → Res Vl := fun ρ => match deref ρ x, deref ρ y with
  | some dx, some dy => lft ρ (f dx dy)
  | _, _ => .stuck
theorem fin2_wp {f : D → D → Option Vl} {x y : Vl} {Q : Vl → DL.Env → Prop} {E : Nat → DL.Env → Prop} (h : (fin2 f x y ρ).wp Q E) : ∃ dx dy r, deref ρ x = some dx ∧ deref ρ y = some dy ∧ f dx dy = some r ∧ Q r ρ := by
  unfold fin2 at h
  split at h
  · rename_i dx dy e1 e2
    obtain ⟨r, e3, q⟩ := wp_lft h
    exact ⟨dx, dy, r, e1, e2, e3, q⟩
  · exact False.elim h
theorem d_op {Q : VK} {f : D → D → Option Vl} {ea eb : DL.Env → Res Vl} (h : tD K cls W (fun ρ => (ea ρ).bind fun x ρ => (eb ρ).bind fun y ρ => fin2 f x y ρ) σ H Q) : tOp (rD K f) (tD K cls W ea) (tD K cls W eb) σ H Q := by
  obtain ⟨P, F, ρ, S, h⟩ := h
  refine tG.step S (wp_bind h) fun x ρ1 xv H1 F1 h1 e1 S1 r1 => ?_
  obtain ⟨F1', e1', S1', rs1⟩ := S1.settle r1
  refine tG.step S1' (wp_next (e1.trans e1') (wp_bind h1)) fun y ρ2 yv H2 F2 h2 e2 S2 r2 => ?_
  obtain ⟨F2', e2', S2', rs2⟩ := S2.settle r2
  obtain ⟨dx, dy, r, hx, hy, hf, q⟩ := fin2_wp h2
  refine ⟨F2', dx, dy, r, S2'.fh, S2'.top (rs1.mono (e2.trans e2')) hx, S2'.top rs2 hy, hf, fun v F' H' n => ?_⟩
  obtain ⟨e3, S3, rv⟩ := n.sr S2'
  exact q v H' F' ((((e1.trans e1').trans e2).trans e2').trans e3) S3 rv
theorem d_neg {Q : VK} {ea : DL.Env → Res Vl} (h : tD K cls W (fun ρ => (ea ρ).bind fun x ρ => match x with | .val (.int i) => .ok (.val (.int (-i))) ρ | _ => .stuck) σ H Q) : tUn (rU fun i => .int (-i)) (tD K cls W ea) σ H Q := by
  obtain ⟨P, F, ρ, S, h⟩ := h
  refine tG.step S (wp_bind h) fun x ρ1 xv H1 F1 h1 e1 S1 r1 => ?_
  split at h1
  · rename_i i
    exact ⟨i, Rp.int_inv (K := K) (F := F1) r1, h1 _ _ F1 e1 S1 (Rp.int (K := K) (F := F1))⟩
  · exact False.elim h1
/-- a test's reading as a value's -/
theorem d_test {sem_e : DL.Env → Res Vl} {sem_t : DL.Env → Res Bool} (hs : ∀ ρ, sem_e ρ = (sem_t ρ).bind fun b ρ => .ok (.val (.bl b)) ρ) {Q : Bool → Hp → Prop} (h : tDT K cls W sem_t σ H Q) : tD K cls W sem_e σ H fun x H' => ∃ k, x = .bl k ∧ Q k H' := by
  obtain ⟨P, F, ρ, S, h⟩ := h
  refine ⟨P, F, ρ, S, ?_⟩
  rw [hs]
  revert h
  cases sem_t ρ with
  | ok b ρ' => exact fun h v H' F' e S' r => ⟨b, Rp.bl_inv (K := K) (F := F') r, h b H' F' e S' rfl⟩
  | exc c as ρ' => exact fun h => h
  | stuck => exact fun h => h
theorem truth_of {P F H : Hp} {ρ : DL.Env} {x : Vl} {v : V} {k : Bool} (S : SR K P F ρ σ H) (r : RV K P F H ρ σ x v) (e : truthOf ρ x = some k) : TruV K v H k := by
  obtain ⟨F', e', S', rs⟩ := S.settle r
  obtain ⟨d, h1, h2⟩ := Option.bind_eq_some_iff.mp e
  exact truV_of S'.fh (S'.top rs h1) h2
/-- truth of a value -/
theorem d_truth {sem_e : DL.Env → Res Vl} {Q : Bool → Hp → Prop} (h : tDT K cls W (fun ρ => (sem_e ρ).bind fun x ρ => lft ρ (truthOf ρ x)) σ H Q) : tD K cls W sem_e σ H fun x H' => ∃ k, TruV K x H' k ∧ Q k H' := by
  obtain ⟨P, F, ρ, S, h⟩ := h
  refine tG.step S (wp_bind h) fun x ρ1 xv H1 F1 h1 e1 S1 r1 => ?_
  obtain ⟨k, hk, q⟩ := wp_lft h1
  exact ⟨k, truth_of S1 r1 hk, q k H1 F1 e1 S1 rfl⟩
theorem rp_non {F : Hp} {d : D} {v : V} (h : Rp K F d v) : decide (v = .non) = d.isNon := by
  cases d <;> unfold Rp at h
  · rw [h]; rfl
  all_goals first
    | (rw [h]; rfl)
    | (obtain ⟨a, vs, e, _⟩ := h; rw [e]; rfl)
theorem rs_non {P F H : Hp} {ρ : DL.Env} {x : Vl} {v : V} {d : D} (S : SR K P F ρ σ H) (r : RS K F σ x v) (e : deref ρ x = some d) : decide (v = .non) = d.isNon := by
  have t := S.top r e
  cases d with
  | lst ds => obtain ⟨a, vs, e, _⟩ := t; rw [e]; rfl
  | non => exact rp_non (K := K) (F := F) t
  | bl _ => exact rp_non (K := K) (F := F) t
  | int _ => exact rp_non (K := K) (F := F) t
  | str _ => exact rp_non (K := K) (F := F) t
  | tup _ => exact rp_non (K := K) (F := F) t
def finN (neg : Bool) (x : Vl) : DL.Env → Res Vl := fun ρ => match deref ρ x with
  | some d => .ok (.val (.bl (d.isNon != neg))) ρ
  | none => .stuck
theorem finN_wp {neg : Bool} {x : Vl} {Q : Vl → DL.Env → Prop} {E : Nat → DL.Env → Prop} (h : (finN neg x ρ).wp Q E) : ∃ d, deref ρ x = some d ∧ Q (.val (.bl (d.isNon != neg))) ρ := by
  unfold finN at h
  split at h
  · rename_i d e; exact ⟨d, e, h⟩
  · exact False.elim h
theorem d_isN {Q : VK} {ea : DL.Env → Res Vl} (h : tD K cls W (fun ρ => (ea ρ).bind fun x ρ => finN false x ρ) σ H Q) : tIsN (tD K cls W ea) σ H Q := by
  obtain ⟨P, F, ρ, S, h⟩ := h
  refine tG.step S (wp_bind h) fun x ρ1 xv H1 F1 h1 e1 S1 r1 => ?_
  obtain ⟨F1', e1', S1', rs1⟩ := S1.settle r1
  obtain ⟨d, hd, q⟩ := finN_wp h1
  have := q (.bl (d.isNon != false)) H1 F1 e1 S1 (Rp.bl (K := K) (F := F1))
  rw [rs_non S1' rs1 hd]
  cases hb : d.isNon <;> (rw [hb] at this; exact this)
theorem d_notN {Q : VK} {ea : DL.Env → Res Vl} (h : tD K cls W (fun ρ => (ea ρ).bind fun x ρ => finN true x ρ) σ H Q) : tNotN (tD K cls W ea) σ H Q := by
  obtain ⟨P, F, ρ, S, h⟩ := h
  refine tG.step S (wp_bind h) fun x ρ1 xv H1 F1 h1 e1 S1 r1 => ?_
  obtain ⟨F1', e1', S1', rs1⟩ := S1.settle r1
  obtain ⟨d, hd, q⟩ := finN_wp h1
  have := q (.bl (d.isNon != true)) H1 F1 e1 S1 (Rp.bl (K := K) (F := F1))
  rw [rs_non S1' rs1 hd]
  cases hb : d.isNon <;> (rw [hb] at this; exact this)
def finT (x : Vl) (f : Bool → DL.Env → Res Vl) : DL.Env → Res Vl := fun ρ => match truthOf ρ x with
  | some k => f k ρ
  | none => .stuck
theorem finT_wp {x : Vl} {f : Bool → DL.Env → Res Vl} {Q : Vl → DL.Env → Prop} {E : Nat → DL.Env → Prop} (h : (finT x f ρ).wp Q E) : ∃ k, truthOf ρ x = some k ∧ (f k ρ).wp Q E := by
  unfold finT at h
  split at h
  · rename_i k e; exact ⟨k, e, h⟩
  · exact False.elim h
theorem d_and {Q : VK} {ea eb : DL.Env → Res Vl} (h : tD K cls W (fun ρ => (ea ρ).bind fun x ρ => finT x (fun k ρ => if k then eb ρ else .ok x ρ) ρ) σ H Q) : tAndT K (tD K cls W ea) (tD K cls W eb) σ H Q := by
  obtain ⟨P, F, ρ, S, h⟩ := h
  refine tG.step S (wp_bind h) fun x ρ1 xv H1 F1 h1 e1 S1 r1 => ?_
  obtain ⟨k, hk, q⟩ := finT_wp h1
  refine ⟨k, truth_of S1 r1 hk, ?_⟩
  cases k with
  | true => rw [if_pos rfl] at q ⊢; exact tG.step S1 (wp_next e1 q) fun y ρ2 yv H2 F2 g e2 S2 r2 => g yv H2 F2 (e1.trans e2) S2 r2
  | false => rw [if_neg (by decide)] at q ⊢; exact q xv H1 F1 e1 S1 r1
theorem d_or {Q : VK} {ea eb : DL.Env → Res Vl} (h : tD K cls W (fun ρ => (ea ρ).bind fun x ρ => finT x (fun k ρ => if k then .ok x ρ else eb ρ) ρ) σ H Q) : tOrT K (tD K cls W ea) (tD K cls W eb) σ H Q := by
  obtain ⟨P, F, ρ, S, h⟩ := h
  refine tG.step S (wp_bind h) fun x ρ1 xv H1 F1 h1 e1 S1 r1 => ?_
  obtain ⟨k, hk, q⟩ := finT_wp h1
  refine ⟨k, truth_of S1 r1 hk, ?_⟩
  cases k with
  | false => rw [if_neg (by decide)] at q ⊢; exact tG.step S1 (wp_next e1 q) fun y ρ2 yv H2 F2 g e2 S2 r2 => g yv H2 F2 (e1.trans e2) S2 r2
  | true => rw [if_pos rfl] at q ⊢; exact q xv H1 F1 e1 S1 r1
theorem d_not {Q : VK} {ea : DL.Env → Res Vl} (h : tD K cls W (fun ρ => (ea ρ).bind fun x ρ => finT x (fun k ρ => .ok (.val (.bl (!k))) ρ) ρ) σ H Q) : tNotT K (tD K cls W ea) σ H Q := by
  obtain ⟨P, F, ρ, S, h⟩ := h
  refine tG.step S (wp_bind h) fun x ρ1 xv H1 F1 h1 e1 S1 r1 => ?_
  obtain ⟨k, hk, q⟩ := finT_wp h1
  exact ⟨k, truth_of S1 r1 hk, q _ H1 F1 e1 S1 (Rp.bl (K := K) (F := F1))⟩
/-- a branch behind a test -/
theorem d_ite {α β : Type} {RR : Hp → Hp → Hp → DL.Env → L2.St → α → β → Prop} {Q : β → Hp → Prop} {ec : DL.Env → Res Bool} {ea eb : DL.Env → Res α} (h : tG K cls W RR (fun ρ => (ec ρ).bind fun k ρ => if k then ea ρ else eb ρ) σ H Q) :
    tDT K cls W ec σ H fun c H1 => if c = true then tG K cls W RR ea σ H1 Q else tG K cls W RR eb σ H1 Q := by
  obtain ⟨P, F, ρ, S, h⟩ := h
  refine tG.step S (wp_bind h) fun k ρ1 c H1 F1 h1 e1 S1 r1 => ?_
  subst r1
  cases k with
  | true => rw [if_pos rfl] at h1 ⊢; exact tG.step S1 (wp_next e1 h1) fun y ρ2 yv H2 F2 g e2 S2 r2 => g yv H2 F2 (e1.trans e2) S2 r2
  | false => rw [if_neg (by decide)] at h1 ⊢; exact tG.step S1 (wp_next e1 h1) fun y ρ2 yv H2 F2 g e2 S2 r2 => g yv H2 F2 (e1.trans e2) S2 r2
theorem d_bl {Q : Bool → Hp → Prop} {b : Bool} (h : tDT K cls W (fun ρ => .ok b ρ) σ H Q) : Q b H := by
  obtain ⟨P, F, ρ, S, h⟩ := h
  exact h b H F (.refl _) S rfl
theorem d_ifB {Q : Bool → Hp → Prop} {c b : Bool} {et : DL.Env → Res Bool} (h : if c = true then tDT K cls W et σ H Q else tDT K cls W (fun ρ => .ok b ρ) σ H Q) : if c = true then tDT K cls W et σ H Q else Q b H := by
  cases c with
  | true => exact h
  | false => rw [if_neg (by decide)] at h ⊢; exact d_bl h
theorem d_ifB' {Q : Bool → Hp → Prop} {c b : Bool} {et : DL.Env → Res Bool} (h : if c = true then tDT K cls W (fun ρ => .ok b ρ) σ H Q else tDT K cls W et σ H Q) : if c = true then Q b H else tDT K cls W et σ H Q := by
  cases c with
  | false => exact h
  | true => rw [if_pos rfl] at h ⊢; exact d_bl h
theorem d_tnot {Q : Bool → Hp → Prop} {et : DL.Env → Res Bool} (h : tDT K cls W (fun ρ => (et ρ).bind fun k ρ => .ok (!k) ρ) σ H Q) : tNot (tDT K cls W et) σ H Q := by
  unfold tNot
  obtain ⟨P, F, ρ, S, h⟩ := h
  refine tG.step S (wp_bind h) fun k ρ1 c H1 F1 h1 e1 S1 r1 => ?_
  subst r1
  exact h1 _ H1 F1 e1 S1 rfl
/-! ### lists of arguments -/
theorem d_nil {Q : List V → Hp → Prop} (h : tDA K cls W (fun ρ => .ok [] ρ) σ H Q) : tNil σ H Q := by
  obtain ⟨P, F, ρ, S, h⟩ := h
  exact h [] H F (.refl _) S .nil
theorem d_cons {Q : List V → Hp → Prop} {ea : DL.Env → Res Vl} {es : DL.Env → Res (List D)} (h : tDA K cls W (fun ρ => (ea ρ).bind fun v ρ => (freeze v ρ).bind fun d ρ => (es ρ).bind fun ds ρ => .ok (d :: ds) ρ) σ H Q) :
    tCons (tD K cls W ea) (tDA K cls W es) σ H Q := by
  obtain ⟨P, F, ρ, S, h⟩ := h
  refine tG.step S (wp_bind h) fun x ρ1 xv H1 F1 h1 e1 S1 r1 => ?_
  obtain ⟨F1', e1', S1', rs1⟩ := S1.settle r1
  rcases freeze_cases x ρ1 with ⟨d, ρ2, hf⟩ | hf
  · rw [hf] at h1
    obtain ⟨F2, e2, S2, rd⟩ := S1'.freeze rs1 hf
    refine tG.step S2 (wp_next ((e1.trans e1').trans e2) (wp_bind h1)) fun ds ρ3 vs H3 F3 h3 e3 S3 r3 => ?_
    exact h3 _ H3 F3 (((e1.trans e1').trans e2).trans e3) S3 (.cons (Rp.mono e3 _ _ rd) r3)
  · rw [hf] at h1
    exact False.elim h1
theorem d_vnil {Q : List V → Hp → Prop} (h : tDV K cls W (fun ρ => .ok [] ρ) σ H Q) : tNil σ H Q := by
  obtain ⟨P, F, ρ, S, h⟩ := h
  exact h [] H F (.refl _) S rfl
theorem d_vcons {Q : List V → Hp → Prop} {ea : DL.Env → Res Vl} {es : DL.Env → Res (List Vl)} (h : tDV K cls W (fun ρ => (ea ρ).bind fun v ρ => (es ρ).bind fun vs ρ => .ok (v :: vs) ρ) σ H Q) :
    tCons (tD K cls W ea) (tDV K cls W es) σ H Q := by
  obtain ⟨P, F, ρ, S, h⟩ := h
  refine tG.step S (wp_bind h) fun x ρ1 xv H1 F1 h1 e1 S1 r1 => ?_
  obtain ⟨F1', e1', S1', rs1⟩ := S1.settle r1
  refine tG.step S1' (wp_next (e1.trans e1') (wp_bind h1)) fun ds ρ3 vs H3 F3 h3 e3 S3 r3 => ?_
  exact h3 _ H3 F3 ((e1.trans e1').trans e3) S3 ⟨_, _, rfl, rs1.mono e3, r3⟩
theorem d_tup {Q : VK} {es : DL.Env → Res (List D)} (h : tD K cls W (fun ρ => (es ρ).bind fun ds ρ => if ds.length ≤ LIM then .ok (.val (.tup ds)) ρ else .stuck) σ H Q) : tTup (tDA K cls W es) σ H Q := by
  unfold tTup
  obtain ⟨P, F, ρ, S, h⟩ := h
  refine tG.step S (wp_bind h) fun ds ρ1 vs H1 F1 h1 e1 S1 r1 => ?_
  by_cases hl : ds.length ≤ LIM
  · rw [if_pos hl] at h1
    refine ⟨by rw [r1.len, ← LIM_eq]; exact hl, fun p hp => ?_⟩
    obtain ⟨e3, S3, rv⟩ := (NewR.tup (K := K) hp r1).sr S1
    exact h1 _ _ _ (e1.trans e3) S3 rv
  · rw [if_neg hl] at h1; exact False.elim h1
theorem d_lst {Q : VK} {es : DL.Env → Res (List D)} (h : tD K cls W (fun ρ => (es ρ).bind fun ds ρ => if ds.length ≤ LIM then .ok (.own ds) ρ else .stuck) σ H Q) : tLst (tDA K cls W es) σ H Q := by
  unfold tLst
  obtain ⟨P, F, ρ, S, h⟩ := h
  refine tG.step S (wp_bind h) fun ds ρ1 vs H1 F1 h1 e1 S1 r1 => ?_
  by_cases hl : ds.length ≤ LIM
  · rw [if_pos hl] at h1
    refine ⟨by rw [r1.len, ← LIM_eq]; exact hl, fun p hp => ?_⟩
    obtain ⟨e3, S3, rv⟩ := (NewR.lst (K := K) (F := F1) hp r1).sr S1
    exact h1 _ _ _ (e1.trans e3) S3 rv
  · rw [if_neg hl] at h1; exact False.elim h1
/-- a built-in's call -/
def finB (f : List D → Option Vl) (vs : List Vl) : DL.Env → Res Vl := fun ρ => match vs.mapM (deref ρ) with
  | some ds => lft ρ (f ds)
  | none => .stuck
theorem d_bi {Q : VK} {f : List D → Option Vl} {es : DL.Env → Res (List Vl)} (h : tD K cls W (fun ρ => (es ρ).bind fun vs ρ => finB f vs ρ) σ H Q) : tCB (callD K f) (tDV K cls W es) σ H Q := by
  obtain ⟨P, F, ρ, S, h⟩ := h
  refine tG.step S (wp_bind h) fun rs ρ1 vs H1 F1 h1 e1 S1 r1 => ?_
  unfold finB at h1
  split at h1
  · rename_i ds hd
    obtain ⟨r, hf, q⟩ := wp_lft h1
    refine ⟨F1, ds, r, S1.fh, RSL.top S1 r1 hd, hf, fun v F' H' n => ?_⟩
    obtain ⟨e3, S3, rv⟩ := n.sr S1
    exact q v H' F' (e1.trans e3) S3 rv
  · exact False.elim h1
/-- isinstance -/
def finI (ts : List Ty) (x : Vl) : DL.Env → Res Vl := fun ρ => match deref ρ x with
  | some d => .ok (.val (.bl (ts.any (isTy d)))) ρ
  | none => .stuck
theorem finI_wp {ts : List Ty} {x : Vl} {Q : Vl → DL.Env → Prop} {E : Nat → DL.Env → Prop} (h : (finI ts x ρ).wp Q E) : ∃ d, deref ρ x = some d ∧ Q (.val (.bl (ts.any (isTy d)))) ρ := by
  unfold finI at h
  split at h
  · rename_i d e; exact ⟨d, e, h⟩
  · exact False.elim h
theorem d_isi1 {Q : VK} {t : Ty} {ea : DL.Env → Res Vl} (h : tD K cls W (fun ρ => (ea ρ).bind fun x ρ => finI [t] x ρ) σ H Q) : tCB (rIsi K) (tCons (tD K cls W ea) (tCons (tC (.ty (tyName t))) tNil)) σ H Q := by
  obtain ⟨P, F, ρ, S, h⟩ := h
  refine tG.step S (wp_bind h) fun x ρ1 xv H1 F1 h1 e1 S1 r1 => ?_
  obtain ⟨F1', e1', S1', rs1⟩ := S1.settle r1
  obtain ⟨d, hd, q⟩ := finI_wp h1
  refine ⟨xv, .ty (tyName t), .type (dTy d), .type (tyName t), isTy d t, rfl, .ty _, tyX_of S1'.fh (S1'.top rs1 hd), kit_ty (kit_isTy d t), ?_⟩
  have := q (.bl ([t].any (isTy d))) H1 F1 e1 S1 (Rp.bl (K := K) (F := F1))
  rw [show [t].any (isTy d) = isTy d t by simp] at this
  exact this
def tTys : List Ty → TA
  | [] => tNil
  | t :: ts => tCons (tC (.ty (tyName t))) (tTys ts)
theorem tTys_all : ∀ (ts : List Ty) {σ : L2.St} {H : Hp} {Q : List V → Hp → Prop}, Q (ts.map fun t => V.ty (tyName t)) H → tTys ts σ H Q
  | [], _, _, _, h => h
  | t :: ts, _, _, _, h => tTys_all ts h
theorem clsV_all : ∀ ts : List Ty, Paired ClsV (ts.map fun t => V.ty (tyName t)) (ts.map fun t => Value.type (tyName t))
  | [] => .nil
  | t :: ts => .cons (.ty _) (clsV_all ts)
theorem d_isiT {Q : VK} {ts : List Ty} (hl : ts.length ≤ LIM) {ea : DL.Env → Res Vl} (h : tD K cls W (fun ρ => (ea ρ).bind fun x ρ => finI ts x ρ) σ H Q) : tCB (rIsiT K) (tCons (tD K cls W ea) (tCons (tTup (tTys ts)) tNil)) σ H Q := by
  obtain ⟨P, F, ρ, S, h⟩ := h
  refine tG.step S (wp_bind h) fun x ρ1 xv H1 F1 h1 e1 S1 r1 => ?_
  obtain ⟨F1', e1', S1', rs1⟩ := S1.settle r1
  obtain ⟨d, hd, q⟩ := finI_wp h1
  refine tTys_all ts ⟨by rw [List.length_map, ← LIM_eq]; exact hl, fun p hp => ?_⟩
  have S2 := S1.growH (o := .tup (ts.map fun t => V.ty (tyName t))) hp
  have hF2 : Same F1' (upd H1 p (.tup (ts.map fun t => V.ty (tyName t)))) := S1'.fh.trans (same_upd hp)
  have ht : Top K F1' (upd H1 p (.tup (ts.map fun t => V.ty (tyName t)))) d xv := by
    have t0 := S1'.top rs1 hd
    cases d with
    | lst ds => obtain ⟨a, vs, e2, e3, e4⟩ := t0; exact ⟨a, vs, e2, (same_upd hp).seq e3, e4⟩
    | _ => exact t0
  exact ⟨xv, p, _, .type (dTy d), _, ts.any (isTy d), rfl, upd_same, clsV_all ts, tyX_of hF2 ht, kitAny_of d ts, q _ _ F1 e1 S2 (Rp.bl (K := K) (F := F1))⟩
/-! ### slices -/
theorem part_some {n : Bool} {y : Vl} {d : D} (h : partV n y = some d) : y = .val d ∧ ((n = true ∧ d = .non) ∨ (n = false ∧ ∃ i, d = .int i)) := by
  unfold partV at h
  split at h
  · cases h; exact ⟨rfl, .inl ⟨rfl, rfl⟩⟩
  · cases h; exact ⟨rfl, .inr ⟨rfl, _, rfl⟩⟩
  · cases h
def finS (n m : Bool) (eh : DL.Env → Res Vl) (x y : Vl) : DL.Env → Res Vl := fun ρ => match partV n y with
    | some dy => (eh ρ).bind fun z ρ => match partV m z with
      | some dz => match deref ρ x with
        | some dx => lft ρ (sliceop dx dy dz)
        | none => .stuck
      | none => .stuck
    | none => .stuck
def finS2 (m : Bool) (x : Vl) (dy : D) (z : Vl) : DL.Env → Res Vl := fun ρ => match partV m z with
      | some dz => match deref ρ x with
        | some dx => lft ρ (sliceop dx dy dz)
        | none => .stuck
      | none => .stuck
theorem finS_wp {n m : Bool} {eh : DL.Env → Res Vl} {x y : Vl} {Q : Vl → DL.Env → Prop} {E : Nat → DL.Env → Prop} (h : (finS n m eh x y ρ).wp Q E) : ∃ dy, partV n y = some dy ∧ ((eh ρ).bind fun z ρ => finS2 m x dy z ρ).wp Q E := by
  unfold finS at h
  split at h
  · rename_i dy e; exact ⟨dy, e, h⟩
  · exact False.elim h
theorem finS2_wp {m : Bool} {x z : Vl} {dy : D} {Q : Vl → DL.Env → Prop} {E : Nat → DL.Env → Prop} (h : (finS2 m x dy z ρ).wp Q E) : ∃ dz dx r, partV m z = some dz ∧ deref ρ x = some dx ∧ sliceop dx dy dz = some r ∧ Q r ρ := by
  unfold finS2 at h
  split at h
  · rename_i dz e
    split at h
    · rename_i dx e2
      obtain ⟨r, e4, q⟩ := wp_lft h
      exact ⟨dz, dx, r, e, e2, e4, q⟩
    · exact False.elim h
  · exact False.elim h
def tEnd (n : Bool) (t : TE) : TO := if n then tNoPart else tPart t
theorem d_end {n : Bool} {el : DL.Env → Res Vl} (hn : n = true → el = fun ρ => .ok (.val .non) ρ) {G : Vl → DL.Env → Prop} {Q : Option Int → Hp → Prop} (S : SR K P F ρ σ H) (h : (el ρ).wp G (exD K cls W P F σ))
    (hp : ∀ y ρ', G y ρ' → ∃ d, partV n y = some d) (k : ∀ y ρ' d o H' F', G y ρ' → partV n y = some d → partO d = some o → Same F F' → SR K P F' ρ' σ H' → Q o H') : tEnd n (tD K cls W el) σ H Q := by
  cases n with
  | true =>
    rw [hn rfl] at h
    obtain ⟨d, hd⟩ := hp _ _ h
    obtain ⟨e1, e2⟩ := part_some hd
    cases e1
    exact k _ _ .non none H F h hd rfl (.refl _) S
  | false =>
    refine tG.step S h fun y ρ1 yv H1 F1 h1 e1 S1 r1 => ?_
    obtain ⟨d, hd⟩ := hp _ _ h1
    obtain ⟨e2, e3⟩ := part_some hd
    rcases e3 with ⟨z, _⟩ | ⟨_, i, rfl⟩
    · cases z
    · subst e2
      exact ⟨i, Rp.int_inv (K := K) (F := F1) r1, k _ _ (.int i) (some i) H1 F1 h1 hd rfl e1 S1⟩
theorem d_slice {Q : VK} {n m : Bool} {ea el eh : DL.Env → Res Vl} (hn : n = true → el = fun ρ => .ok (.val .non) ρ) (hm : m = true → eh = fun ρ => .ok (.val .non) ρ)
    (h : tD K cls W (fun ρ => (ea ρ).bind fun x ρ => (el ρ).bind fun y ρ => finS n m eh x y ρ) σ H Q) : tSl (rSlD K) (tD K cls W ea) (tEnd n (tD K cls W el)) (tEnd m (tD K cls W eh)) σ H Q := by
  unfold tSl
  obtain ⟨P, F, ρ, S, h⟩ := h
  refine tG.step S (wp_bind h) fun x ρ1 xv H1 F1 h1 e1 S1 r1 => ?_
  obtain ⟨F1', e1', S1', rs1⟩ := S1.settle r1
  refine d_end hn S1' (wp_next (e1.trans e1') (wp_bind h1)) (fun y ρ2 g => let ⟨d, hd, _⟩ := finS_wp g; ⟨d, hd⟩) fun y ρ2 dy o H2 F2 g hd ho e2 S2 => ?_
  obtain ⟨dy', hd', g2⟩ := finS_wp g
  rw [hd] at hd'
  cases hd'
  refine d_end hm S2 (wp_next ((e1.trans e1').trans e2) (wp_bind g2)) (fun z ρ3 g => let ⟨d, _, _, hd, _⟩ := finS2_wp g; ⟨d, hd⟩) fun z ρ3 dz o2 H3 F3 g3 hd3 ho3 e3 S3 => ?_
  obtain ⟨dz', dx, r, hd4, hx, hs, q⟩ := finS2_wp g3
  rw [hd3] at hd4
  cases hd4
  refine ⟨F3, dx, dy, dz, r, S3.fh, S3.top (rs1.mono (e2.trans e3)) hx, ho, ho3, hs, fun v F' H' nn => ?_⟩
  obtain ⟨e4, S4, rv⟩ := nn.sr S3
  exact q v H' F' ((((e1.trans e1').trans e2).trans e3).trans e4) S4 rv
/-- a op1 b op2 c -/
def finC2 (op : Cop) (y z : Vl) : DL.Env → Res Vl := fun ρ => match deref ρ y, deref ρ z with
  | some dy, some dz => lft ρ ((cmpop op dy dz).map fun b => .val (.bl b))
  | _, _ => .stuck
def finC (o1 o2 : Cop) (ec : DL.Env → Res Vl) (x y : Vl) : DL.Env → Res Vl := fun ρ => match deref ρ x, deref ρ y with
    | some dx, some dy => match cmpop o1 dx dy with
      | some true => (ec ρ).bind fun z ρ => finC2 o2 y z ρ
      | some false => .ok (.val (.bl false)) ρ
      | none => .stuck
    | _, _ => .stuck
theorem finC2_wp {op : Cop} {y z : Vl} {Q : Vl → DL.Env → Prop} {E : Nat → DL.Env → Prop} (h : (finC2 op y z ρ).wp Q E) : ∃ dy dz r, deref ρ y = some dy ∧ deref ρ z = some dz ∧ cmpV op dy dz = some r ∧ Q r ρ := by
  unfold finC2 at h
  split at h
  · rename_i dx dy e1 e2
    obtain ⟨r, e3, q⟩ := wp_lft h
    exact ⟨dx, dy, r, e1, e2, e3, q⟩
  · exact False.elim h
theorem finC_wp {o1 o2 : Cop} {ec : DL.Env → Res Vl} {x y : Vl} {Q : Vl → DL.Env → Prop} {E : Nat → DL.Env → Prop} (h : (finC o1 o2 ec x y ρ).wp Q E) :
    ∃ dx dy b, deref ρ x = some dx ∧ deref ρ y = some dy ∧ cmpop o1 dx dy = some b ∧ (if b = true then ((ec ρ).bind fun z ρ => finC2 o2 y z ρ).wp Q E else Q (.val (.bl false)) ρ) := by
  unfold finC at h
  split at h
  · rename_i dx dy e1 e2
    split at h
    · rename_i e3; exact ⟨dx, dy, true, e1, e2, e3, h⟩
    · rename_i e3; exact ⟨dx, dy, false, e1, e2, e3, h⟩
    · exact False.elim h
  · exact False.elim h
theorem d_chain {Q : VK} {o1 o2 : Cop} {ea eb ec : DL.Env → Res Vl} (h : tD K cls W (fun ρ => (ea ρ).bind fun x ρ => (eb ρ).bind fun y ρ => finC o1 o2 ec x y ρ) σ H Q) :
    tChain (rD K (cmpV o1)) (rD K (cmpV o2)) (tD K cls W ea) (tD K cls W eb) (tD K cls W ec) σ H Q := by
  unfold tChain
  obtain ⟨P, F, ρ, S, h⟩ := h
  refine tG.step S (wp_bind h) fun x ρ1 xv H1 F1 h1 e1 S1 r1 => ?_
  obtain ⟨F1', e1', S1', rs1⟩ := S1.settle r1
  refine tG.step S1' (wp_next (e1.trans e1') (wp_bind h1)) fun y ρ2 yv H2 F2 h2 e2 S2 r2 => ?_
  obtain ⟨F2', e2', S2', rs2⟩ := S2.settle r2
  obtain ⟨dx, dy, b, hx, hy, hb, q⟩ := finC_wp h2
  have e02 := (((e1.trans e1').trans e2).trans e2')
  refine ⟨F2', dx, dy, .val (.bl b), S2'.fh, S2'.top (rs1.mono (e2.trans e2')) hx, S2'.top rs2 hy, by unfold cmpV; rw [hb]; rfl, fun v F' H' n => ?_⟩
  obtain ⟨e3, S3, rv⟩ := n.sr S2'
  refine ⟨b, Rp.bl_inv (K := K) (F := F') rv, ?_⟩
  cases b with
  | false => rw [if_neg (by decide)] at q ⊢; exact q _ H' F' (e02.trans e3) S3 (Rp.bl (K := K) (F := F'))
  | true =>
    rw [if_pos rfl] at q ⊢
    refine tG.step S3 (wp_next (e02.trans e3) (wp_bind q)) fun z ρ4 zv H4 F4 h4 e4 S4 r4 => ?_
    obtain ⟨F4', e4', S4', rs4⟩ := S4.settle r4
    obtain ⟨dy', dz, r, hy', hz, hf, q4⟩ := finC2_wp h4
    refine ⟨F4', dy', dz, r, S4'.fh, S4'.top (rs2.mono ((e3.trans e4).trans e4')) hy', S4'.top rs4 hz, hf, fun v5 F5 H5 n5 => ?_⟩
    obtain ⟨e5, S5, rv5⟩ := n5.sr S4'
    exact q4 v5 H5 F5 ((((e02.trans e3).trans e4).trans e4').trans e5) S5 rv5
/-- xs[::-1] -/
def finR (x : Vl) : DL.Env → Res Vl := fun ρ => match deref ρ x with
  | some dx => lft ρ (revop dx)
  | none => .stuck
theorem d_rev {Q : VK} {ea : DL.Env → Res Vl} (h : tD K cls W (fun ρ => (ea ρ).bind fun x ρ => finR x ρ) σ H Q) : tRevL K (tD K cls W ea) σ H Q := by
  unfold tRevL
  obtain ⟨P, F, ρ, S, h⟩ := h
  refine tG.step S (wp_bind h) fun x ρ1 xv H1 F1 h1 e1 S1 r1 => ?_
  obtain ⟨F1', e1', S1', rs1⟩ := S1.settle r1
  unfold finR at h1
  split at h1
  · rename_i dx hx
    obtain ⟨r, hr, q⟩ := wp_lft h1
    have t := S1'.top rs1 hx
    cases dx with
    | lst ds =>
      cases hr
      obtain ⟨a, vs, e, hs, hv⟩ := t
      refine ⟨a, vs, e, hs, fun p hp => ?_⟩
      obtain ⟨e3, S3, rv⟩ := (NewR.lst (K := K) (F := F1') hp hv.reverse).sr S1'
      exact q _ _ _ ((e1.trans e1').trans e3) S3 rv
    | _ => cases hr
  · exact False.elim h1
/-- sorted(set(x)) -/
def finU (x : Vl) : DL.Env → Res Vl := fun ρ => match deref ρ x with
  | some dx => lft ρ (ssetop dx)
  | none => .stuck
theorem d_sset {w : World} {Q : VK} {ea : DL.Env → Res Vl} (h : tD K cls W (fun ρ => (ea ρ).bind fun x ρ => finU x ρ) σ H Q) : tCB (rSortedSet w) (tCons (tCB (rSetOfL K w) (tCons (tD K cls W ea) tNil)) tNil) σ H Q := by
  obtain ⟨P, F, ρ, S, h⟩ := h
  refine tG.step S (wp_bind h) fun x ρ1 xv H1 F1 h1 e1 S1 r1 => ?_
  obtain ⟨F1', e1', S1', rs1⟩ := S1.settle r1
  unfold finU at h1
  split at h1
  · rename_i dx hx
    obtain ⟨r, hr, q⟩ := wp_lft h1
    have t := S1'.top rs1 hx
    cases dx with
    | lst ds =>
      simp only [ssetop] at hr
      split at hr
      · rename_i ns hn
        split at hr
        · rename_i h64
          cases hr
          obtain ⟨a, vs, rfl, hs, hv⟩ := t
          have ev := ints_rp hn hv
          subst ev
          refine ⟨a, ns, rfl, hs, h64, fun p c hp hcn => ⟨p, _, c, rfl, upd_same, by omega, fun ms p2 hms hme hlen hp2 => ?_⟩⟩
          have e : ms = setI ns := rising_one hms (setI_lt ns) fun k => by rw [hme k, setI_mem]; simp
          subst e
          have S2 := S1'.growH (o := SetO w p (fun j => decide (j ∈ ns)) c) hp
          obtain ⟨e3, S3, rv⟩ := (NewR.lst (K := K) (F := F1') hp2 (RpL.ints (setI ns))).sr S2
          exact q _ _ _ ((e1.trans e1').trans e3) S3 rv
        · cases hr
      · cases hr
    | _ => cases hr
  · exact False.elim h1
theorem rpl_ints {F : Hp} {ds : List D} {vs : List V} (h : RpL K F ds vs) {i : Int} (e : ds = [.int i]) : vs = [.int i] := by
  subst e
  obtain ⟨v, r, e1, e2, e3⟩ := h.cons_inv
  rw [e1, Rp.int_inv e2, e3.nil_inv]
theorem rpl_ints2 {F : Hp} {ds : List D} {vs : List V} (h : RpL K F ds vs) {i j : Int} (e : ds = [.int i, .int j]) : vs = [.int i, .int j] := by
  subst e
  obtain ⟨v, r, e1, e2, e3⟩ := h.cons_inv
  rw [e1, Rp.int_inv e2, rpl_ints e3 rfl]
theorem rangeop_inv {ds : List D} {xs : List D} (h : rangeop ds = some xs) : (∃ j, ds = [.int j] ∧ in62 j = true ∧ xs = rangeL 0 j.toNat) ∨ ∃ i j, ds = [.int i, .int j] ∧ in62 i = true ∧ in62 j = true ∧ xs = rangeL i (j - i).toNat := by
  unfold rangeop at h
  split at h
  · split at h
    · cases h; exact .inl ⟨_, rfl, by assumption, rfl⟩
    · cases h
  · split at h
    · rename_i hc
      cases h
      rw [Bool.and_eq_true] at hc
      exact .inr ⟨_, _, rfl, hc.1, hc.2, rfl⟩
    · cases h
  · cases h
theorem in62_iff {i : Int} (h : in62 i = true) : -(2 ^ 62) ≤ i ∧ i < 2 ^ 62 := by
  unfold in62 at h
  rw [Bool.and_eq_true, decide_eq_true_eq, decide_eq_true_eq] at h
  exact h
theorem rpl_range {F : Hp} (a b : Int) : RpL K F (rangeL a (b - a).toNat) (rgV a b) := by
  unfold rangeL rgV
  generalize (List.range (b - a).toNat) = l
  induction l with
  | nil => exact .nil
  | cons k l ih => exact .cons .int ih
def finG (ds : List D) : DL.Env → Res Vl := fun ρ => match rangeop ds with
  | some xs => if xs.length ≤ LIM then .ok (.own xs) ρ else .stuck
  | none => .stuck
theorem finG_wp {ds : List D} {Q : Vl → DL.Env → Prop} {E : Nat → DL.Env → Prop} (h : (finG ds ρ).wp Q E) : ∃ xs, rangeop ds = some xs ∧ xs.length ≤ LIM ∧ Q (.own xs) ρ := by
  unfold finG at h
  split at h
  · rename_i xs e
    by_cases hl : xs.length ≤ LIM
    · rw [if_pos hl] at h; exact ⟨xs, e, hl, h⟩
    · rw [if_neg hl] at h; exact False.elim h
  · exact False.elim h
theorem d_rg1 {Q : VK} {ea : DL.Env → Res Vl} {es : DL.Env → Res (List D)} (hes : es = fun ρ => .ok [] ρ) (h : tD K cls W (fun ρ => ((ea ρ).bind fun v ρ => (freeze v ρ).bind fun d ρ => (es ρ).bind fun ds ρ => .ok (d :: ds) ρ).bind fun ds ρ => finG ds ρ) σ H Q) :
    tLstRg (tRg1 (tD K cls W ea)) σ H Q := by
  have g : tDA K cls W (fun ρ => (ea ρ).bind fun v ρ => (freeze v ρ).bind fun d ρ => (es ρ).bind fun ds ρ => .ok (d :: ds) ρ) σ H fun vs H1 => (∃ i, vs = [.int i] ∧ RgOk 0 i ∧ ∀ q, H1 q = none → Q (.ref q) (upd H1 q (.lst (rgV 0 i)))) ∨ ∃ i j, vs = [.int i, .int j] := by
    obtain ⟨P, F, ρ, S, h⟩ := h
    refine tG.step S (wp_bind h) fun ds ρ1 vs H1 F1 h1 e1 S1 r1 => ?_
    obtain ⟨xs, hx, hl, q⟩ := finG_wp h1
    rcases rangeop_inv hx with ⟨j, hd, hj, rfl⟩ | ⟨i, j, hd, _, _, rfl⟩
    · refine .inl ⟨j, rpl_ints r1 hd, ?_, fun p hp => ?_⟩
      · rw [rangeL_len] at hl
        obtain ⟨j1, j2⟩ := in62_iff hj
        refine ⟨by omega, by omega, j1, j2, ?_⟩
        have : LIM = 2 ^ 24 := rfl
        rw [this] at hl
        simpa using hl
      · have e0 : j.toNat = (j - 0).toNat := by simp
        rw [e0] at q
        obtain ⟨e3, S3, rv⟩ := (NewR.lst (K := K) (F := F1) hp (rpl_range 0 j)).sr S1
        exact q _ _ _ (e1.trans e3) S3 rv
    · exact .inr ⟨i, j, rpl_ints2 r1 hd⟩
  have g2 := d_cons g
  unfold tLstRg tRg1
  refine tG.mono g2 fun x H1 g3 => ?_
  rw [hes] at g3
  rcases d_nil g3 with ⟨i, e, k1, k2⟩ | ⟨i, j, e⟩
  · injection e with e e'
    exact ⟨i, e, k1, k2⟩
  · injection e with e e'
    cases e'
theorem d_rg2 {Q : VK} {ea eb : DL.Env → Res Vl} {es : DL.Env → Res (List D)} (hes : es = fun ρ => .ok [] ρ)
    (h : tD K cls W (fun ρ => ((ea ρ).bind fun v ρ => (freeze v ρ).bind fun d ρ => ((eb ρ).bind fun v ρ => (freeze v ρ).bind fun d ρ => (es ρ).bind fun ds ρ => .ok (d :: ds) ρ).bind fun ds ρ => .ok (d :: ds) ρ).bind fun ds ρ => finG ds ρ) σ H Q) :
    tLstRg (tRg2 (tD K cls W ea) (tD K cls W eb)) σ H Q := by
  have g : tDA K cls W (fun ρ => (ea ρ).bind fun v ρ => (freeze v ρ).bind fun d ρ => ((eb ρ).bind fun v ρ => (freeze v ρ).bind fun d ρ => (es ρ).bind fun ds ρ => .ok (d :: ds) ρ).bind fun ds ρ => .ok (d :: ds) ρ) σ H
      fun vs H1 => (∃ i j, vs = [.int i, .int j] ∧ RgOk i j ∧ ∀ q, H1 q = none → Q (.ref q) (upd H1 q (.lst (rgV i j)))) ∨ ∃ i, vs = [.int i] := by
    obtain ⟨P, F, ρ, S, h⟩ := h
    refine tG.step S (wp_bind h) fun ds ρ1 vs H1 F1 h1 e1 S1 r1 => ?_
    obtain ⟨xs, hx, hl, q⟩ := finG_wp h1
    rcases rangeop_inv hx with ⟨j, hd, hj, rfl⟩ | ⟨i, j, hd, hi, hj, rfl⟩
    · exact .inr ⟨j, rpl_ints r1 hd⟩
    · refine .inl ⟨i, j, rpl_ints2 r1 hd, ?_, fun p hp => ?_⟩
      · rw [rangeL_len] at hl
        obtain ⟨i1, i2⟩ := in62_iff hi
        obtain ⟨j1, j2⟩ := in62_iff hj
        refine ⟨i1, i2, j1, j2, ?_⟩
        have : LIM = 2 ^ 24 := rfl
        rw [this] at hl
        exact hl
      · obtain ⟨e3, S3, rv⟩ := (NewR.lst (K := K) (F := F1) hp (rpl_range i j)).sr S1
        exact q _ _ _ (e1.trans e3) S3 rv
  have g2 := d_cons g
  unfold tLstRg tRg2
  refine tG.mono g2 fun x H1 g3 => ?_
  refine tG.mono (d_cons g3) fun y H2 g4 => ?_
  rw [hes] at g4
  rcases d_nil g4 with ⟨i, j, e, k1, k2⟩ | ⟨i, e⟩
  · injection e with e e'
    injection e' with e' e''
    exact ⟨i, j, e, e', k1, k2⟩
  · injection e with e e'
    cases e'
end
end DL

end
section
set_option maxRecDepth 100000
set_option maxHeartbeats 1000000
/-! DL, part 9: the lists' own methods, calls, comprehensions. -/
namespace DL
open PySem PySem.Spec PyProof.Rows L2
/-! ### a list's methods -/
theorem slotMut_some {ρ : DL.Env} {i : Nat} {ds : List D} (h : slotMut ρ i = some ds) : ρ[i]? = some (some (.mut ds)) := by
  unfold slotMut at h
  split at h
  · rename_i q; cases h; exact q
  · cases h
section
variable {K : PySem.W.Frag} {cls : Nat → Addr} {W : WX} {σ : L2.St} {H P F : Hp} {ρ : DL.Env}
def finA (i : Nat) (d : D) : DL.Env → Res Vl := fun ρ => match slotMut ρ i with
      | some ds => if ds.length < LIM then .ok (.val .non) (ρ.set i (some (.mut (ds ++ [d])))) else .stuck
      | none => .stuck
def semOn (i : Nat) (f : DL.Env → Res Vl) : DL.Env → Res Vl := fun ρ => match slotMut ρ i with
    | none => .stuck
    | some _ => f ρ
theorem semOn_wp {i : Nat} {f : DL.Env → Res Vl} {Q : Vl → DL.Env → Prop} {E : Nat → DL.Env → Prop} (h : (semOn i f ρ).wp Q E) : (∃ ds, slotMut ρ i = some ds) ∧ (f ρ).wp Q E := by
  unfold semOn at h
  split at h
  · exact False.elim h
  · rename_i ds e; exact ⟨⟨ds, e⟩, h⟩
theorem finA_wp {i : Nat} {d : D} {Q : Vl → DL.Env → Prop} {E : Nat → DL.Env → Prop} (h : (finA i d ρ).wp Q E) : ∃ ds, ρ[i]? = some (some (.mut ds)) ∧ ds.length < LIM ∧ Q (.val .non) (ρ.set i (some (.mut (ds ++ [d])))) := by
  unfold finA at h
  split at h
  · rename_i ds e
    by_cases hl : ds.length < LIM
    · rw [if_pos hl] at h; exact ⟨ds, slotMut_some e, hl, h⟩
    · rw [if_neg hl] at h; exact False.elim h
  · exact False.elim h
/-- a value is kept -/
theorem kept_wp {α : Type} {x : Vl} {v : V} {f : D → DL.Env → Res α} {Q : α → DL.Env → Prop} (S : SR K P F ρ σ H) (r : RV K P F H ρ σ x v) (h : ((freeze x ρ).bind f).wp Q (exD K cls W P F σ)) :
    ∃ d ρ' F', Same F F' ∧ SR K P F' ρ' σ H ∧ Rp K F' d v ∧ (f d ρ').wp Q (exD K cls W P F' σ) := by
  obtain ⟨F1, e1, S1, rs⟩ := S.settle r
  rcases freeze_cases x ρ with ⟨d, ρ2, hf⟩ | hf
  · rw [hf] at h
    obtain ⟨F2, e2, S2, rd⟩ := S1.freeze rs hf
    exact ⟨d, ρ2, F2, e1.trans e2, S2, rd, wp_next (e1.trans e2) h⟩
  · rw [hf] at h
    exact False.elim h
theorem d_append {Q : VK} {i : Nat} {ea : DL.Env → Res Vl} (h : tD K cls W (semOn i fun ρ => (ea ρ).bind fun v ρ => (freeze v ρ).bind fun d ρ => finA i d ρ) σ H Q) : tBM K "list" rAppend (tVar i) (tCons (tD K cls W ea) tNil) σ H Q := by
  obtain ⟨P, F, ρ, S, h⟩ := h
  obtain ⟨⟨ds, hs⟩, h⟩ := semOn_wp h
  obtain ⟨a, vs, h1, h2, _⟩ := S.muts i ds (slotMut_some hs)
  refine ⟨_, h1, .inl ⟨rfl, _, SqL.of h2⟩, ?_⟩
  refine tG.step S (wp_bind h) fun x ρ1 xv H1 F1 g1 e1 S1 r1 => ?_
  obtain ⟨d, ρ2, F2, e2, S2, rd, g2⟩ := kept_wp S1 r1 (wp_next e1 g1)
  obtain ⟨es, hi, hl, q⟩ := finA_wp g2
  obtain ⟨a', us, k1, k2, k3, _⟩ := S2.muts i es hi
  rw [h1] at k1
  cases k1
  refine ⟨a, us, xv, rfl, rfl, k2, by rw [k3.len, ← LIM_eq]; exact hl, ?_⟩
  exact q _ _ F2 (e1.trans e2) (S2.write hi h1 (k3.append (.cons rd .nil))) (Rp.non (K := K) (F := F2))
def finP (i : Nat) (v : Vl) : DL.Env → Res Vl := fun ρ => match v, slotMut ρ i with
      | .val (.int k), some ds => if 0 ≤ k ∧ k < ds.length ∧ ds.length ≤ LIM then match ds[k.toNat]? with
          | some d => .ok (.val d) (ρ.set i (some (.mut (ds.eraseIdx k.toNat))))
          | none => .stuck
        else .stuck
      | _, _ => .stuck
theorem finP_wp {i : Nat} {v : Vl} {Q : Vl → DL.Env → Prop} {E : Nat → DL.Env → Prop} (h : (finP i v ρ).wp Q E) : ∃ k ds d, v = .val (.int k) ∧ ρ[i]? = some (some (.mut ds)) ∧ 0 ≤ k ∧ k < ds.length ∧ ds.length ≤ LIM ∧ ds[k.toNat]? = some d ∧ Q (.val d) (ρ.set i (some (.mut (ds.eraseIdx k.toNat)))) := by
  unfold finP at h
  split at h
  · rename_i k ds e
    by_cases hl : 0 ≤ k ∧ k < ds.length ∧ ds.length ≤ LIM
    · rw [if_pos hl] at h
      split at h
      · rename_i d hd; exact ⟨k, ds, d, rfl, slotMut_some e, hl.1, hl.2.1, hl.2.2, hd, h⟩
      · exact False.elim h
    · rw [if_neg hl] at h; exact False.elim h
  · exact False.elim h
theorem d_pop {Q : VK} {i : Nat} {ea : DL.Env → Res Vl} (h : tD K cls W (semOn i fun ρ => (ea ρ).bind fun v ρ => finP i v ρ) σ H Q) : tBM K "list" rPopAt (tVar i) (tCons (tD K cls W ea) tNil) σ H Q := by
  obtain ⟨P, F, ρ, S, h⟩ := h
  obtain ⟨⟨ds, hs⟩, h⟩ := semOn_wp h
  obtain ⟨a, vs, h1, h2, _⟩ := S.muts i ds (slotMut_some hs)
  refine ⟨_, h1, .inl ⟨rfl, _, SqL.of h2⟩, ?_⟩
  refine tG.step S (wp_bind h) fun x ρ1 xv H1 F1 g1 e1 S1 r1 => ?_
  obtain ⟨k, es, d, rfl, hi, l1, l2, l3, hd, q⟩ := finP_wp g1
  obtain ⟨a', us, k1, k2, k3, k4, k5⟩ := S1.muts i es hi
  rw [h1] at k1
  cases k1
  obtain ⟨y, hy, ry⟩ := k3.get hd
  have hlen := k3.len
  have hz : LIM = 16777216 := rfl
  rw [hz] at l3
  refine ⟨a, us, k, k.toNat, y, rfl, ?_, k2, by omega, by omega, ?_, hy, ?_⟩
  · rw [Rp.int_inv (K := K) (F := F1) r1]
  · unfold seqIndex?
    simp only [hlen]
    split <;> simp_all <;> omega
  · have S2 := S1.write hi h1 (k3.erase k.toNat)
    exact q _ _ F1 e1 S2 ry
end
/-! ### list.extend of a list or a tuple -/
theorem list_extendB (l : Addr) (items : Array Value) (n : Nat) (b : Addr) (items2 : Array Value) (n2 : Nat) (tp : Bool) (dd : Option Addr) (sl : Array (Option Value)) (hs0 : ¬(!items.isEmpty && Builtin.List.listTooLong (items.size + items2.size)) = true) (hs1 : items.size ≤ sizeLine) (hs2 : items.size + items2.size ≤ sizeLine + 1) :
    Meets (Builtin.«list.extend» ⟨[.ref l, .ref b], []⟩) (fun _ R s => s.heap.get? l = some { cls := .type "list", dict := none, data := .seq items n, slots := #[] } ∧ s.heap.get? b = some { cls := .type (if tp then "tuple" else "list"), dict := dd, data := .seq items2 n2, slots := sl } ∧ R (.ok (.ret Value.none)) { s with heap := s.heap.update l (Obj.mapSeq fun x => x ++ items2), toks := s.toks }) := by
  cases tp with
  | false =>
    exact .of_wp fun prog w A R s h => by
      obtain ⟨hp, g, d, tk, os⟩ := s; obtain ⟨hl, hb, h⟩ := h; have f1 := AutoSeq1.idx_int; have f2 := AutoSeq1.sub_tuple_tuple; have f3 := AutoSeq1.sub_list_list; have f4 := AutoSeq1.sub_tuple_list; have f5 := AutoSeq1.sub_list_tuple;
      have hz' : (items ++ items2).size ≤ sizeLine + 1 := by rw [Array.size_append]; exact hs2
      wp_walk using (wpAny_updateSeq hl rfl (hz := hs1) (_hz' := hz')), AutoSeq1.wpAny_loadPart' hl, AutoSeq1.wpAny_loadPart' hb; exact ⟨_, rfl, h⟩
  | true =>
    exact .of_wp fun prog w A R s h => by
      obtain ⟨hp, g, d, tk, os⟩ := s; obtain ⟨hl, hb, h⟩ := h; have f1 := AutoSeq1.idx_int; have f2 := AutoSeq1.sub_tuple_tuple; have f3 := AutoSeq1.sub_list_list; have f4 := AutoSeq1.sub_tuple_list; have f5 := AutoSeq1.sub_list_tuple;
      have hz' : (items ++ items2).size ≤ sizeLine + 1 := by rw [Array.size_append]; exact hs2
      wp_walk using (wpAny_updateSeq hl rfl (hz := hs1) (_hz' := hz')), AutoSeq1.wpAny_loadPart' hl, AutoSeq1.wpAny_loadPart' hb; exact ⟨_, rfl, h⟩
def rExtB (K : PySem.W.Frag) : V → List V → Hp → VK → Prop := fun x vs H Q => ∃ (l b : Addr) (tp : Bool) (xs zs : List V), x = .ref l ∧ vs = [.ref b] ∧ H l = some (.lst xs) ∧ SqB tp K H b zs ∧ xs.length + zs.length ≤ sizeLine ∧ Q .non (upd H l (.lst (xs ++ zs)))
section
variable {X : Cx}
theorem mt_extB : MtM X "list.extend" (rExtB X.K) := by
  intro pins s σ H x vs v us Q I rx rv h
  obtain ⟨l, b, tp, xs, zs, rfl, rfl, hH, hB, hz, q⟩ := h
  cases rx
  obtain ⟨u, rfl, ru⟩ := rv.one
  cases ru
  obtain ⟨z, its, n, r, hl, e⟩ := I.lstM hH
  obtain ⟨its2, rv2, p2, hlt⟩ := Inv.seqB I hB
  have l2 := rv2.length
  obtain ⟨n2, dd, sl, e2⟩ : ∃ n2 dd sl, s.heap.get? b = some { cls := .type (if tp then "tuple" else "list"), dict := dd, data := .seq its2.toArray n2, slots := sl } := by
    cases tp with
    | false => obtain ⟨⟨oc, od, dt, sl⟩, e, hc, n2, hd⟩ := (show s.heap.IsList b its2.toArray from p2); simp only at hc hd; subst hc hd; exact ⟨_, _, _, e⟩
    | true => obtain ⟨⟨oc, od, dt, sl⟩, e, hc, n2, hd⟩ := (show s.heap.IsTuple b its2.toArray from p2); simp only at hc hd; subst hc hd; exact ⟨_, _, _, e⟩
  have hsz : its.toArray.size + its2.toArray.size ≤ sizeLine := by rw [List.size_toArray, List.size_toArray]; omega
  have hlong : ¬ (!its.toArray.isEmpty && Builtin.List.listTooLong (its.toArray.size + its2.toArray.size)) = true := by
    have : Builtin.List.listTooLong (its.toArray.size + its2.toArray.size) = false := by
      have hz2 := hsz
      rw [sizeLine_eq] at hz2
      unfold Builtin.List.listTooLong
      exact decide_eq_false (by omega)
    rw [this, Bool.and_false]
    exact Bool.false_ne_true
  refine call_meets PySem.F.slot_list_extend ⟨_, e, rfl⟩ PySem.F.entry_list_extend (PySem.F.args_list_extend_2 _ _)
    (list_extendB l its.toArray n b its2.toArray n2 tp dd sl hlong (by rw [List.size_toArray]; omega) (by omega)) ⟨e, e2, ?_⟩
  refine ⟨.non, _, I.lset (its' := its ++ its2) hH e (by simp) (r.append rv2) ?_, rfl, q⟩
  rw [List.length_append]
  omega
end
section
variable {K : PySem.W.Frag} {cls : Nat → Addr} {W : WX} {σ : L2.St} {H P F : Hp} {ρ : DL.Env}
def finX (i : Nat) (d : D) : DL.Env → Res Vl := fun ρ => match slotMut ρ i, items d with
      | some ds, some xs => if ds.length + xs.length ≤ LIM then .ok (.val .non) (ρ.set i (some (.mut (ds ++ xs)))) else .stuck
      | _, _ => .stuck
theorem finX_wp {i : Nat} {d : D} {Q : Vl → DL.Env → Prop} {E : Nat → DL.Env → Prop} (h : (finX i d ρ).wp Q E) : ∃ ds xs, ρ[i]? = some (some (.mut ds)) ∧ items d = some xs ∧ ds.length + xs.length ≤ LIM ∧ Q (.val .non) (ρ.set i (some (.mut (ds ++ xs)))) := by
  unfold finX at h
  split at h
  · rename_i ds xs e e2
    by_cases hl : ds.length + xs.length ≤ LIM
    · rw [if_pos hl] at h; exact ⟨ds, xs, slotMut_some e, e2, hl, h⟩
    · rw [if_neg hl] at h; exact False.elim h
  · exact False.elim h
theorem d_extend {Q : VK} {i : Nat} {ea : DL.Env → Res Vl} (h : tD K cls W (semOn i fun ρ => (ea ρ).bind fun v ρ => (freeze v ρ).bind fun d ρ => finX i d ρ) σ H Q) : tBM K "list" (rExtB K) (tVar i) (tCons (tD K cls W ea) tNil) σ H Q := by
  obtain ⟨P, F, ρ, S, h⟩ := h
  obtain ⟨⟨ds, hs⟩, h⟩ := semOn_wp h
  obtain ⟨a, vs, h1, h2, _⟩ := S.muts i ds (slotMut_some hs)
  refine ⟨_, h1, .inl ⟨rfl, _, SqL.of h2⟩, ?_⟩
  refine tG.step S (wp_bind h) fun x ρ1 xv H1 F1 g1 e1 S1 r1 => ?_
  obtain ⟨d, ρ2, F2, e2, S2, rd, g2⟩ := kept_wp S1 r1 (wp_next e1 g1)
  obtain ⟨es, xs, hi, hx, hl, q⟩ := finX_wp g2
  obtain ⟨a', us, k1, k2, k3, _⟩ := S2.muts i es hi
  rw [h1] at k1
  cases k1
  obtain ⟨b, c, ws, rfl, hb, rw'⟩ := items_rp rd hx
  refine ⟨a, c, b, us, ws, rfl, rfl, k2, sameB S2.fh hb, by rw [k3.len, rw'.len, ← LIM_eq]; exact hl, ?_⟩
  exact q _ _ F2 (e1.trans e2) (S2.write hi h1 (k3.append rw')) (Rp.non (K := K) (F := F2))
/-! ### calls -/
/-- what a call is given and leaves -/
structure Bs (P F H : Hp) : Prop where
  fh : Same F H
  ph : Same P H
  dj : ∀ b o, P b = some o → F b = none
variable (K cls) in
/-- behind a call: P is as it was -/
def spEnd (P F : Hp) (Q : VK) (E : XK) : DL.CR → Prop
  | .ok (.val d) none => ∀ v F' H', Same F F' → Bs P F' H' → Rp K F' d v → Q v H'
  | .ok (.own es) none => ∀ a vs F' H', Same F F' → Bs P F' H' → H' a = some (.lst vs) → RpL K F' es vs → F' a = none → P a = none → Q (.ref a) H'
  | .exc c _ => ∀ d F' H', Same F F' → Bs P F' H' → E (.ref (cls c)) d H'
  | _ => False
variable (K) in
def spEndIO (a : Addr) (P F : Hp) (Q : VK) : DL.CR → Prop
  | .ok (.val d) (some cs) => ∀ v ws F' H', Same F F' → Bs P F' H' → H' a = some (.lst ws) → RpL K F' cs ws → F' a = none → Rp K F' d v → Q v H'
  | .ok (.own es) (some cs) => ∀ b vs ws F' H', Same F F' → Bs P F' H' → H' a = some (.lst ws) → RpL K F' cs ws → F' a = none → H' b = some (.lst vs) → RpL K F' es vs → F' b = none → P b = none → b ≠ a → Q (.ref b) H'
  | _ => False
variable (K cls) in
/-- a def's promise -/
def spD (np : Nat) (io : Bool) (cr : Option (List D) → List D → DL.CR) : Sp := fun vs H Q E => vs.length = np ∧ match io with
  | false => ∃ P F ds, Bs P F H ∧ RpL K F ds vs ∧ spEnd K cls P F Q E (cr none ds)
  | true => ∃ P F a ws us cs ds, vs = .ref a :: us ∧ Bs P F H ∧ H a = some (.lst ws) ∧ RpL K F cs ws ∧ F a = none ∧ P a = none ∧ RpL K F ds us ∧ spEndIO K a P F Q (cr (some cs) ds)
/-- all but what lies still -/
def restH (F H : Hp) : Hp := fun b => match F b with
  | none => H b
  | some _ => none
theorem restH_some {F H : Hp} {b : Addr} {o : HO} (h : restH F H b = some o) : F b = none ∧ H b = some o := by
  unfold restH at h
  split at h
  · rename_i e; exact ⟨e, h⟩
  · cases h
theorem restH_at {F H : Hp} {b : Addr} (h : F b = none) : restH F H b = H b := by
  unfold restH
  rw [h]
theorem SR.bs (S : SR K P F ρ σ H) : Bs (restH F H) F H := ⟨S.fh, fun b o e => (restH_some e).2, fun b o e => (restH_some e).1⟩
theorem SR.called {F' H' : Hp} (S : SR K P F ρ σ H) (e : Same F F') (B : Bs (restH F H) F' H') : SR K P F' ρ σ H' := by
  have pr : ∀ b o, P b = some o → restH F H b = some o := fun b o h => by rw [restH_at (S.dj b o h)]; exact S.ph b o h
  refine ⟨B.fh, fun b o h => B.ph b o (pr b o h), fun b o h => B.dj b o (pr b o h), S.len, fun i d q => ?_, fun i ds q => ?_, S.sep⟩
  · obtain ⟨v, h1, h2⟩ := S.vals i d q
    exact ⟨v, h1, Rp.mono e _ _ h2⟩
  · obtain ⟨a, vs, h1, h2, h3, h4, h5⟩ := S.muts i ds q
    have hr : restH F H a = some (.lst vs) := by rw [restH_at h4]; exact h2
    exact ⟨a, vs, h1, B.ph _ _ hr, RpL.mono e _ _ h3, B.dj _ _ hr, h5⟩
theorem SR.calledOwn {F' H' : Hp} {a : Addr} {es : List D} {vs : List V} (S : SR K P F ρ σ H) (B : Bs (restH F H) F' H') (h : H' a = some (.lst vs)) (r : RpL K F' es vs) (hF : F' a = none) (hP : restH F H a = none) : RV K P F' H' ρ σ (.own es) (.ref a) := by
  refine ⟨a, vs, rfl, h, r, hF, ?_, fun i ds q z => ?_⟩
  · cases hp : P a with
    | none => rfl
    | some o => rw [restH_at (S.dj a o hp), S.ph a o hp] at hP; cases hP
  · obtain ⟨b, ws, h1, h2, h3, h4, h5⟩ := S.muts i ds q
    rw [z] at h1
    cases h1
    rw [restH_at h4, h2] at hP
    cases hP
theorem afterCall_wp {Q : Vl → DL.Env → Prop} {E : Nat → DL.Env → Prop} {r : DL.CR} (h : (afterCall ρ r).wp Q E) : (∃ d, r = .ok (.val d) none ∧ Q (.val d) ρ) ∨ (∃ ds, r = .ok (.own ds) none ∧ Q (.own ds) ρ) ∨ ∃ c as, r = .exc c as ∧ E c ρ := by
  unfold afterCall at h
  split at h
  · exact .inl ⟨_, rfl, h⟩
  · exact .inr (.inl ⟨_, rfl, h⟩)
  · exact .inr (.inr ⟨_, _, rfl, h⟩)
  · exact False.elim h
theorem d_call {Q : VK} {np : Nat} {cr : Option (List D) → List D → DL.CR} {es : DL.Env → Res (List D)} (hl : ∀ {σ : L2.St} {H : Hp} {Q : List V → Hp → Prop}, tDA K cls W es σ H Q → tDA K cls W es σ H fun vs H' => vs.length = np ∧ Q vs H')
    (h : tD K cls W (fun ρ => (es ρ).bind fun ds ρ => afterCall ρ (cr none ds)) σ H Q) : tCallS (spD K cls np false cr) (WE W) (tDA K cls W es) σ H Q := by
  unfold tCallS
  have g : tDA K cls W es σ H fun vs H' => vs.length = np → spD K cls np false cr vs H' Q (WE W σ) := by
    obtain ⟨P, F, ρ, S, h⟩ := h
    refine tG.step S (wp_bind h) fun ds ρ1 vs H1 F1 g1 e1 S1 r1 hlen => ⟨hlen, restH F1 H1, F1, ds, S1.bs, r1, ?_⟩
    rcases afterCall_wp g1 with ⟨d, e, q⟩ | ⟨es, e, q⟩ | ⟨c, as, e, q⟩
    · rw [e]; exact fun v F' H' e2 B rd => q v H' F' (e1.trans e2) (S1.called e2 B) rd
    · rw [e]; exact fun a vs F' H' e2 B h1 h2 h3 h4 => q _ H' F' (e1.trans e2) (S1.called e2 B) (S1.calledOwn B h1 h2 h3 h4)
    · rw [e]; exact fun d F' H' e2 B => q H' F' d (e1.trans e2) (S1.called e2 B)
  exact tG.mono (hl g) fun vs H' k => k.2 k.1
/-- all but the list at a -/
def butH (a : Addr) (P : Hp) : Hp := fun b => if b = a then none else P b
theorem butH_some {a b : Addr} {P : Hp} {o : HO} (h : butH a P b = some o) : b ≠ a ∧ P b = some o := by
  unfold butH at h
  split at h
  · cases h
  · exact ⟨by assumption, h⟩
theorem butH_ne {a b : Addr} {P : Hp} (h : b ≠ a) : butH a P b = P b := by
  unfold butH
  rw [if_neg h]
theorem SR.calledIO {F' H' : Hp} {i : Nat} {a : Addr} {cs cs' : List D} {ws' : List V} (S : SR K P F ρ σ H) (hi : ρ[i]? = some (some (.mut cs))) (ha : σ[i]? = some (some (.ref a))) (e : Same F F') (B : Bs (butH a (restH F H)) F' H') (h : H' a = some (.lst ws')) (r : RpL K F' cs' ws') (hF : F' a = none) :
    SR K P F' (ρ.set i (some (.mut cs'))) σ H' := by
  obtain ⟨a', ws, q1, q2, q3, q4, q5⟩ := S.muts i cs hi
  rw [ha] at q1
  cases q1
  have hil : i < ρ.length := (List.getElem?_eq_some_iff.mp hi).1
  have pr : ∀ b o, P b = some o → butH a (restH F H) b = some o := fun b o h => by
    rw [butH_ne (fun z => by rw [z, q5] at h; cases h), restH_at (S.dj b o h)]; exact S.ph b o h
  refine ⟨B.fh, fun b o h => B.ph b o (pr b o h), fun b o h => B.dj b o (pr b o h), by rw [List.length_set]; exact S.len, fun j d q => ?_, fun j ds q => ?_, fun j k b es us z1 z2 z3 z4 => ?_⟩
  · have hj : j ≠ i := fun y => by subst y; rw [List.getElem?_set_self hil] at q; cases q
    rw [List.getElem?_set_ne (Ne.symm hj)] at q
    obtain ⟨v, h1, h2⟩ := S.vals j d q
    exact ⟨v, h1, Rp.mono e _ _ h2⟩
  · by_cases hj : j = i
    · subst hj
      rw [List.getElem?_set_self hil] at q
      cases q
      exact ⟨a, ws', ha, h, r, hF, q5⟩
    · rw [List.getElem?_set_ne (Ne.symm hj)] at q
      obtain ⟨b, vs, h1, h2, h3, h4, h5⟩ := S.muts j ds q
      have hb : b ≠ a := fun z => by subst z; exact hj (S.sep j i _ _ _ q hi h1 ha)
      have hr : butH a (restH F H) b = some (.lst vs) := by rw [butH_ne hb, restH_at h4]; exact h2
      exact ⟨b, vs, h1, B.ph _ _ hr, RpL.mono e _ _ h3, B.dj _ _ hr, h5⟩
  · have there : ∀ (j : Nat) (xs : List D), (ρ.set i (some (.mut cs')))[j]? = some (some (.mut xs)) → ∃ ys, ρ[j]? = some (some (.mut ys)) := fun j xs z => by
      by_cases hj : j = i
      · subst hj; exact ⟨_, hi⟩
      · rw [List.getElem?_set_ne (Ne.symm hj)] at z; exact ⟨_, z⟩
    obtain ⟨xs', z1'⟩ := there j es z1
    obtain ⟨ys', z2'⟩ := there k us z2
    exact S.sep j k b xs' ys' z1' z2' z3 z4
theorem afterCallIO_wp {i : Nat} {Q : Vl → DL.Env → Prop} {E : Nat → DL.Env → Prop} {r : DL.CR} (h : (afterCallIO i ρ r).wp Q E) : (∃ d cs, r = .ok (.val d) (some cs) ∧ Q (.val d) (ρ.set i (some (.mut cs)))) ∨ ∃ ds cs, r = .ok (.own ds) (some cs) ∧ Q (.own ds) (ρ.set i (some (.mut cs))) := by
  unfold afterCallIO at h
  split at h
  · exact .inl ⟨_, _, rfl, h⟩
  · exact .inr ⟨_, _, rfl, h⟩
  · exact False.elim h
def finIO (call : Option (List D) → List D → DL.CR) (i : Nat) (ds : List D) : DL.Env → Res Vl := fun ρ => match slotMut ρ i with
      | some cs => afterCallIO i ρ (call (some cs) ds)
      | none => .stuck
theorem finIO_wp {call : Option (List D) → List D → DL.CR} {i : Nat} {ds : List D} {Q : Vl → DL.Env → Prop} {E : Nat → DL.Env → Prop} (h : (finIO call i ds ρ).wp Q E) : ∃ cs, ρ[i]? = some (some (.mut cs)) ∧ (afterCallIO i ρ (call (some cs) ds)).wp Q E := by
  unfold finIO at h
  split at h
  · rename_i cs e; exact ⟨cs, slotMut_some e, h⟩
  · exact False.elim h
theorem d_callIO {Q : VK} {np i : Nat} {cr : Option (List D) → List D → DL.CR} {es : DL.Env → Res (List D)} (hl : ∀ {σ : L2.St} {H : Hp} {Q : List V → Hp → Prop}, tDA K cls W es σ H Q → tDA K cls W es σ H fun vs H' => vs.length + 1 = np ∧ Q vs H')
    (h : tD K cls W (semOn i fun ρ => (es ρ).bind fun ds ρ => finIO cr i ds ρ) σ H Q) : tCallS (spD K cls np true cr) (WE W) (tCons (tVar i) (tDA K cls W es)) σ H Q := by
  unfold tCallS
  obtain ⟨P, F, ρ, S, h⟩ := h
  obtain ⟨⟨cs0, hs⟩, h⟩ := semOn_wp h
  obtain ⟨a, ws0, h1, h2, _⟩ := S.muts i cs0 (slotMut_some hs)
  refine ⟨_, h1, ?_⟩
  have g : tDA K cls W es σ H fun vs H' => vs.length + 1 = np → spD K cls np true cr (.ref a :: vs) H' Q (WE W σ) := by
    refine tG.step S (wp_bind h) fun ds ρ1 vs H1 F1 g1 e1 S1 r1 hlen => ?_
    obtain ⟨cs, hi, g2⟩ := finIO_wp g1
    obtain ⟨a', ws, k1, k2, k3, k4, k5⟩ := S1.muts i cs hi
    rw [h1] at k1
    cases k1
    have B0 : Bs (butH a (restH F1 H1)) F1 H1 := ⟨S1.fh, fun b o e => (restH_some (butH_some e).2).2, fun b o e => (restH_some (butH_some e).2).1⟩
    refine ⟨hlen, butH a (restH F1 H1), F1, a, ws, vs, cs, ds, rfl, B0, k2, k3, k4, by unfold butH; rw [if_pos rfl], r1, ?_⟩
    rcases afterCallIO_wp g2 with ⟨d, cs', e, q⟩ | ⟨es, cs', e, q⟩
    · rw [e]; exact fun v ws' F' H' e2 B q1 q2 q3 rd => q v H' F' (e1.trans e2) (S1.calledIO hi h1 e2 B q1 q2 q3) rd
    · rw [e]
      intro b vs' ws' F' H' e2 B q1 q2 q3 q4 q5 q6 q7 q8
      rw [butH_ne q8] at q7
      have S2 := S1.calledIO hi h1 e2 B q1 q2 q3
      refine q _ H' F' (e1.trans e2) S2 ⟨b, vs', rfl, q4, q5, q6, ?_, fun j xs z z2 => ?_⟩
      · cases hp : P b with
        | none => rfl
        | some o => rw [restH_at (S1.dj b o hp), S1.ph b o hp] at q7; cases q7
      · by_cases hj : j = i
        · subst hj
          rw [h1] at z2
          cases z2
          exact q8 rfl
        · rw [List.getElem?_set_ne (Ne.symm hj)] at z
          obtain ⟨c, us, p1, p2, p3, p4, p5⟩ := S1.muts j xs z
          rw [z2] at p1
          cases p1
          rw [restH_at p4, p2] at q7
          cases q7
  exact tG.mono (hl g) fun vs H' k => k.2 k.1
end
end DL

end
section
set_option maxRecDepth 100000
set_option maxHeartbeats 1000000
/-! DL, part 10: targets, iterables, comprehensions. -/
namespace DL
open PySem PySem.Spec PyProof.Rows L2
mutual
def pnames : Pat → List Nat
  | .name i => [i]
  | .tup ps => pnamess ps
def pnamess : List Pat → List Nat
  | [] => []
  | p :: ps => pnames p ++ pnamess ps
end
mutual
theorem assignP_len : ∀ (p : Pat) (d : D) (ρ ρ' : DL.Env), assignP p d ρ = some ρ' → ρ'.length = ρ.length
  | .name i, d, ρ, ρ', h => by
    simp only [assignP] at h
    split at h
    · cases h; rw [List.length_set]
    · cases h
  | .tup ps, .tup ds, ρ, ρ', h => by simp only [assignP] at h; exact assignPs_len ps ds ρ ρ' h
  | .tup ps, .lst ds, ρ, ρ', h => by simp only [assignP] at h; exact assignPs_len ps ds ρ ρ' h
  | .tup ps, .non, ρ, ρ', h => by simp [assignP] at h
  | .tup ps, .bl _, ρ, ρ', h => by simp [assignP] at h
  | .tup ps, .int _, ρ, ρ', h => by simp [assignP] at h
  | .tup ps, .str _, ρ, ρ', h => by simp [assignP] at h
theorem assignPs_len : ∀ (ps : List Pat) (ds : List D) (ρ ρ' : DL.Env), assignPs ps ds ρ = some ρ' → ρ'.length = ρ.length
  | [], [], ρ, ρ', h => by simp [assignPs] at h; rw [h]
  | [], _ :: _, ρ, ρ', h => by simp [assignPs] at h
  | _ :: _, [], ρ, ρ', h => by simp [assignPs] at h
  | p :: ps, d :: ds, ρ, ρ', h => by
    simp only [assignPs] at h
    obtain ⟨ρ1, e2, e3⟩ := Option.bind_eq_some_iff.mp h
    rw [assignPs_len ps ds ρ1 ρ' e3, assignP_len p d ρ ρ1 e2]
end
section
variable {K : PySem.W.Frag} {cls : Nat → Addr} {W : WX} {σ : L2.St} {H P F : Hp} {ρ : DL.Env}
/-- a target -/
def gD (K : PySem.W.Frag) (p : Pat) : TG := fun v σ H Q => ∃ P F ρ d ρ', SR K P F ρ σ H ∧ Rp K F d v ∧ assignP p d ρ = some ρ' ∧ ∀ σ', SR K P F ρ' σ' H → (∀ j, j ∉ pnames p → σ'[j]? = σ[j]?) → Q σ' H
def gDs (K : PySem.W.Frag) (ps : List Pat) : TGs := fun vs σ H Q => ∃ P F ρ ds ρ', SR K P F ρ σ H ∧ RpL K F ds vs ∧ assignPs ps ds ρ = some ρ' ∧ ∀ σ', SR K P F ρ' σ' H → (∀ j, j ∉ pnamess ps → σ'[j]? = σ[j]?) → Q σ' H
theorem g_name {i : Nat} {v : V} {Q : L2.St → Hp → Prop} (h : gD K (.name i) v σ H Q) : gName i v σ H Q := by
  obtain ⟨P, F, ρ, d, ρ', S, r, e, k⟩ := h
  simp only [assignP] at e
  split at e
  · rename_i hi
    cases e
    refine k _ (S.store hi r) fun j hj => ?_
    simp only [pnames, List.mem_singleton] at hj
    exact List.getElem?_set_ne (Ne.symm hj)
  · cases e
theorem g_nil {vs : List V} {Q : L2.St → Hp → Prop} (h : gDs K [] vs σ H Q) : gNil vs σ H Q := by
  obtain ⟨P, F, ρ, ds, ρ', S, r, e, k⟩ := h
  cases ds with
  | nil =>
    simp only [assignPs, Option.some.injEq] at e
    subst e
    exact ⟨r.nil_inv, k σ S fun _ _ => rfl⟩
  | cons d ds => simp [assignPs] at e
theorem g_cons {p : Pat} {ps : List Pat} {vs : List V} {Q : L2.St → Hp → Prop} (h : gDs K (p :: ps) vs σ H Q) : gCons (gD K p) (gDs K ps) vs σ H Q := by
  obtain ⟨P, F, ρ, ds, ρ', S, r, e, k⟩ := h
  cases ds with
  | nil => simp [assignPs] at e
  | cons d ds =>
    obtain ⟨v, us, e1, r1, r2⟩ := r.cons_inv
    simp only [assignPs] at e
    obtain ⟨ρ1, e2, e3⟩ := Option.bind_eq_some_iff.mp e
    refine ⟨v, us, e1, P, F, ρ, d, ρ1, S, r1, e2, fun σ1 S1 k1 => ⟨P, F, ρ1, ds, ρ', S1, r2, e3, fun σ2 S2 k2 => k σ2 S2 fun j hj => ?_⟩⟩
    simp only [pnamess, List.mem_append, not_or] at hj
    rw [k2 j hj.2, k1 j hj.1]
theorem g_tup {ps : List Pat} {v : V} {Q : L2.St → Hp → Prop} (h : gD K (.tup ps) v σ H Q) : (∃ n, n = ps.length ∧ gTup K n (gDs K ps) v σ H Q) ∨ ∃ n, n = ps.length ∧ gUnl K n (gDs K ps) v σ H Q := by
  obtain ⟨P, F, ρ, d, ρ', S, r, e, k⟩ := h
  have ln : ∀ (ps : List Pat) (ds : List D) (ρ ρ' : DL.Env), assignPs ps ds ρ = some ρ' → ps.length = ds.length := by
    intro ps
    induction ps with
    | nil => intro ds ρ ρ' e; cases ds with
      | nil => rfl
      | cons d ds => simp [assignPs] at e
    | cons p ps ih => intro ds ρ ρ' e; cases ds with
      | nil => simp [assignPs] at e
      | cons d ds =>
        simp only [assignPs] at e
        obtain ⟨ρ1, e2, e3⟩ := Option.bind_eq_some_iff.mp e
        rw [List.length_cons, List.length_cons, ih _ _ _ e3]
  cases d with
  | tup ds =>
    simp only [assignP] at e
    obtain ⟨a, vs, e1, e2, e3⟩ := Rp.tup_inv r
    exact .inl ⟨_, rfl, a, vs, e1, sameT S.fh e2, by rw [e3.len, ln _ _ _ _ e], P, F, ρ, ds, ρ', S, e3, e, fun σ' S' k' => k σ' S' fun j hj => k' j (by simpa [pnames] using hj)⟩
  | lst ds =>
    simp only [assignP] at e
    unfold Rp at r
    obtain ⟨a, vs, e1, e2, e3⟩ := r
    exact .inr ⟨_, rfl, a, vs, e1, S.fh.seq e2, by rw [e3.len, ln _ _ _ _ e], P, F, ρ, ds, ρ', S, e3, e, fun σ' S' k' => k σ' S' fun j hj => k' j (by simpa [pnames] using hj)⟩
  | _ => simp [assignP] at e
/-! ### iterables -/
theorem d_plain {R : L2.It → Hp → Prop} {ea : DL.Env → Res Vl} (h : tDI K cls W (fun ρ => (ea ρ).bind fun v ρ => (freeze v ρ).bind fun d ρ => lft ρ (items d)) σ H R) : iSeq K (tD K cls W ea) σ H R := by
  unfold iSeq
  obtain ⟨P, F, ρ, S, h⟩ := h
  refine tG.step S (wp_bind h) fun x ρ1 xv H1 F1 g1 e1 S1 r1 => ?_
  obtain ⟨d, ρ2, F2, e2, S2, rd, g2⟩ := kept_wp S1 r1 (wp_next e1 g1)
  obtain ⟨ds, hi, q⟩ := wp_lft g2
  obtain ⟨b, a, vs, e, hb, hr⟩ := items_rp rd hi
  exact ⟨b, a, vs, e, sameB S2.fh hb, q _ H1 F2 (e1.trans e2) S2 (itOf_seq hb hr)⟩
theorem d_enum {R : L2.It → Hp → Prop} {ea : DL.Env → Res Vl} (h : tDI K cls W (fun ρ => (ea ρ).bind fun v ρ => (freeze v ρ).bind fun d ρ => lft ρ ((items d).map (enumL 0))) σ H R) : iEnB K (tCons (tD K cls W ea) tNil) σ H R := by
  unfold iEnB tCons
  obtain ⟨P, F, ρ, S, h⟩ := h
  refine tG.step S (wp_bind h) fun x ρ1 xv H1 F1 g1 e1 S1 r1 => ?_
  obtain ⟨d, ρ2, F2, e2, S2, rd, g2⟩ := kept_wp S1 r1 (wp_next e1 g1)
  obtain ⟨ds, hi, q⟩ := wp_lft g2
  obtain ⟨xs, hx, rfl⟩ := Option.map_eq_some_iff.mp hi
  obtain ⟨b, a, vs, e, hb, hr⟩ := items_rp rd hx
  exact ⟨b, a, vs, by rw [e], sameB S2.fh hb, q _ H1 F2 (e1.trans e2) S2 (itOf_enum hb hr)⟩
def finZ (d d2 : D) : DL.Env → Res (List D) := fun ρ => match items d, items d2 with
    | some xs, some ys => .ok (zipL xs ys) ρ
    | _, _ => .stuck
theorem d_zip {R : L2.It → Hp → Prop} {ea eb : DL.Env → Res Vl} (h : tDI K cls W (fun ρ => (ea ρ).bind fun v ρ => (freeze v ρ).bind fun d ρ => (eb ρ).bind fun v ρ => (freeze v ρ).bind fun d2 ρ => finZ d d2 ρ) σ H R) :
    iZiB K (tCons (tD K cls W ea) (tCons (tD K cls W eb) tNil)) σ H R := by
  unfold iZiB tCons
  obtain ⟨P, F, ρ, S, h⟩ := h
  refine tG.step S (wp_bind h) fun x ρ1 xv H1 F1 g1 e1 S1 r1 => ?_
  obtain ⟨d, ρ2, F2, e2, S2, rd, g2⟩ := kept_wp S1 r1 (wp_next e1 g1)
  refine tG.step S2 (wp_bind g2) fun y ρ3 yv H3 F3 g3 e3 S3 r3 => ?_
  obtain ⟨d2, ρ4, F4, e4, S4, rd2, g4⟩ := kept_wp S3 r3 (wp_next e3 g3)
  unfold finZ at g4
  split at g4
  · rename_i xs ys h1 h2
    obtain ⟨b1, a1, vs1, e1', hb1, hr1⟩ := items_rp (Rp.mono (e3.trans e4) _ _ rd) h1
    obtain ⟨b2, a2, vs2, e2', hb2, hr2⟩ := items_rp rd2 h2
    exact ⟨b1, b2, a1, a2, vs1, vs2, by rw [e1', e2'], sameB S4.fh hb1, sameB S4.fh hb2, g4 _ H3 F4 (((e1.trans e2).trans e3).trans e4) S4 (itOf_zip hb1 hb2 hr1 hr2)⟩
  · exact False.elim g4
theorem d_iRange {R : L2.It → Hp → Prop} {es : DL.Env → Res (List D)} {P' : List V → Hp → Prop} (h : tDI K cls W (fun ρ => (es ρ).bind fun ds ρ => lft ρ (rangeop ds)) σ H R) :
    tDA K cls W es σ H fun vs H1 => (∃ j : Int, vs = [.int j] ∧ -(2 ^ 62) ≤ j ∧ j < 2 ^ 62 ∧ R (Itr 0 j.toNat) H1) ∨ ∃ i j : Int, vs = [.int i, .int j] ∧ (-(2 ^ 62) ≤ i ∧ i < 2 ^ 62 ∧ -(2 ^ 62) ≤ j ∧ j < 2 ^ 62) ∧ R (Itr i (j - i).toNat) H1 := by
  obtain ⟨P, F, ρ, S, h⟩ := h
  refine tG.step S (wp_bind h) fun ds ρ1 vs H1 F1 g1 e1 S1 r1 => ?_
  obtain ⟨xs, hx, q⟩ := wp_lft g1
  rcases rangeop_inv hx with ⟨j, hd, hj, rfl⟩ | ⟨i, j, hd, hi, hj, rfl⟩
  · obtain ⟨j1, j2⟩ := in62_iff hj
    exact .inl ⟨j, rpl_ints r1 hd, j1, j2, q _ H1 F1 e1 S1 itOf_range⟩
  · obtain ⟨i1, i2⟩ := in62_iff hi
    obtain ⟨j1, j2⟩ := in62_iff hj
    exact .inr ⟨i, j, rpl_ints2 r1 hd, ⟨i1, i2, j1, j2⟩, q _ H1 F1 e1 S1 itOf_range⟩
/-! ### comprehensions -/
theorem wipe_get (σ : L2.St) (i : Nat) : ∀ vs : List Nat, (wipe σ vs)[i]? = if i ∈ vs ∧ i < σ.length then some none else σ[i]?
  | [] => by simp [wipe]
  | v :: vs => by
    unfold wipe
    by_cases hv : v = i
    · subst hv
      by_cases hl : v < σ.length
      · rw [List.getElem?_set_self (by rw [wipe_length]; exact hl), if_pos ⟨by simp, hl⟩]
      · rw [if_neg (fun z => hl z.2), List.getElem?_eq_none (by rw [List.length_set, wipe_length]; omega), List.getElem?_eq_none (by omega)]
    · rw [List.getElem?_set_ne hv, wipe_get σ i vs]
      have : (i ∈ v :: vs) ↔ i ∈ vs := by simp [Ne.symm hv]
      simp only [this]
theorem wipeE_len (ρ : DL.Env) : ∀ vs : List Nat, (wipeE ρ vs).length = ρ.length
  | [] => rfl
  | v :: vs => by unfold wipeE; rw [List.length_set, wipeE_len ρ vs]
theorem wipeE_get (ρ : DL.Env) (i : Nat) : ∀ vs : List Nat, (wipeE ρ vs)[i]? = if i ∈ vs ∧ i < ρ.length then some none else ρ[i]?
  | [] => by simp [wipeE]
  | v :: vs => by
    unfold wipeE
    by_cases hv : v = i
    · subst hv
      by_cases hl : v < ρ.length
      · rw [List.getElem?_set_self (by rw [wipeE_len]; exact hl), if_pos ⟨by simp, hl⟩]
      · rw [if_neg (fun z => hl z.2), List.getElem?_eq_none (by rw [List.length_set, wipeE_len]; omega), List.getElem?_eq_none (by omega)]
    · rw [List.getElem?_set_ne hv, wipeE_get ρ i vs]
      have : (i ∈ v :: vs) ↔ i ∈ vs := by simp [Ne.symm hv]
      simp only [this]
theorem restoreE_len (ρ0 ρ : DL.Env) : ∀ vs : List Nat, (restoreE ρ0 ρ vs).length = ρ.length
  | [] => rfl
  | v :: vs => by unfold restoreE; rw [List.length_set, restoreE_len ρ0 ρ vs]
theorem restoreE_get (ρ0 ρ : DL.Env) (i : Nat) : ∀ vs : List Nat, (restoreE ρ0 ρ vs)[i]? = if i ∈ vs ∧ i < ρ.length then some (ρ0.getD i none) else ρ[i]?
  | [] => by simp [restoreE]
  | v :: vs => by
    unfold restoreE
    by_cases hv : v = i
    · subst hv
      by_cases hl : v < ρ.length
      · rw [List.getElem?_set_self (by rw [restoreE_len]; exact hl), if_pos ⟨by simp, hl⟩]
      · rw [if_neg (fun z => hl z.2), List.getElem?_eq_none (by rw [List.length_set, restoreE_len]; omega), List.getElem?_eq_none (by omega)]
    · rw [List.getElem?_set_ne hv, restoreE_get ρ0 ρ i vs]
      have : (i ∈ v :: vs) ↔ i ∈ vs := by simp [Ne.symm hv]
      simp only [this]
theorem SR.wiped (S : SR K P F ρ σ H) (vs : List Nat) : SR K P F (wipeE ρ vs) (wipe σ vs) H := by
  have eq : ∀ (i : Nat) (x : Sl), (wipeE ρ vs)[i]? = some (some x) → ρ[i]? = some (some x) ∧ (wipe σ vs)[i]? = σ[i]? := fun i x h => by
    rw [wipeE_get] at h
    split at h
    · cases h
    · rename_i hn
      rw [S.len] at hn
      exact ⟨h, by rw [wipe_get, if_neg hn]⟩
  have eq2 : ∀ (i : Nat) (x : V), (wipe σ vs)[i]? = some (some x) → σ[i]? = some (some x) := fun i x h => by
    rw [wipe_get] at h
    split at h
    · cases h
    · exact h
  refine ⟨S.fh, S.ph, S.dj, by rw [wipeE_len, wipe_length]; exact S.len, fun i d q => ?_, fun i ds q => ?_, fun i j a ds es q1 q2 q3 q4 => ?_⟩
  · obtain ⟨q, e⟩ := eq i _ q
    rw [e]
    exact S.vals i d q
  · obtain ⟨q, e⟩ := eq i _ q
    rw [e]
    exact S.muts i ds q
  · exact S.sep i j a ds es (eq i _ q1).1 (eq j _ q2).1 (eq2 i _ q3) (eq2 j _ q4)
theorem SR.acc {A : Addr} {l l' : List V} (S : SR K (upd P A (.lst l)) F ρ σ H) : SR K (upd P A (.lst l')) F ρ σ (upd H A (.lst l')) := by
  have hA : F A = none := S.dj A _ upd_same
  refine ⟨fun b o h => ?_, fun b o h => ?_, fun b o h => ?_, S.len, S.vals, fun i ds q => ?_, S.sep⟩
  · rw [upd_ne (ne_of_none h hA)]; exact S.fh b o h
  · by_cases hb : b = A
    · subst hb; rw [upd_same] at h ⊢; exact h
    · rw [upd_ne hb] at h ⊢; exact S.ph b o (by rw [upd_ne hb]; exact h)
  · by_cases hb : b = A
    · subst hb; exact hA
    · rw [upd_ne hb] at h; exact S.dj b o (by rw [upd_ne hb]; exact h)
  · obtain ⟨a, vs, h1, h2, h3, h4, h5⟩ := S.muts i ds q
    have hb : a ≠ A := fun z => by subst z; rw [upd_same] at h5; cases h5
    rw [upd_ne hb] at h5
    exact ⟨a, vs, h1, by rw [upd_ne hb]; exact h2, h3, h4, by rw [upd_ne hb]; exact h5⟩
/-- a new list is begun -/
theorem SR.begin (S : SR K P F ρ σ H) {A : Addr} {l : List V} (hA : H A = none) : SR K (upd P A (.lst l)) F ρ σ (upd H A (.lst l)) := by
  have hF : F A = none := S.fh.free hA
  refine ⟨S.fh.trans (same_upd hA), fun b o h => ?_, fun b o h => ?_, S.len, S.vals, fun i ds q => ?_, S.sep⟩
  · by_cases hb : b = A
    · subst hb; rw [upd_same] at h ⊢; exact h
    · rw [upd_ne hb] at h ⊢; exact S.ph b o h
  · by_cases hb : b = A
    · subst hb; exact hF
    · rw [upd_ne hb] at h; exact S.dj b o h
  · obtain ⟨a, vs, h1, h2, h3, h4, h5⟩ := S.muts i ds q
    have hb : a ≠ A := ne_of_none h2 hA
    exact ⟨a, vs, h1, by rw [upd_ne hb]; exact h2, h3, h4, by rw [upd_ne hb]; exact h5⟩
theorem noMut_at {ρ : DL.Env} {vs : List Nat} (h : noMut ρ vs = true) {i : Nat} (hi : i ∈ vs) : ρ[i]? = some none ∨ ∃ d, ρ[i]? = some (some (.val d)) := by
  have := List.all_eq_true.mp h i hi
  split at this
  · cases this
  · rename_i x hx e
    cases x with
    | none => exact .inl e
    | some y => cases y with
      | val d => exact .inr ⟨d, e⟩
      | «mut» ds => exact absurd rfl (hx ds)
  · cases this
/-- the own names' slots stand again -/
theorem SR.restored {F1 F2 P' H1 H' : Hp} {ρ1 ρ2 : DL.Env} {vs : List Nat} (S1 : SR K P F1 ρ1 σ H1) (S2 : SR K P' F2 ρ2 (wipe σ vs) H') (e : Same F1 F2) (hn : noMut ρ1 vs = true) (hP : ∀ b o, P b = some o → P' b = some o) (hP2 : ∀ b, P' b = none → P b = none) :
    SR K P F2 (restoreE ρ1 ρ2 vs) σ H' := by
  have ln : ρ2.length = σ.length := by rw [S2.len, wipe_length]
  have eqm : ∀ (i : Nat) (ds : List D), (restoreE ρ1 ρ2 vs)[i]? = some (some (.mut ds)) → ρ2[i]? = some (some (.mut ds)) ∧ (wipe σ vs)[i]? = σ[i]? := fun i ds h => by
    rw [restoreE_get] at h
    split at h
    · rename_i hi
      have : ρ1[i]? = some (some (.mut ds)) := by
        have hl : i < ρ1.length := by rw [S1.len, ← ln]; exact hi.2
        rw [List.getD_eq_getElem?_getD, List.getElem?_eq_getElem hl] at h
        rw [List.getElem?_eq_getElem hl]
        exact h
      rcases noMut_at hn hi.1 with q | ⟨d, q⟩ <;> (rw [q] at this; cases this)
    · rename_i hi
      rw [ln] at hi
      exact ⟨h, by rw [wipe_get, if_neg hi]⟩
  refine ⟨S2.fh, fun b o h => S2.ph b o (hP b o h), fun b o h => S2.dj b o (hP b o h), by rw [restoreE_len]; exact ln, fun i d q => ?_, fun i ds q => ?_, fun i j a ds es q1 q2 q3 q4 => ?_⟩
  · rw [restoreE_get] at q
    split at q
    · rename_i hi
      have : ρ1[i]? = some (some (.val d)) := by
        have hl : i < ρ1.length := by rw [S1.len, ← ln]; exact hi.2
        rw [List.getD_eq_getElem?_getD, List.getElem?_eq_getElem hl] at q
        rw [List.getElem?_eq_getElem hl]
        exact q
      obtain ⟨v, h1, h2⟩ := S1.vals i d this
      exact ⟨v, h1, Rp.mono e _ _ h2⟩
    · rename_i hi
      obtain ⟨v, h1, h2⟩ := S2.vals i d q
      rw [ln] at hi
      rw [wipe_get, if_neg hi] at h1
      exact ⟨v, h1, h2⟩
  · obtain ⟨q, e2⟩ := eqm i ds q
    obtain ⟨a, us, h1, h2, h3, h4, h5⟩ := S2.muts i ds q
    rw [e2] at h1
    exact ⟨a, us, h1, h2, h3, h4, hP2 a h5⟩
  · obtain ⟨q1, e1⟩ := eqm i ds q1
    obtain ⟨q2, e2⟩ := eqm j es q2
    exact S2.sep i j a ds es q1 q2 (by rw [e1]; exact q3) (by rw [e2]; exact q4)
theorem wipe_same {σ1 σ2 : L2.St} {vs : List Nat} (hl : σ2.length = σ1.length) (h : ∀ j, j ∉ vs → σ2[j]? = σ1[j]?) : wipe σ2 vs = wipe σ1 vs := by
  apply List.ext_getElem?
  intro i
  rw [wipe_get, wipe_get, hl]
  by_cases hi : i ∈ vs ∧ i < σ1.length
  · rw [if_pos hi, if_pos hi]
  · rw [if_neg hi, if_neg hi]
    by_cases hv : i ∈ vs
    · have hn : ¬ i < σ1.length := fun z => hi ⟨hv, z⟩
      rw [List.getElem?_eq_none (by omega), List.getElem?_eq_none (by omega)]
    · exact h i hv
theorem wipe_wipe (σ : L2.St) (vs : List Nat) : wipe (wipe σ vs) vs = wipe σ vs := by
  apply List.ext_getElem?
  intro i
  rw [wipe_get, wipe_length]
  split
  · rename_i hi; rw [wipe_get, if_pos hi]
  · rfl
theorem compLoop_nil {step : D → DL.Env → Res (Option D)} {acc : List D} {ρ : DL.Env} : compLoop step [] acc ρ = .ok acc ρ := rfl
abbrev W0 : WX := fun _ _ _ _ => False
/-- what a turn of a comprehension comes to -/
theorem compStep_wp {ev : DL.Env → Res Vl} {te : DL.Env → Res Bool} {p : Pat} {vs : List Nat} {d : D} {G : Option D → DL.Env → Prop} {E : Nat → DL.Env → Prop} (h : (compStep (fun ρ => (ev ρ).quiet) (fun ρ => (te ρ).quiet) p vs d ρ).wp G E) :
    ∃ ρ1, assignP p d ρ = some ρ1 ∧ ∀ E', (te ρ1).wp (fun b ρ2 => if b = true then (ev ρ2).wp (fun v ρ3 => ((freeze v ρ3).bind fun x ρ4 => Res.ok (some x) (wipeE ρ4 vs)).wp G E) E' else G none (wipeE ρ2 vs)) E' := by
  unfold compStep at h
  split at h
  · exact False.elim h
  · rename_i ρ1 e
    refine ⟨ρ1, e, fun E' => ?_⟩
    refine wp_mono (wp_quiet (wp_bind h)) (fun b ρ2 g => ?_) fun _ _ h => h
    cases b with
    | true =>
      rw [if_pos rfl] at g ⊢
      exact wp_quiet (wp_bind g)
    | false => rw [if_neg (by decide)] at g ⊢; exact g
theorem d_comp {Q : VK} {it : DL.Env → Res (List D)} {ev : DL.Env → Res Vl} {te : DL.Env → Res Bool} {p : Pat} {vs : List Nat} (hp : ∀ j ∈ pnames p, j ∈ vs)
    (h : tD K cls W (fun ρ => (it ρ).bind fun xs ρ => compRun ev te p vs xs ρ) σ H Q) : tLc (tDI K cls W it) (gD K p) (tDT K cls W0 te) (tD K cls W0 ev) vs σ H Q := by
  unfold tLc
  obtain ⟨P, F, ρ, S, h⟩ := h
  refine tG.step S (wp_bind h) fun xs ρ1 J H1 F1 g1 e1 S1 r1 A hA => ?_
  have hFA : F1 A = none := S1.fh.free hA
  have hPA : P A = none := S1.ph.free hA
  unfold compRun at g1
  by_cases hn : noMut ρ1 vs = true
  · rw [if_pos hn] at g1
    have g2 := wp_bind g1
    generalize hst : compStep (fun ρ => (ev ρ).quiet) (fun ρ => (te ρ).quiet) p vs = step at g2
    refine ⟨fun i m H' => m = xs.length - i ∧ i ≤ xs.length ∧ ∃ F2 ρ2 acc accV, Same F1 F2 ∧ SR K (upd P A (.lst accV)) F2 ρ2 (wipe σ vs) H' ∧ RpL K F2 acc accV ∧
      (compLoop step (xs.drop i) acc ρ2).wp (fun acc' ρ' => (∀ b H' F', Same F F' → SR K P F' (restoreE ρ1 ρ' vs) σ H' → RV K P F' H' (restoreE ρ1 ρ' vs) σ (.own acc') b → Q b H')) (exD K cls W P F σ), ⟨xs.length, by simp, Nat.zero_le _, F1, _, [], [], .refl _, (S1.wiped vs).begin hA, .nil, by rw [List.drop_zero]; exact g2⟩, ?_⟩
    rintro i m H2 ⟨rfl, hi, F2, ρ2, acc, accV, e2, S2, r2, g⟩
    by_cases hlt : i < xs.length
    · have hs2 : Same F1 H2 := e2.trans S2.fh
      refine .inr ⟨r1.go i H2 hs2 hlt, fun H' => i + 1 ≤ xs.length ∧ ∃ F2 ρ2 acc accV, Same F1 F2 ∧ SR K (upd P A (.lst accV)) F2 ρ2 (wipe σ vs) H' ∧ RpL K F2 acc accV ∧
        (compLoop step (xs.drop (i + 1)) acc ρ2).wp (fun acc' ρ' => (∀ b H' F', Same F F' → SR K P F' (restoreE ρ1 ρ' vs) σ H' → RV K P F' H' (restoreE ρ1 ρ' vs) σ (.own acc') b → Q b H')) (exD K cls W P F σ), fun H' n => ⟨xs.length - (i + 1), by omega, rfl, n⟩, fun x H' y => ?_⟩
      have hdrop : xs.drop i = xs[i] :: xs.drop (i + 1) := List.drop_eq_getElem_cons hlt
      rw [hdrop] at g
      unfold compLoop at g
      have g3 := wp_bind g
      -- the item
      have main : ∀ F3 H3, Same F2 F3 → SR K (upd P A (.lst accV)) F3 ρ2 (wipe σ vs) H3 → Rp K F3 xs[i] x → gD K p x (wipe σ vs) H3 fun σ2 H2 => wipe σ2 vs = wipe σ vs ∧ tDT K cls W0 te σ2 H2 fun b H3 =>
          if b = true then tD K cls W0 ev σ2 H3 fun y H4 => ∃ acc, H4 A = some (.lst acc) ∧ acc.length < sizeLine ∧ (i + 1 ≤ xs.length ∧ ∃ F2 ρ2 acc' accV, Same F1 F2 ∧ SR K (upd P A (.lst accV)) F2 ρ2 (wipe σ vs) (upd H4 A (.lst (acc ++ [y]))) ∧ RpL K F2 acc' accV ∧
            (compLoop step (xs.drop (i + 1)) acc' ρ2).wp (fun acc' ρ' => (∀ b H' F', Same F F' → SR K P F' (restoreE ρ1 ρ' vs) σ H' → RV K P F' H' (restoreE ρ1 ρ' vs) σ (.own acc') b → Q b H')) (exD K cls W P F σ))
          else (i + 1 ≤ xs.length ∧ ∃ F2 ρ2 acc accV, Same F1 F2 ∧ SR K (upd P A (.lst accV)) F2 ρ2 (wipe σ vs) H3 ∧ RpL K F2 acc accV ∧
            (compLoop step (xs.drop (i + 1)) acc ρ2).wp (fun acc' ρ' => (∀ b H' F', Same F F' → SR K P F' (restoreE ρ1 ρ' vs) σ H' → RV K P F' H' (restoreE ρ1 ρ' vs) σ (.own acc') b → Q b H')) (exD K cls W P F σ)) := by
        intro F3 H3 e3 S3 rd
        rw [← hst] at g3
        obtain ⟨ρa, ha, g4⟩ := compStep_wp g3
        refine ⟨_, F3, ρ2, xs[i], ρa, S3, rd, ha, fun σ2 S4 k4 => ?_⟩
        have hw : wipe σ2 vs = wipe σ vs := by
          rw [← wipe_wipe σ vs]
          exact wipe_same (by rw [← S4.len, assignP_len _ _ _ _ ha, S3.len]) fun j hj => k4 j fun z => hj (hp j z)
        refine ⟨hw, tG.step S4 (g4 _) fun b ρb b' H5 F5 g5 e5 S5 rb => ?_⟩
        subst rb
        cases b with
        | true =>
          rw [if_pos rfl] at g5 ⊢
          refine tG.step S5 (wp_mono g5 (fun v ρ3 h => h) fun _ _ h => exD.mono e5 _ _ h) fun v ρ3 y H6 F6 g6 e6 S6 rv => ?_
          obtain ⟨F7, e7, S7, rs⟩ := S6.settle rv
          rcases freeze_cases v ρ3 with ⟨x', ρ4, hf⟩ | hf
          · rw [hf] at g6
            obtain ⟨F8, e8, S8, rx⟩ := S7.freeze rs hf
            have g7 := g6
            change Res.wp _ _ (if acc.length < LIM then _ else _) at g7
            by_cases hl : acc.length < LIM
            · rw [if_pos hl, hst] at g7
              refine ⟨accV, S8.ph A _ upd_same, by rw [r2.len, ← LIM_eq]; exact hl, hlt, F8, wipeE ρ4 vs, acc ++ [x'], accV ++ [y], ?_, ?_, ?_, g7⟩
              · exact ((((e2.trans e3).trans e5).trans e6).trans e7).trans e8
              · rw [← hw]
                exact (S8.wiped vs).acc
              · exact (RpL.mono ((((e3.trans e5).trans e6).trans e7).trans e8) _ _ r2).append (.cons rx .nil)
            · rw [if_neg hl] at g7; exact False.elim g7
          · rw [hf] at g6
            exact False.elim g6
        | false =>
          rw [if_neg (by decide)] at g5 ⊢
          refine ⟨hlt, F5, wipeE ρb vs, acc, accV, (e2.trans e3).trans e5, ?_, RpL.mono (e3.trans e5) _ _ r2, ?_⟩
          · rw [← hw]
            exact S5.wiped vs
          · rw [← hst]; exact g5
      rcases r1.yld i H2 x H' hs2 hlt y with ⟨rfl, d, hd, rd⟩ | ⟨T, vs', ds', rfl, hT, rfl, hd, rd⟩
      · rw [List.getElem?_eq_getElem hlt] at hd
        cases hd
        exact main F2 _ (.refl _) S2 (Rp.mono e2 _ _ rd)
      · rw [List.getElem?_eq_getElem hlt] at hd
        have hFT : F2 T = none := S2.fh.free hT
        refine main (upd F2 T (.tup vs')) _ (same_upd hFT) (S2.grow hT) ?_
        rw [Option.some.inj hd]
        unfold Rp
        exact ⟨T, vs', rfl, SqT.of upd_same, RpL.mono (e2.trans (same_upd hFT)) _ _ rd⟩
    · have hie : i = xs.length := by omega
      subst hie
      refine .inl ⟨r1.stop H2 (e2.trans S2.fh), ?_⟩
      rw [List.drop_length] at g
      have hPn : ∀ b, (upd P A (.lst accV)) b = none → P b = none := fun b h => by
        by_cases hb : b = A
        · subst hb; exact hPA
        · rw [upd_ne hb] at h; exact h
      have S3 := SR.restored S1 S2 e2 hn (fun b o h => by rw [upd_ne (ne_of_none h hPA)]; exact h) hPn
      refine g _ H2 F2 (e1.trans e2) S3 ⟨A, accV, rfl, S2.ph A _ upd_same, r2, S2.dj A _ upd_same, hPA, fun j es q z => ?_⟩
      rw [restoreE_get] at q
      split at q
      · rename_i hj
        have : ρ1[j]? = some (some (.mut es)) := by
          have hl : j < ρ1.length := by rw [S1.len]; have := S2.len; rw [wipe_length] at this; rw [← this]; exact hj.2
          rw [List.getD_eq_getElem?_getD, List.getElem?_eq_getElem hl] at q
          rw [List.getElem?_eq_getElem hl]
          exact q
        obtain ⟨a, us, h1, h2, _⟩ := S1.muts j es this
        rw [z] at h1
        cases h1
        rw [hA] at h2
        cases h2
      · rename_i hj
        obtain ⟨a, us, h1, h2, h3, h4, h5⟩ := S2.muts j es q
        have ln := S2.len
        rw [wipe_length] at ln
        rw [ln] at hj
        rw [wipe_get, if_neg hj, z] at h1
        cases h1
        rw [upd_same] at h5
        cases h5
  · rw [if_neg hn] at g1
    exact False.elim g1
end
end DL

end
section
set_option maxRecDepth 100000
set_option maxHeartbeats 1000000
/-! DL, part 11: statements. -/
namespace DL
open PySem PySem.Spec PyProof.Rows L2
/-- the slots below lo stay -/
def Keep (lo : Nat) (σ σ' : L2.St) : Prop := ∀ j, j < lo → σ'[j]? = σ[j]?
theorem Keep.refl {lo : Nat} {σ : L2.St} : Keep lo σ σ := fun _ _ => rfl
theorem Keep.trans {lo : Nat} {σ σ1 σ2 : L2.St} (a : Keep lo σ σ1) (b : Keep lo σ1 σ2) : Keep lo σ σ2 := fun j h => (b j h).trans (a j h)
theorem Keep.set {lo i : Nat} {σ : L2.St} {v : Option V} (h : lo ≤ i) : Keep lo σ (σ.set i v) := fun j hj => List.getElem?_set_ne (by omega)
section
variable (K : PySem.W.Frag) (cls : Nat → Addr) (W : WX) (lo : Nat)
def flEnd (D : Ends) (P F H : Hp) (ρ : DL.Env) (σ : L2.St) : Fl → Prop
  | .next => D.nx σ H
  | .brk => D.bk σ H
  | .cont => D.ct σ H
  | .ret v => ∀ vv, RV K P F H ρ σ v vv → D.rt vv H
def exS (P F : Hp) (σ : L2.St) : Nat → DL.Env → Prop := fun c ρ' => ∀ σ' H' F' d, Same F F' → SR K P F' ρ' σ' H' → Keep lo σ σ' → W (.ref (cls c)) d σ' H'
def okS (D : Ends) (P F : Hp) (σ : L2.St) : Fl → DL.Env → Prop := fun fl ρ' => ∀ σ' H' F', Same F F' → SR K P F' ρ' σ' H' → Keep lo σ σ' → flEnd K D P F' H' ρ' σ' fl
def tDS (sem : DL.Env → Res Fl) : TS := fun D σ H => ∃ P F ρ, SR K P F ρ σ H ∧ (sem ρ).wp (okS K lo D P F σ) (exS K cls W lo P F σ)
end
section
variable {K : PySem.W.Frag} {cls : Nat → Addr} {W : WX} {lo : Nat} {σ : L2.St} {H P F : Hp} {ρ : DL.Env}
theorem exS.exD {c : Nat} {ρ' : DL.Env} (h : exS K cls W lo P F σ c ρ') : exD K cls W P F σ c ρ' := fun H' F' d e S => h σ H' F' d e S .refl
theorem exS.next {F1 : Hp} {σ1 : L2.St} {c : Nat} {ρ' : DL.Env} (e : Same F F1) (k : Keep lo σ σ1) (h : exS K cls W lo P F σ c ρ') : exS K cls W lo P F1 σ1 c ρ' := fun σ' H' F' d e1 S k1 => h σ' H' F' d (e.trans e1) S (k.trans k1)
theorem okS.next {D : Ends} {F1 : Hp} {σ1 : L2.St} {fl : Fl} {ρ' : DL.Env} (e : Same F F1) (k : Keep lo σ σ1) (h : okS K lo D P F σ fl ρ') : okS K lo D P F1 σ1 fl ρ' := fun σ' H' F' e1 S k1 => h σ' H' F' (e.trans e1) S (k.trans k1)
/-- an expression first, then the rest of the statement -/
theorem st_e {α : Type} {r : Res α} {f : α → DL.Env → Res Fl} {D : Ends} (h : (r.bind f).wp (okS K lo D P F σ) (exS K cls W lo P F σ)) : r.wp (fun a ρ => (f a ρ).wp (okS K lo D P F σ) (exS K cls W lo P F σ)) (exD K cls W P F σ) :=
  wp_mono (wp_bind h) (fun _ _ h => h) fun _ _ h => h.exD
theorem wpS_next {r : Res Fl} {D : Ends} {F1 : Hp} {σ1 : L2.St} (e : Same F F1) (k : Keep lo σ σ1) (h : r.wp (okS K lo D P F σ) (exS K cls W lo P F σ)) : r.wp (okS K lo D P F1 σ1) (exS K cls W lo P F1 σ1) :=
  wp_mono h (fun _ _ h => h.next e k) fun _ _ h => h.next e k
theorem kept_wpS {x : Vl} {v : V} {f : D → DL.Env → Res Fl} {D : Ends} (S : SR K P F ρ σ H) (r : RV K P F H ρ σ x v) (h : ((freeze x ρ).bind f).wp (okS K lo D P F σ) (exS K cls W lo P F σ)) :
    ∃ d ρ' F', Same F F' ∧ SR K P F' ρ' σ H ∧ Rp K F' d v ∧ (f d ρ').wp (okS K lo D P F' σ) (exS K cls W lo P F' σ) := by
  obtain ⟨F1, e1, S1, rs⟩ := S.settle r
  rcases freeze_cases x ρ with ⟨d, ρ2, hf⟩ | hf
  · rw [hf] at h
    obtain ⟨F2, e2, S2, rd⟩ := S1.freeze rs hf
    exact ⟨d, ρ2, F2, e1.trans e2, S2, rd, wpS_next (e1.trans e2) .refl h⟩
  · rw [hf] at h
    exact False.elim h
theorem s_next {D : Ends} (h : tDS K cls W lo (fun ρ => .ok .next ρ) D σ H) : tNext D σ H := by
  obtain ⟨P, F, ρ, S, h⟩ := h
  exact h σ H F (.refl _) S .refl
theorem s_brk {D : Ends} (h : tDS K cls W lo (fun ρ => .ok .brk ρ) D σ H) : tBreak D σ H := by
  obtain ⟨P, F, ρ, S, h⟩ := h
  exact h σ H F (.refl _) S .refl
theorem s_cont {D : Ends} (h : tDS K cls W lo (fun ρ => .ok .cont ρ) D σ H) : tCont D σ H := by
  obtain ⟨P, F, ρ, S, h⟩ := h
  exact h σ H F (.refl _) S .refl
theorem s_retN {D : Ends} (h : tDS K cls W lo (fun ρ => .ok (.ret (.val .non)) ρ) D σ H) : tRetN D σ H := by
  obtain ⟨P, F, ρ, S, h⟩ := h
  exact h σ H F (.refl _) S .refl .non (Rp.non (K := K) (F := F))
theorem s_ret {D : Ends} {ea : DL.Env → Res Vl} (h : tDS K cls W lo (fun ρ => (ea ρ).bind fun v ρ => .ok (.ret v) ρ) D σ H) : tRet (tD K cls W ea) D σ H := by
  obtain ⟨P, F, ρ, S, h⟩ := h
  exact tG.step S (st_e h) fun x ρ1 xv H1 F1 g1 e1 S1 r1 => g1 σ H1 F1 e1 S1 .refl xv r1
theorem s_expr {D : Ends} {ea : DL.Env → Res Vl} (h : tDS K cls W lo (fun ρ => (ea ρ).bind fun _ ρ => .ok .next ρ) D σ H) : tDrop (tD K cls W ea) D σ H := by
  obtain ⟨P, F, ρ, S, h⟩ := h
  exact tG.step S (st_e h) fun x ρ1 xv H1 F1 g1 e1 S1 r1 => g1 σ H1 F1 e1 S1 .refl
theorem s_set {D : Ends} {ea : DL.Env → Res Vl} {i : Nat} (hi : lo ≤ i) (h : tDS K cls W lo (fun ρ => (ea ρ).bind fun v ρ => storeV i v ρ) D σ H) : tAsg (tD K cls W ea) (gName i) D σ H := by
  obtain ⟨P, F, ρ, S, h⟩ := h
  refine tG.step S (st_e h) fun x ρ1 xv H1 F1 g1 e1 S1 r1 => ?_
  show D.nx (σ.set i (some xv)) H1
  unfold storeV at g1
  by_cases hl : i < ρ1.length
  · rw [if_pos hl] at g1
    cases x with
    | val d => exact g1 _ H1 F1 e1 (S1.store hl r1) (.set hi)
    | own ds => exact g1 _ H1 F1 e1 (S1.storeOwn hl r1) (.set hi)
    | mref j =>
      obtain ⟨d, ρ2, F2, e2, S2, rd, g2⟩ := kept_wpS S1 r1 (wpS_next e1 .refl g1)
      have hl2 : i < ρ2.length := by rw [S2.len, ← S1.len]; exact hl
      exact g2 _ H1 F2 (.refl _) (S2.store hl2 rd) (.set hi)
  · rw [if_neg hl] at g1; exact False.elim g1
def finAsg (p : Pat) (d : D) : DL.Env → Res Fl := fun ρ => match assignP p d ρ with
    | some ρ' => .ok .next ρ'
    | none => .stuck
theorem s_asg {D : Ends} {ea : DL.Env → Res Vl} {p : Pat} (hp : ∀ j ∈ pnames p, lo ≤ j) (h : tDS K cls W lo (fun ρ => (ea ρ).bind fun v ρ => (freeze v ρ).bind fun d ρ => finAsg p d ρ) D σ H) : tAsg (tD K cls W ea) (gD K p) D σ H := by
  obtain ⟨P, F, ρ, S, h⟩ := h
  refine tG.step S (st_e h) fun x ρ1 xv H1 F1 g1 e1 S1 r1 => ?_
  obtain ⟨d, ρ2, F2, e2, S2, rd, g2⟩ := kept_wpS S1 r1 (wpS_next e1 .refl g1)
  unfold finAsg at g2
  split at g2
  · rename_i ρ3 ha
    exact ⟨P, F2, ρ2, d, ρ3, S2, rd, ha, fun σ' S3 k => g2 σ' H1 F2 (.refl _) S3 fun j hj => k j fun z => absurd (hp j z) (by omega)⟩
  · exact False.elim g2
/-- own lists wait, guarded -/
theorem SR.guard (S : SR K P F ρ σ H) {a : Addr} {vs : List V} (h : H a = some (.lst vs)) (hF : F a = none) (hs : ∀ (i : Nat) (es : List D), ρ[i]? = some (some (.mut es)) → σ[i]? ≠ some (some (.ref a))) : SR K (upd P a (.lst vs)) F ρ σ H := by
  refine ⟨S.fh, fun b o e => ?_, fun b o e => ?_, S.len, S.vals, fun i ds q => ?_, S.sep⟩
  · by_cases hb : b = a
    · subst hb; rw [upd_same] at e; cases e; exact h
    · rw [upd_ne hb] at e; exact S.ph b o e
  · by_cases hb : b = a
    · subst hb; exact hF
    · rw [upd_ne hb] at e; exact S.dj b o e
  · obtain ⟨b, us, h1, h2, h3, h4, h5⟩ := S.muts i ds q
    have hb : b ≠ a := fun z => by subst z; exact hs i ds q h1
    exact ⟨b, us, h1, h2, h3, h4, by rw [upd_ne hb]; exact h5⟩
theorem SR.unguard {a : Addr} {o : HO} (hP : P a = none) (S : SR K (upd P a o) F ρ σ H) : SR K P F ρ σ H ∧ ∀ (i : Nat) (es : List D), ρ[i]? = some (some (.mut es)) → σ[i]? ≠ some (some (.ref a)) := by
  have pr : ∀ b x, P b = some x → upd P a o b = some x := fun b x e => by rw [upd_ne (ne_of_none e hP)]; exact e
  have pn : ∀ b, upd P a o b = none → b ≠ a ∧ P b = none := fun b e => by
    by_cases hb : b = a
    · subst hb; rw [upd_same] at e; cases e
    · rw [upd_ne hb] at e; exact ⟨hb, e⟩
  refine ⟨⟨S.fh, fun b x e => S.ph b x (pr b x e), fun b x e => S.dj b x (pr b x e), S.len, S.vals, fun i ds q => ?_, S.sep⟩, fun i ds q z => ?_⟩
  · obtain ⟨b, us, h1, h2, h3, h4, h5⟩ := S.muts i ds q
    exact ⟨b, us, h1, h2, h3, h4, (pn b h5).2⟩
  · obtain ⟨b, us, h1, h2, h3, h4, h5⟩ := S.muts i ds q
    rw [z] at h1
    cases h1
    exact (pn a h5).1 rfl
def finPar (i j : Nat) (v w : Vl) : DL.Env → Res Fl := fun ρ => if i < ρ.length ∧ j < ρ.length ∧ i ≠ j then .ok .next ((ρ.set i (slotOf v)).set j (slotOf w)) else .stuck
theorem finPar_wp {i j : Nat} {v w : Vl} {Q : Fl → DL.Env → Prop} {E : Nat → DL.Env → Prop} (h : (finPar i j v w ρ).wp Q E) : i < ρ.length ∧ j < ρ.length ∧ i ≠ j ∧ Q .next ((ρ.set i (slotOf v)).set j (slotOf w)) := by
  unfold finPar at h
  by_cases hl : i < ρ.length ∧ j < ρ.length ∧ i ≠ j
  · rw [if_pos hl] at h; exact ⟨hl.1, hl.2.1, hl.2.2, h⟩
  · rw [if_neg hl] at h; exact False.elim h
/-- a result that is no slot's list -/
theorem settled_wpS {x : Vl} {v : V} {f : Vl → DL.Env → Res Fl} {D : Ends} (S : SR K P F ρ σ H) (r : RV K P F H ρ σ x v) (h : ((settle x ρ).bind f).wp (okS K lo D P F σ) (exS K cls W lo P F σ)) :
    ∃ y ρ' F', Same F F' ∧ SR K P F' ρ' σ H ∧ RV K P F' H ρ' σ y v ∧ ((∃ d, y = .val d) ∨ ∃ ds, y = .own ds) ∧ (f y ρ').wp (okS K lo D P F' σ) (exS K cls W lo P F' σ) := by
  cases x with
  | val d => exact ⟨.val d, ρ, F, .refl _, S, r, .inl ⟨d, rfl⟩, h⟩
  | own ds => exact ⟨.own ds, ρ, F, .refl _, S, r, .inr ⟨ds, rfl⟩, h⟩
  | mref i =>
    have h' : ((freeze (.mref i) ρ).bind fun d ρ => f (.val d) ρ).wp (okS K lo D P F σ) (exS K cls W lo P F σ) := by
      have e : settle (.mref i) ρ = (freeze (.mref i) ρ).bind fun d ρ => .ok (.val d) ρ := rfl
      rw [e] at h
      revert h
      cases freeze (.mref i) ρ <;> exact fun h => h
    obtain ⟨d, ρ2, F2, e2, S2, rd, g2⟩ := kept_wpS S r h'
    exact ⟨.val d, ρ2, F2, e2, S2, rd, .inl ⟨d, rfl⟩, g2⟩
theorem s_par {D : Ends} {ea eb : DL.Env → Res Vl} {i j : Nat} (hi : lo ≤ i) (hj : lo ≤ j) (h : tDS K cls W lo (fun ρ => (ea ρ).bind fun v ρ => (settle v ρ).bind fun v ρ => (eb ρ).bind fun w ρ => (settle w ρ).bind fun w ρ => finPar i j v w ρ) D σ H) :
    tPar i j (tCons (tD K cls W ea) (tCons (tD K cls W eb) tNil)) D σ H := by
  unfold tPar tCons
  obtain ⟨P, F, ρ, S, h⟩ := h
  refine tG.step S (st_e h) fun x ρ1 xv H1 F1 g1 e1 S1 r1 => ?_
  obtain ⟨y, ρ2, F2, e2, S2, r2, hy, g2⟩ := settled_wpS S1 r1 (wpS_next e1 .refl g1)
  have kk : Keep lo σ (((σ.set i (some xv)))) := .set hi
  rcases hy with ⟨d, rfl⟩ | ⟨ds, rfl⟩
  · refine tG.step S2 (st_e g2) fun x3 ρ3 xv3 H3 F3 g3 e3 S3 r3 => ?_
    obtain ⟨z, ρ4, F4, e4, S4, r4, hz, g4⟩ := settled_wpS S3 r3 (wpS_next e3 .refl g3)
    obtain ⟨l1, l2, l3, q⟩ := finPar_wp g4
    refine ⟨xv, xv3, rfl, ?_⟩
    have S5 := S4.store (d := d) l1 (Rp.mono (e3.trans e4) _ _ r2)
    have l4 : j < (ρ4.set i (some (.val d))).length := by rw [List.length_set]; exact l2
    rcases hz with ⟨d2, rfl⟩ | ⟨ds2, rfl⟩
    · exact q _ H3 F4 (.refl _) (S5.store l4 r4) (kk.trans (.set hj))
    · refine q _ H3 F4 (.refl _) (S5.storeOwn l4 ?_) (kk.trans (.set hj))
      obtain ⟨a, vs, w1, w2, w3, w4, w5, w6⟩ := r4
      refine ⟨a, vs, w1, w2, w3, w4, w5, fun k es hk => ?_⟩
      by_cases hki : k = i
      · subst hki
        rw [List.getElem?_set_self l1] at hk
        cases hk
      · rw [List.getElem?_set_ne (Ne.symm hki)] at hk ⊢
        exact w6 k es hk
  · obtain ⟨a, vs, rfl, w2, w3, w4, w5, w6⟩ := r2
    have S2' := S2.guard w2 w4 w6
    have g2' : ((eb ρ2).bind fun w ρ => (settle w ρ).bind fun w ρ => finPar i j (.own ds) w ρ).wp (fun fl ρ' => ∀ σ' H' F', Same F2 F' → SR K P F' ρ' σ' H' → Keep lo σ σ' → flEnd K D P F' H' ρ' σ' fl) (exS K cls W lo P F2 σ) := g2
    refine tG.step (P := upd P a (.lst vs)) S2' (wp_mono (wp_bind g2') (fun _ _ h => h) fun c ρ' h => ?_) fun x3 ρ3 xv3 H3 F3 g3 e3 S3 r3 => ?_
    · intro H' F' d' e' S'
      exact h σ H' F' d' e' (S'.unguard w5).1 .refl
    · -- the second value, the first still guarded
      obtain ⟨S3p, ns⟩ := S3.unguard w5
      have r3p : RV K P F3 H3 ρ3 σ x3 xv3 := by
        cases x3 with
        | val d => exact r3
        | own es =>
          obtain ⟨b, us, k1, k2, k3, k4, k5, k6⟩ := r3
          have hb : b ≠ a := fun z => by subst z; rw [upd_same] at k5; cases k5
          rw [upd_ne hb] at k5
          exact ⟨b, us, k1, k2, k3, k4, k5, k6⟩
        | mref k => exact r3
      have nb : ∀ (es : List DL.D), x3 = .own es → xv3 ≠ .ref a := fun es e z => by
        subst e
        obtain ⟨b, us, k1, k2, k3, k4, k5, k6⟩ := r3
        rw [z] at k1
        cases k1
        rw [upd_same] at k5
        cases k5
      have hPa := S3.ph a _ upd_same
      have hFa := S3.dj a _ upd_same
      -- settle
      have fin : ∀ z ρ4 F4, Same F3 F4 → SR K P F4 ρ4 σ H3 → RV K P F4 H3 ρ4 σ z xv3 → ((∃ d, z = .val d) ∨ ∃ es, z = .own es ∧ xv3 ≠ .ref a) → F4 a = none → (∀ (k : Nat) (es : List DL.D), ρ4[k]? = some (some (.mut es)) → σ[k]? ≠ some (some (.ref a))) →
          (finPar i j (.own ds) z ρ4).wp (okS K lo D P F4 σ) (exS K cls W lo P F4 σ) → D.nx ((σ.set i (some (.ref a))).set j (some xv3)) H3 := by
        intro z ρ4 F4 e4 S4 r4 hz hF4 ns4 g4
        obtain ⟨l1, l2, l3, q⟩ := finPar_wp g4
        have S5 := S4.storeOwn (v := .ref a) l1 ⟨a, vs, rfl, hPa, RpL.mono (e3.trans e4) _ _ w3, hF4, w5, ns4⟩
        have l4 : j < (ρ4.set i (some (.mut ds))).length := by rw [List.length_set]; exact l2
        have hi' : i < σ.length := by rw [← S4.len]; exact l1
        rcases hz with ⟨d2, rfl⟩ | ⟨ds2, rfl, hne⟩
        · exact q _ H3 F4 (.refl _) (S5.store l4 r4) (Keep.trans (.set hi) (.set hj))
        · refine q _ H3 F4 (.refl _) (S5.storeOwn l4 ?_) (Keep.trans (.set hi) (.set hj))
          obtain ⟨b, us, k1, k2, k3, k4, k5, k6⟩ := r4
          refine ⟨b, us, k1, k2, k3, k4, k5, fun k es hk => ?_⟩
          by_cases hki : k = i
          · subst hki
            rw [List.getElem?_set_self hi']
            intro z
            cases z
            exact hne k1
          · rw [List.getElem?_set_ne (Ne.symm hki)] at hk ⊢
            exact k6 k es hk
      refine ⟨.ref a, xv3, rfl, ?_⟩
      cases x3 with
      | val d => exact fin (.val d) ρ3 F3 (.refl _) S3p r3p (.inl ⟨d, rfl⟩) hFa ns (wpS_next e3 .refl g3)
      | own es => exact fin (.own es) ρ3 F3 (.refl _) S3p r3p (.inr ⟨es, rfl, nb es rfl⟩) hFa ns (wpS_next e3 .refl g3)
      | mref k =>
        have g3' : ((freeze (.mref k) ρ3).bind fun d ρ => finPar i j (.own ds) (.val d) ρ).wp (okS K lo D P F2 σ) (exS K cls W lo P F2 σ) := by
          have e : settle (.mref k) ρ3 = (freeze (.mref k) ρ3).bind fun d ρ => .ok (.val d) ρ := rfl
          rw [e] at g3
          revert g3
          cases freeze (.mref k) ρ3 <;> exact fun h => h
        obtain ⟨F4, e4, S4, rs⟩ := S3.settle r3
        rcases freeze_cases (.mref k) ρ3 with ⟨d, ρ4, hf⟩ | hf
        · rw [hf] at g3'
          obtain ⟨F5, e5, S5, rd⟩ := S4.freeze rs hf
          obtain ⟨S5p, ns5⟩ := S5.unguard w5
          exact fin (.val d) ρ4 F5 (e4.trans e5) S5p rd (.inl ⟨d, rfl⟩) (S5.dj a _ upd_same) ns5 (wpS_next ((e3.trans e4).trans e5) .refl g3')
        · rw [hf] at g3'
          exact False.elim g3'
def finSx (i : Nat) (d : DL.D) (w : Vl) : DL.Env → Res Fl := fun ρ => match w, slotMut ρ i with
      | .val (.int k), some ds => if 0 ≤ k ∧ k < ds.length then .ok .next (ρ.set i (some (.mut (ds.set k.toNat d)))) else .stuck
      | _, _ => .stuck
def semOnS (i : Nat) (f : DL.Env → Res Fl) : DL.Env → Res Fl := fun ρ => match slotMut ρ i with
    | none => .stuck
    | some _ => f ρ
theorem semOnS_wp {i : Nat} {f : DL.Env → Res Fl} {Q : Fl → DL.Env → Prop} {E : Nat → DL.Env → Prop} (h : (semOnS i f ρ).wp Q E) : (∃ ds, slotMut ρ i = some ds) ∧ (f ρ).wp Q E := by
  unfold semOnS at h
  split at h
  · exact False.elim h
  · rename_i ds e; exact ⟨⟨ds, e⟩, h⟩
theorem finSx_wp {i : Nat} {d : DL.D} {w : Vl} {Q : Fl → DL.Env → Prop} {E : Nat → DL.Env → Prop} (h : (finSx i d w ρ).wp Q E) : ∃ k ds, w = .val (.int k) ∧ ρ[i]? = some (some (.mut ds)) ∧ 0 ≤ k ∧ k < ds.length ∧ Q .next (ρ.set i (some (.mut (ds.set k.toNat d)))) := by
  unfold finSx at h
  split at h
  · rename_i k ds e
    by_cases hl : 0 ≤ k ∧ k < ds.length
    · rw [if_pos hl] at h; exact ⟨k, ds, rfl, slotMut_some e, hl.1, hl.2, h⟩
    · rw [if_neg hl] at h; exact False.elim h
  · exact False.elim h
theorem s_setix {D : Ends} {ea ek : DL.Env → Res Vl} {i : Nat} (h : tDS K cls W lo (fun ρ => (ea ρ).bind fun v ρ => (freeze v ρ).bind fun d ρ => semOnS i (fun ρ => (ek ρ).bind fun w ρ => finSx i d w ρ) ρ) D σ H) : tAsg (tD K cls W ea) (gSub (tVar i) (tD K cls W ek) rSetL) D σ H := by
  unfold tAsg gSub
  obtain ⟨P, F, ρ, S, h⟩ := h
  refine tG.step S (st_e h) fun x ρ1 xv H1 F1 g1 e1 S1 r1 => ?_
  obtain ⟨d, ρ2, F2, e2, S2, rd, g2⟩ := kept_wpS S1 r1 (wpS_next e1 .refl g1)
  obtain ⟨⟨ds, hs⟩, g3⟩ := semOnS_wp g2
  obtain ⟨a, vs, h1, h2, _⟩ := S2.muts i ds (slotMut_some hs)
  refine ⟨_, h1, ?_⟩
  refine tG.step S2 (st_e g3) fun y ρ4 yv H4 F4 g4 e4 S4 r4 => ?_
  obtain ⟨k, es, rfl, hi, l1, l2, q⟩ := finSx_wp g4
  obtain ⟨a', us, k1, k2, k3, _⟩ := S4.muts i es hi
  rw [h1] at k1
  cases k1
  have hlen := k3.len
  refine ⟨a, us, k, k.toNat, rfl, Rp.int_inv (K := K) (F := F4) r4, k2, ?_, ?_⟩
  · unfold ixN
    rw [if_pos l1, if_pos (by omega)]
  · exact q σ _ F4 e4 (S4.write hi h1 (RpL.set (Rp.mono e4 _ _ rd) _ k3)) .refl
def finAug (i : Nat) (op : Bop) (a : Int) (y : Vl) : DL.Env → Res Fl := fun ρ => match y with
      | .val (.int b) => (match op with
        | .add => .ok .next (ρ.set i (some (.val (.int (a + b)))))
        | .sub => .ok .next (ρ.set i (some (.val (.int (a - b)))))
        | _ => .stuck)
      | _ => .stuck
def semAug (i : Nat) (op : Bop) (ea : DL.Env → Res Vl) : DL.Env → Res Fl := fun ρ => match ρ[i]? with
    | some (some (.val (.int a))) => (ea ρ).bind fun y ρ => finAug i op a y ρ
    | _ => .stuck
def augF : Bop → Int → Int → Int
  | .add, a, b => a + b
  | _, a, b => a - b
theorem finAug_wp {i : Nat} {op : Bop} {a : Int} {y : Vl} {Q : Fl → DL.Env → Prop} {E : Nat → DL.Env → Prop} (h : (finAug i op a y ρ).wp Q E) : ∃ b, y = .val (.int b) ∧ Q .next (ρ.set i (some (.val (.int (augF op a b))))) := by
  unfold finAug at h
  split at h
  · rename_i b
    cases op with
    | add => exact ⟨b, rfl, h⟩
    | sub => exact ⟨b, rfl, h⟩
    | _ => exact False.elim h
  · exact False.elim h
theorem s_aug {D : Ends} {op : Bop} {ea : DL.Env → Res Vl} {i : Nat} (hi : lo ≤ i) (h : tDS K cls W lo (semAug i op ea) D σ H) : tAug i (tD K cls W ea) (ipI (augF op)) D σ H := by
  obtain ⟨P, F, ρ, S, h⟩ := h
  unfold semAug at h
  split at h
  · rename_i a ha
    obtain ⟨v, h1, h2⟩ := S.vals i _ ha
    refine ⟨v, h1, tG.step S (st_e h) fun y ρ1 yv H1 F1 g1 e1 S1 r1 => ?_⟩
    obtain ⟨b, rfl, q⟩ := finAug_wp g1
    refine ⟨a, b, Rp.int_inv h2, Rp.int_inv (K := K) (F := F1) r1, ?_⟩
    have hl : i < ρ1.length := by rw [S1.len, ← S.len]; exact (List.getElem?_eq_some_iff.mp ha).1
    exact q _ H1 F1 e1 (S1.store hl .int) (.set hi)
  · exact False.elim h
theorem s_ite {D : Ends} {ec : DL.Env → Res Bool} {ta tb : DL.Env → Res Fl} (h : tDS K cls W lo (fun ρ => (ec ρ).bind fun k ρ => if k then ta ρ else tb ρ) D σ H) : tIfS (tDT K cls W ec) (tDS K cls W lo ta) (tDS K cls W lo tb) D σ H := by
  unfold tIfS
  obtain ⟨P, F, ρ, S, h⟩ := h
  refine tG.step S (st_e h) fun k ρ1 c H1 F1 h1 e1 S1 r1 => ?_
  subst r1
  cases k with
  | true => rw [if_pos rfl] at h1 ⊢; exact ⟨P, F1, ρ1, S1, wpS_next e1 .refl h1⟩
  | false => rw [if_neg (by decide)] at h1 ⊢; exact ⟨P, F1, ρ1, S1, wpS_next e1 .refl h1⟩
def finSq (ss : DL.Env → Res Fl) : Fl → DL.Env → Res Fl
  | .next, ρ => ss ρ
  | f, ρ => .ok f ρ
theorem s_seq {D : Ends} {s ss : DL.Env → Res Fl} (h : tDS K cls W lo (fun ρ => (s ρ).bind fun f ρ => finSq ss f ρ) D σ H) : tSeq (tDS K cls W lo s) (tDS K cls W lo ss) D σ H := by
  unfold tSeq
  obtain ⟨P, F, ρ, S, h⟩ := h
  refine ⟨P, F, ρ, S, wp_mono (wp_bind h) (fun fl ρ' g σ' H' F' e S' k => ?_) fun _ _ h => h⟩
  cases fl with
  | next => exact ⟨P, F', ρ', S', wpS_next e k g⟩
  | brk => exact g σ' H' F' e S' k
  | cont => exact g σ' H' F' e S' k
  | ret v => exact g σ' H' F' e S' k
def finFor (p : Pat) (b : DL.Env → Res Fl) (d : DL.D) : DL.Env → Res Fl := fun ρ => match assignP p d ρ with
    | some ρ => b ρ
    | none => .stuck
def finLp (rest : DL.Env → Res Fl) : Fl → DL.Env → Res Fl
  | .next, ρ => rest ρ
  | .cont, ρ => rest ρ
  | .brk, ρ => .ok .next ρ
  | .ret v, ρ => .ok (.ret v) ρ
theorem forLoop_cons {b : DL.D → DL.Env → Res Fl} {d : DL.D} {ds : List DL.D} {ρ : DL.Env} : forLoop b (d :: ds) ρ = (b d ρ).bind fun f ρ => finLp (forLoop b ds) f ρ := by
  show (b d ρ).bind _ = _
  congr 1
  funext f ρ
  cases f <;> rfl
theorem whileLoop_succ {te : DL.Env → Res Bool} {b : DL.Env → Res Fl} {n : Nat} {ρ : DL.Env} : whileLoop te b (n + 1) ρ = (te ρ).bind fun k ρ => if k then (b ρ).bind fun f ρ => finLp (whileLoop te b n) f ρ else .ok .next ρ := by
  show (te ρ).bind _ = _
  congr 1
  funext k ρ
  cases k with
  | true =>
    simp only [if_true]
    congr 1
    funext f ρ
    cases f <;> rfl
  | false => rfl
theorem s_for {D : Ends} {it : DL.Env → Res (List DL.D)} {b : DL.Env → Res Fl} {p : Pat} (hp : ∀ j ∈ pnames p, lo ≤ j) (h : tDS K cls W lo (fun ρ => (it ρ).bind fun xs ρ => forLoop (finFor p b) xs ρ) D σ H) :
    tFor (tDI K cls W it) (gD K p) (tDS K cls W lo b) D σ H := by
  unfold tFor
  obtain ⟨P, F, ρ, S, h⟩ := h
  refine tG.step S (st_e h) fun xs ρ1 J H1 F1 g1 e1 S1 r1 => ?_
  refine ⟨fun i m σ2 H2 => m = xs.length - i ∧ i ≤ xs.length ∧ ∃ F2 ρ2, Same F1 F2 ∧ Keep lo σ σ2 ∧ SR K P F2 ρ2 σ2 H2 ∧ (forLoop (finFor p b) (xs.drop i) ρ2).wp (okS K lo D P F2 σ2) (exS K cls W lo P F2 σ2),
    ⟨xs.length, by simp, Nat.zero_le _, F1, ρ1, .refl _, .refl, S1, by rw [List.drop_zero]; exact wpS_next e1 .refl g1⟩, ?_⟩
  rintro i m σ2 H2 ⟨rfl, hi, F2, ρ2, e2, k2, S2, g⟩
  have hs2 : Same F1 H2 := e2.trans S2.fh
  by_cases hlt : i < xs.length
  · refine .inr ⟨r1.go i H2 hs2 hlt, fun σ3 H3 => i + 1 ≤ xs.length ∧ ∃ F3 ρ3, Same F1 F3 ∧ Keep lo σ σ3 ∧ SR K P F3 ρ3 σ3 H3 ∧ (forLoop (finFor p b) (xs.drop (i + 1)) ρ3).wp (okS K lo D P F3 σ3) (exS K cls W lo P F3 σ3),
      fun σ' H' n => ⟨xs.length - (i + 1), by omega, rfl, n⟩, fun x H' y => ?_⟩
    have hdrop : xs.drop i = xs[i] :: xs.drop (i + 1) := List.drop_eq_getElem_cons hlt
    rw [hdrop, forLoop_cons] at g
    have g3 := wp_bind g
    have main : ∀ F3 H3, Same F2 F3 → SR K P F3 ρ2 σ2 H3 → Rp K F3 xs[i] x → gD K p x σ2 H3 fun σ4 H4 => tDS K cls W lo b { D with
        nx := fun σ3 H3 => i + 1 ≤ xs.length ∧ ∃ F3 ρ3, Same F1 F3 ∧ Keep lo σ σ3 ∧ SR K P F3 ρ3 σ3 H3 ∧ (forLoop (finFor p b) (xs.drop (i + 1)) ρ3).wp (okS K lo D P F3 σ3) (exS K cls W lo P F3 σ3),
        ct := fun σ3 H3 => i + 1 ≤ xs.length ∧ ∃ F3 ρ3, Same F1 F3 ∧ Keep lo σ σ3 ∧ SR K P F3 ρ3 σ3 H3 ∧ (forLoop (finFor p b) (xs.drop (i + 1)) ρ3).wp (okS K lo D P F3 σ3) (exS K cls W lo P F3 σ3), bk := D.nx } σ4 H4 := by
      intro F3 H3 e3 S3 rd
      unfold finFor at g3
      split at g3
      · rename_i ρa ha
        refine ⟨P, F3, ρ2, xs[i], ρa, S3, rd, ha, fun σ4 S4 k4 => ?_⟩
        have kp : Keep lo σ2 σ4 := fun j hj => k4 j fun z => absurd (hp j z) (by omega)
        refine ⟨P, F3, ρa, S4, wp_mono g3 (fun fl ρ5 q σ5 H5 F5 e5 S5 k5 => ?_) fun c ρ5 q => q.next e3 kp⟩
        cases fl with
        | next => exact ⟨hlt, F5, ρ5, (e2.trans e3).trans e5, (k2.trans kp).trans k5, S5, wpS_next (e3.trans e5) (kp.trans k5) q⟩
        | cont => exact ⟨hlt, F5, ρ5, (e2.trans e3).trans e5, (k2.trans kp).trans k5, S5, wpS_next (e3.trans e5) (kp.trans k5) q⟩
        | brk => exact q σ5 H5 F5 (e3.trans e5) S5 (kp.trans k5)
        | ret v => exact q σ5 H5 F5 (e3.trans e5) S5 (kp.trans k5)
      · exact False.elim g3
    rcases r1.yld i H2 x H' hs2 hlt y with ⟨rfl, d, hd, rd⟩ | ⟨T, vs', ds', rfl, hT, rfl, hd, rd⟩
    · rw [List.getElem?_eq_getElem hlt] at hd
      cases hd
      exact main F2 _ (.refl _) S2 (Rp.mono e2 _ _ rd)
    · rw [List.getElem?_eq_getElem hlt] at hd
      have hFT : F2 T = none := S2.fh.free hT
      refine main (upd F2 T (.tup vs')) _ (same_upd hFT) (S2.grow hT) ?_
      rw [Option.some.inj hd]
      unfold Rp
      exact ⟨T, vs', rfl, SqT.of upd_same, RpL.mono (e2.trans (same_upd hFT)) _ _ rd⟩
  · have hie : i = xs.length := by omega
    subst hie
    rw [List.drop_length] at g
    exact .inl ⟨r1.stop H2 hs2, g σ2 H2 F2 (.refl _) S2 .refl⟩
theorem s_while {D : Ends} {te : DL.Env → Res Bool} {b : DL.Env → Res Fl} {n : Nat} (h : tDS K cls W lo (fun ρ => whileLoop te b n ρ) D σ H) : tWhile (tDT K cls W te) (tDS K cls W lo b) D σ H := by
  unfold tWhile
  obtain ⟨P, F, ρ, S, h⟩ := h
  refine ⟨fun m σ2 H2 => ∃ F2 ρ2, Same F F2 ∧ Keep lo σ σ2 ∧ SR K P F2 ρ2 σ2 H2 ∧ (whileLoop te b m ρ2).wp (okS K lo D P F2 σ2) (exS K cls W lo P F2 σ2), ⟨n, F, ρ, .refl _, .refl, S, h⟩, ?_⟩
  rintro m σ2 H2 ⟨F2, ρ2, e2, k2, S2, g⟩
  cases m with
  | zero => exact False.elim g
  | succ m =>
    rw [whileLoop_succ] at g
    refine tG.step S2 (st_e g) fun k ρ3 c H3 F3 g3 e3 S3 r3 => ?_
    subst r3
    cases k with
    | true =>
      rw [if_pos rfl] at g3 ⊢
      refine ⟨fun σ4 H4 => ∃ F4 ρ4, Same F F4 ∧ Keep lo σ σ4 ∧ SR K P F4 ρ4 σ4 H4 ∧ (whileLoop te b m ρ4).wp (okS K lo D P F4 σ4) (exS K cls W lo P F4 σ4), fun σ' H' n => ⟨m, Nat.lt_succ_self _, n⟩, ?_⟩
      refine ⟨P, F3, ρ3, S3, wp_mono (wp_bind g3) (fun fl ρ5 q σ5 H5 F5 e5 S5 k5 => ?_) fun c ρ5 q => q.next e3 .refl⟩
      cases fl with
      | next => exact ⟨F5, ρ5, (e2.trans e3).trans e5, k2.trans k5, S5, wpS_next (e3.trans e5) k5 q⟩
      | cont => exact ⟨F5, ρ5, (e2.trans e3).trans e5, k2.trans k5, S5, wpS_next (e3.trans e5) k5 q⟩
      | brk => exact q σ5 H5 F5 (e3.trans e5) S5 k5
      | ret v => exact q σ5 H5 F5 (e3.trans e5) S5 k5
    | false =>
      rw [if_neg (by decide)] at g3 ⊢
      exact g3 σ2 H3 F3 e3 S3 .refl
theorem s_raise0 {D : Ends} {c : Nat} (h : tDS K cls W lo (fun ρ => .exc c [] ρ) D σ H) : ∀ d, W (.ref (cls c)) d σ H := by
  obtain ⟨P, F, ρ, S, h⟩ := h
  exact fun d => h σ H F d (.refl _) S .refl
theorem s_raise {D : Ends} {c : Nat} {es : DL.Env → Res (List DL.D)} (h : tDS K cls W lo (fun ρ => (es ρ).bind fun ds ρ => .exc c ds ρ) D σ H) : tDA K cls W es σ H fun vs H1 => ∀ d, W (.ref (cls c)) d σ H1 := by
  obtain ⟨P, F, ρ, S, h⟩ := h
  exact tG.step S (st_e h) fun ds ρ1 vs H1 F1 g1 e1 S1 r1 d => g1 σ H1 F1 d e1 S1 .refl
def finTry (cs ds : List Nat) (hd : DL.Env → Res Fl) : Res Fl → Res Fl
  | .exc c as ρ' => if c ∈ cs then (hd ρ').quiet else if c ∈ ds then .exc c as ρ' else .stuck
  | r => r
theorem s_try {D : Ends} {cs ds : List Nat} {b hd : DL.Env → Res Fl} {cv : Value} (hcs : ∀ c ∈ cs, PySem.W.exmOne K (.ref (cls c)) cv = some true) (hds : ∀ c ∈ ds, PySem.W.exmOne K (.ref (cls c)) cv = some false)
    (h : tDS K cls W lo (fun ρ => finTry cs ds hd (b ρ)) D σ H) : tDS K cls (wOnly K cv (fun _ _ _ => tDS K cls W0 lo hd) W D) lo b D σ H := by
  obtain ⟨P, F, ρ, S, h⟩ := h
  refine ⟨P, F, ρ, S, ?_⟩
  replace h : (finTry cs ds hd (b ρ)).wp (okS K lo D P F σ) (exS K cls W lo P F σ) := h
  generalize b ρ = r at h ⊢
  cases r with
  | ok f ρ' => exact h
  | stuck => exact h
  | exc c as ρ' =>
    intro σ' H' F' d e S' k
    replace h : (if c ∈ cs then (hd ρ').quiet else if c ∈ ds then .exc c as ρ' else .stuck : Res Fl).wp (okS K lo D P F σ) (exS K cls W lo P F σ) := h
    by_cases h1 : c ∈ cs
    · rw [if_pos h1] at h
      exact ⟨true, hcs c h1, fun _ a _ => ⟨P, F', ρ', S', wp_mono (wp_quiet (E' := exS K cls W0 lo P F' σ') h) (fun _ _ q => q.next e k) fun _ _ q => q⟩, fun z => nomatch z⟩
    · rw [if_neg h1] at h
      by_cases h2 : c ∈ ds
      · rw [if_pos h2] at h
        exact ⟨false, hds c h2, fun z => (by cases z), fun _ => h σ' H' F' d e S' k⟩
      · rw [if_neg h2] at h
        exact False.elim h
end
end DL

end
section
set_option maxRecDepth 100000
set_option maxHeartbeats 1000000
/-! DL, part 12: the interpreter's clauses in the words of the readings. -/
namespace DL
open PySem PySem.Spec PyProof.Rows L2
variable (call : Nat → Option (List D) → List D → DL.CR)
theorem eE_int (i : Int) : evalE call (.int i) = fun ρ => .ok (.val (.int i)) ρ := by funext ρ; rw [evalE]
theorem eE_bl (b : Bool) : evalE call (.bl b) = fun ρ => .ok (.val (.bl b)) ρ := by funext ρ; rw [evalE]
theorem eE_non : evalE call .non = fun ρ => .ok (.val .non) ρ := by funext ρ; rw [evalE]
theorem eE_str (s : Str) : evalE call (.str s) = fun ρ => .ok (.val (.str s)) ρ := by funext ρ; rw [evalE]
theorem eE_glob (x : Str) (d : D) : evalE call (.glob x d) = fun ρ => .ok (.val d) ρ := by funext ρ; rw [evalE]
theorem eE_var (i : Nat) : evalE call (.var i) = semVar i := by funext ρ; rw [evalE]; rfl
theorem eE_bin (op : Bop) (a b : E) : evalE call (.bin op a b) = fun ρ => (evalE call a ρ).bind fun x ρ => (evalE call b ρ).bind fun y ρ => fin2 (binop op) x y ρ := by funext ρ; rw [evalE]; rfl
theorem eE_neg (a : E) : evalE call (.neg a) = fun ρ => (evalE call a ρ).bind fun x ρ => match x with | .val (.int i) => .ok (.val (.int (-i))) ρ | _ => .stuck := by funext ρ; rw [evalE] <;> rfl
theorem eE_cmp (op : Cop) (a b : E) : evalE call (.cmp op a b) = fun ρ => (evalE call a ρ).bind fun x ρ => (evalE call b ρ).bind fun y ρ => fin2 (cmpV op) x y ρ := by funext ρ; rw [evalE]; rfl
theorem eE_chain (o1 o2 : Cop) (a b c : E) : evalE call (.chain o1 o2 a b c) = fun ρ => (evalE call a ρ).bind fun x ρ => (evalE call b ρ).bind fun y ρ => finC o1 o2 (evalE call c) x y ρ := by funext ρ; rw [evalE]; rfl
theorem eE_isN (n : Bool) (a : E) : evalE call (.isN n a) = fun ρ => (evalE call a ρ).bind fun x ρ => finN n x ρ := by funext ρ; rw [evalE]; rfl
theorem eE_and (a b : E) : evalE call (.and a b) = fun ρ => (evalE call a ρ).bind fun x ρ => finT x (fun k ρ => if k then evalE call b ρ else .ok x ρ) ρ := by funext ρ; rw [evalE]; rfl
theorem eE_or (a b : E) : evalE call (.or a b) = fun ρ => (evalE call a ρ).bind fun x ρ => finT x (fun k ρ => if k then .ok x ρ else evalE call b ρ) ρ := by funext ρ; rw [evalE]; rfl
theorem eE_one (a : E) : evalE call (.one a) = evalE call a := by funext ρ; rw [evalE]
theorem eE_not (a : E) : evalE call (.not a) = fun ρ => (evalE call a ρ).bind fun x ρ => finT x (fun k ρ => .ok (.val (.bl (!k))) ρ) ρ := by funext ρ; rw [evalE]; rfl
theorem eE_ite (c a b : E) : evalE call (.ite c a b) = fun ρ => (testE call c ρ).bind fun k ρ => if k then evalE call a ρ else evalE call b ρ := by funext ρ; rw [evalE]
theorem eE_tup (es : Es) : evalE call (.tup es) = fun ρ => (evalEs call es ρ).bind fun ds ρ => if ds.length ≤ LIM then .ok (.val (.tup ds)) ρ else .stuck := by funext ρ; rw [evalE]
theorem eE_lst (es : Es) : evalE call (.lst es) = fun ρ => (evalEs call es ρ).bind fun ds ρ => if ds.length ≤ LIM then .ok (.own ds) ρ else .stuck := by funext ρ; rw [evalE]
theorem eE_call (f : Nat) (es : Es) : evalE call (.call f es) = fun ρ => (evalEs call es ρ).bind fun ds ρ => afterCall ρ (call f none ds) := by funext ρ; rw [evalE]
theorem eE_callIO (f i : Nat) (es : Es) : evalE call (.callIO f i es) = semOn i fun ρ => (evalEs call es ρ).bind fun ds ρ => finIO (call f) i ds ρ := by funext ρ; rw [evalE]; rfl
theorem eE_bi (f : Bi) (es : Es) : evalE call (.bi f es) = fun ρ => (evalVs call es ρ).bind fun vs ρ => finB (biop f) vs ρ := by funext ρ; rw [evalE]; rfl
theorem eE_isi (a : E) (ts : List Ty) (m : Bool) : evalE call (.isi a ts m) = fun ρ => (evalE call a ρ).bind fun x ρ => finI ts x ρ := by funext ρ; rw [evalE]; rfl
theorem eE_ix (a i : E) : evalE call (.ix a i) = fun ρ => (evalE call a ρ).bind fun x ρ => (evalE call i ρ).bind fun y ρ => fin2 (fun x y => (ixop x y).map .val) x y ρ := by funext ρ; rw [evalE]; rfl
theorem eE_slice (a l h : E) : evalE call (.slice a l h) = fun ρ => (evalE call a ρ).bind fun x ρ => (evalE call l ρ).bind fun y ρ => finS l.isNone h.isNone (evalE call h) x y ρ := by funext ρ; rw [evalE]; rfl
theorem eE_rev (a : E) : evalE call (.rev a) = fun ρ => (evalE call a ρ).bind fun x ρ => finR x ρ := by funext ρ; rw [evalE]; rfl
theorem eE_comp (elt : E) (p : Pat) (it : Wk) (c : E) (own : List (Str × Nat)) : evalE call (.comp elt p it c own) = fun ρ => (evalIt call it ρ).bind fun xs ρ => compRun (evalE call elt) (testE call c) p (own.map (·.2)) xs ρ := by funext ρ; rw [evalE]
theorem eE_listRange (es : Es) : evalE call (.listRange es) = fun ρ => (evalEs call es ρ).bind fun ds ρ => finG ds ρ := by funext ρ; rw [evalE]; rfl
theorem eE_sset (a : E) : evalE call (.sset a) = fun ρ => (evalE call a ρ).bind fun x ρ => finU x ρ := by funext ρ; rw [evalE]; rfl
theorem eE_append (i : Nat) (e : E) : evalE call (.append i e) = semOn i fun ρ => (evalE call e ρ).bind fun v ρ => (freeze v ρ).bind fun d ρ => finA i d ρ := by funext ρ; rw [evalE]; rfl
theorem eE_pop (i : Nat) (e : E) : evalE call (.pop i e) = semOn i fun ρ => (evalE call e ρ).bind fun v ρ => finP i v ρ := by funext ρ; rw [evalE]; rfl
theorem eE_extend (i : Nat) (e : E) : evalE call (.extend i e) = semOn i fun ρ => (evalE call e ρ).bind fun v ρ => (freeze v ρ).bind fun d ρ => finX i d ρ := by funext ρ; rw [evalE]; rfl
/-! tests -/
theorem eT_and (a b : E) : testE call (.and a b) = fun ρ => (testE call a ρ).bind fun k ρ => if k then testE call b ρ else .ok false ρ := by funext ρ; rw [testE]
theorem eT_or (a b : E) : testE call (.or a b) = fun ρ => (testE call a ρ).bind fun k ρ => if k then .ok true ρ else testE call b ρ := by funext ρ; rw [testE]
theorem eT_one (a : E) : testE call (.one a) = testE call a := by funext ρ; rw [testE]
theorem eT_not (a : E) : testE call (.not a) = fun ρ => (testE call a ρ).bind fun k ρ => .ok (!k) ρ := by funext ρ; rw [testE]
theorem bind_assoc {α β γ : Type} (r : Res α) (f : α → DL.Env → Res β) (g : β → DL.Env → Res γ) : (r.bind f).bind g = r.bind fun a ρ => (f a ρ).bind g := by cases r <;> rfl
theorem bind_congr {α β : Type} (r : Res α) {f g : α → DL.Env → Res β} (h : ∀ a ρ, f a ρ = g a ρ) : r.bind f = r.bind g := by
  have e : f = g := by funext a ρ; exact h a ρ
  rw [e]
theorem lft_bind {α β : Type} (o : Option α) (ρ : DL.Env) (f : α → DL.Env → Res β) : (lft ρ o).bind f = match o with | some a => f a ρ | none => .stuck := by cases o <;> rfl
theorem eT_cmp (op : Cop) (a b : E) (ρ : DL.Env) : evalE call (.cmp op a b) ρ = (testE call (.cmp op a b) ρ).bind fun b ρ => .ok (.val (.bl b)) ρ := by
  rw [evalE, testE, bind_assoc]
  refine bind_congr _ fun x ρ1 => ?_
  rw [bind_assoc]
  refine bind_congr _ fun y ρ2 => ?_
  cases deref ρ2 x with
  | none => rfl
  | some dx => cases deref ρ2 y with
    | none => rfl
    | some dy =>
      show lft ρ2 ((cmpop op dx dy).map _) = (lft ρ2 (cmpop op dx dy)).bind _
      cases cmpop op dx dy <;> rfl
theorem eT_chain (o1 o2 : Cop) (a b c : E) (ρ : DL.Env) : evalE call (.chain o1 o2 a b c) ρ = (testE call (.chain o1 o2 a b c) ρ).bind fun b ρ => .ok (.val (.bl b)) ρ := by
  rw [evalE, testE, bind_assoc]
  refine bind_congr _ fun x ρ1 => ?_
  rw [bind_assoc]
  refine bind_congr _ fun y ρ2 => ?_
  cases deref ρ2 x with
  | none => rfl
  | some dx => cases deref ρ2 y with
    | none => rfl
    | some dy =>
      dsimp only
      cases cmpop o1 dx dy with
      | none => rfl
      | some k => cases k with
        | false => rfl
        | true =>
          dsimp only
          rw [bind_assoc]
          refine bind_congr _ fun z ρ3 => ?_
          cases deref ρ3 y with
          | none => rfl
          | some dy => cases deref ρ3 z with
            | none => rfl
            | some dz =>
              show lft ρ3 ((cmpop o2 dy dz).map _) = (lft ρ3 (cmpop o2 dy dz)).bind _
              cases cmpop o2 dy dz <;> rfl
theorem eT_isN (n : Bool) (a : E) (ρ : DL.Env) : evalE call (.isN n a) ρ = (testE call (.isN n a) ρ).bind fun b ρ => .ok (.val (.bl b)) ρ := by
  rw [evalE, testE, bind_assoc]
  refine bind_congr _ fun x ρ1 => ?_
  cases deref ρ1 x <;> rfl
/-- a test by the truth of the value -/
def TrE (e : E) : Prop := ∀ ρ, testE call e ρ = (evalE call e ρ).bind fun x ρ => lft ρ (truthOf ρ x)
theorem tr_int (i : Int) : TrE call (.int i) := fun ρ => by rw [evalE, testE]; rfl
theorem tr_bl (i : Bool) : TrE call (.bl i) := fun ρ => by rw [evalE, testE]; rfl
theorem tr_non : TrE call .non := fun ρ => by rw [evalE, testE]; rfl
theorem tr_var (i : Nat) : TrE call (.var i) := fun ρ => by
  rw [evalE, testE]
  rcases h : ρ[i]? with _ | _ | (d | ds)
  · rfl
  · rfl
  · dsimp only; rfl
  · dsimp only
    show _ = lft ρ (truthOf ρ (.mref i))
    unfold truthOf deref
    dsimp only
    rw [h]
    rfl
theorem tr_call (f : Nat) (es : Es) : TrE call (.call f es) := fun ρ => by
  rw [evalE, testE, bind_assoc]
theorem tr_callIO (f i : Nat) (es : Es) : TrE call (.callIO f i es) := fun ρ => by
  rw [evalE, testE]
  cases slotMut ρ i with
  | none => rfl
  | some cs =>
    dsimp only
    rw [bind_assoc]
    refine bind_congr _ fun ds ρ1 => ?_
    cases slotMut ρ1 i <;> rfl
theorem tr_bi (f : Bi) (es : Es) : TrE call (.bi f es) := fun ρ => by
  rw [evalE, testE, bind_assoc]
  refine bind_congr _ fun ds ρ1 => ?_
  cases ds.mapM (deref ρ1) <;> rfl
theorem tr_isi (a : E) (ts : List Ty) (m : Bool) : TrE call (.isi a ts m) := fun ρ => by
  rw [evalE, testE, bind_assoc]
  refine bind_congr _ fun ds ρ1 => ?_
  cases deref ρ1 ds <;> rfl
theorem tr_ix (a i : E) : TrE call (.ix a i) := fun ρ => by
  rw [evalE, testE, bind_assoc]
  refine bind_congr _ fun x ρ1 => ?_
  rw [bind_assoc]
  refine bind_congr _ fun y ρ2 => ?_
  cases deref ρ2 x with
  | none => rfl
  | some dx => cases deref ρ2 y with
    | none => rfl
    | some dy =>
      show lft ρ2 ((ixop dx dy).bind D.truth) = (lft ρ2 ((ixop dx dy).map Vl.val)).bind _
      cases ixop dx dy <;> rfl
/-! arguments, iterables -/
theorem eA_nil : evalEs call .nil = fun ρ => .ok [] ρ := by funext ρ; rw [evalEs]
theorem eA_cons (e : E) (es : Es) : evalEs call (.cons e es) = fun ρ => (evalE call e ρ).bind fun v ρ => (freeze v ρ).bind fun d ρ => (evalEs call es ρ).bind fun ds ρ => .ok (d :: ds) ρ := by funext ρ; rw [evalEs]
theorem eV_nil : evalVs call .nil = fun ρ => .ok [] ρ := by funext ρ; rw [evalVs]
theorem eV_cons (e : E) (es : Es) : evalVs call (.cons e es) = fun ρ => (evalE call e ρ).bind fun v ρ => (evalVs call es ρ).bind fun vs ρ => .ok (v :: vs) ρ := by funext ρ; rw [evalVs]
theorem eI_plain (e : E) : evalIt call (.plain e) = fun ρ => (evalE call e ρ).bind fun v ρ => (freeze v ρ).bind fun d ρ => lft ρ (items d) := by funext ρ; rw [evalIt]
theorem eI_range (es : Es) : evalIt call (.range es) = fun ρ => (evalEs call es ρ).bind fun ds ρ => lft ρ (rangeop ds) := by funext ρ; rw [evalIt]
theorem eI_enum (e : E) : evalIt call (.enum e) = fun ρ => (evalE call e ρ).bind fun v ρ => (freeze v ρ).bind fun d ρ => lft ρ ((items d).map (enumL 0)) := by funext ρ; rw [evalIt]
theorem eI_zip (a b : E) : evalIt call (.zip a b) = fun ρ => (evalE call a ρ).bind fun v ρ => (freeze v ρ).bind fun d ρ => (evalE call b ρ).bind fun v ρ => (freeze v ρ).bind fun d2 ρ => finZ d d2 ρ := by funext ρ; rw [evalIt]; rfl
/-! statements -/
theorem eS_set (i : Nat) (e : E) : execS call (.set i e) = fun ρ => (evalE call e ρ).bind fun v ρ => storeV i v ρ := by funext ρ; rw [execS]
theorem eS_asg (p : Pat) (e : E) : execS call (.asg p e) = fun ρ => (evalE call e ρ).bind fun v ρ => (freeze v ρ).bind fun d ρ => finAsg p d ρ := by funext ρ; rw [execS]; rfl
theorem eS_par (i j : Nat) (a b : E) : execS call (.par i j a b) = fun ρ => (evalE call a ρ).bind fun v ρ => (settle v ρ).bind fun v ρ => (evalE call b ρ).bind fun w ρ => (settle w ρ).bind fun w ρ => finPar i j v w ρ := by funext ρ; rw [execS]; rfl
theorem eS_setix (i : Nat) (k e : E) : execS call (.setix i k e) = fun ρ => (evalE call e ρ).bind fun v ρ => (freeze v ρ).bind fun d ρ => semOnS i (fun ρ => (evalE call k ρ).bind fun w ρ => finSx i d w ρ) ρ := by funext ρ; rw [execS]; rfl
theorem eS_aug (i : Nat) (op : Bop) (e : E) : execS call (.aug i op e) = semAug i op (evalE call e) := by funext ρ; rw [execS]; rfl
theorem eS_expr (e : E) : execS call (.expr e) = fun ρ => (evalE call e ρ).bind fun _ ρ => .ok .next ρ := by funext ρ; rw [execS]
theorem eS_ret (e : E) : execS call (.ret e) = fun ρ => (evalE call e ρ).bind fun v ρ => .ok (.ret v) ρ := by funext ρ; rw [execS]
theorem eS_retN : execS call .retN = fun ρ => .ok (.ret (.val .non)) ρ := by funext ρ; rw [execS]
theorem eS_ite (c : E) (t f : Ss) : execS call (.ite c t f) = fun ρ => (testE call c ρ).bind fun k ρ => if k then execSs call t ρ else execSs call f ρ := by funext ρ; rw [execS]
theorem eS_fors (p : Pat) (it : Wk) (b : Ss) : execS call (.fors p it b) = fun ρ => (evalIt call it ρ).bind fun xs ρ => forLoop (finFor p (execSs call b)) xs ρ := by funext ρ; rw [execS]; rfl
theorem eS_whiles (c : E) (b : Ss) : execS call (.whiles c b) = fun ρ => whileLoop (testE call c) (execSs call b) WFUEL ρ := by funext ρ; rw [execS]
theorem eS_raise (c : Nat) (es : Es) : execS call (.raise c es) = fun ρ => (evalEs call es ρ).bind fun ds ρ => .exc c ds ρ := by funext ρ; rw [execS]
theorem eS_tryx (b : Ss) (x : Str) (cs ds : List Nat) (h : Ss) : execS call (.tryx b x cs ds h) = fun ρ => finTry cs ds (execSs call h) (execSs call b ρ) := by funext ρ; rw [execS]; cases execSs call b ρ <;> rfl
theorem eS_pass : execS call .pass = fun ρ => .ok .next ρ := by funext ρ; rw [execS]
theorem eS_brk : execS call .brk = fun ρ => .ok .brk ρ := by funext ρ; rw [execS]
theorem eS_cont : execS call .cont = fun ρ => .ok .cont ρ := by funext ρ; rw [execS]
theorem eSs_nil : execSs call .nil = fun ρ => .ok .next ρ := by funext ρ; rw [execSs]
theorem eSs_cons (s : S) (ss : Ss) : execSs call (.cons s ss) = fun ρ => (execS call s ρ).bind fun f ρ => finSq (execSs call ss) f ρ := by
  funext ρ; rw [execSs]
  refine bind_congr _ fun f ρ => ?_
  cases f <;> rfl
end DL

end
section
set_option maxRecDepth 100000
set_option maxHeartbeats 1000000
/-! DL, part 13: the table of a def against its text, by a Bool. -/
namespace DL
open PySem PySem.Spec PyProof.Rows L2
mutual
def D.same : D → D → Bool
  | .non, .non => true
  | .bl a, .bl b => a == b
  | .int a, .int b => decide (a = b)
  | .str a, .str b => decide (a = b)
  | .tup a, .tup b => D.sames a b
  | .lst a, .lst b => D.sames a b
  | _, _ => false
def D.sames : List D → List D → Bool
  | [], [] => true
  | a :: as, b :: bs => D.same a b && D.sames as bs
  | _, _ => false
end
mutual
theorem D.same_eq : ∀ (a b : D), D.same a b = true → a = b
  | a, b => by
    cases a with
    | tup xs => cases b with
      | tup ys => intro h; simp only [D.same] at h; rw [D.sames_eq xs ys h]
      | _ => intro h; simp [D.same] at h
    | lst xs => cases b with
      | lst ys => intro h; simp only [D.same] at h; rw [D.sames_eq xs ys h]
      | _ => intro h; simp [D.same] at h
    | non => cases b <;> intro h <;> simp_all [D.same]
    | bl _ => cases b <;> intro h <;> simp_all [D.same]
    | int _ => cases b <;> intro h <;> simp_all [D.same]
    | str _ => cases b <;> intro h <;> simp_all [D.same]
theorem D.sames_eq : ∀ (a b : List D), D.sames a b = true → a = b
  | [], [], _ => rfl
  | [], _ :: _, h => by simp [D.sames] at h
  | _ :: _, [], h => by simp [D.sames] at h
  | x :: xs, y :: ys, h => by
    simp only [D.sames, Bool.and_eq_true] at h
    rw [D.same_eq x y h.1, D.sames_eq xs ys h.2]
end
inductive GK where
  | fn (i np : Nat) (io : Bool) | const (d : D) | exc (c : Nat)
/-- what the check knows -/
structure Ck where
  N : List Str
  sc : Scope
  fb : Str → Bool
  G : List (Str × GK)
  B : List Str
  X : List (Str × List Nat × List Nat)
  cm : Bool
  lo : Nat
def Ck.vis (C : Ck) (x : Str) : Bool := match C.sc.names.lookup x with
  | some .local => true
  | some .cell => true
  | some .free => true
  | _ => false
def Ck.sto (C : Ck) (x : Str) : Bool := match C.sc.names.lookup x with
  | some .local => true
  | some .cell => C.fb x
  | _ => false
def Ck.gl (C : Ck) (x : Str) : Bool := decide (C.sc.names.lookup x = some .globalImplicit) && !(x == ("__debug__" : Str))
def Ck.bl (C : Ck) (x : Str) : Bool := C.gl x && decide (x ∈ C.B) && !decide (x = ("__name__" : Str))
def Ck.blk (C : Ck) (scope : Scope) : Ck := { C with sc := relS scope C.sc, fb := fun x => scope.names.lookup x == some .cell }
def Ck.var (C : Ck) (i : Nat) (ex : Expr) : Bool := match ex with
  | .Name x _ => decide (C.N[i]? = some x) && C.vis x && !(x == ("__debug__" : Str)) && !(x == ("__classdict__" : Str))
  | _ => false
def notStar : Expr → Bool
  | .Starred _ _ => false
  | _ => true
def notSlice : Expr → Bool
  | .Slice _ _ _ _ => false
  | _ => true
def notSet : Expr → Bool
  | .Set _ _ _ => false
  | _ => true
def notComp : Expr → Bool
  | .ListComp _ _ _ _ => false
  | .SetComp _ _ _ _ => false
  | .DictComp _ _ _ _ _ => false
  | _ => true
def isTupE : Expr → Bool
  | .Tuple _ _ _ => true
  | _ => false
def isTrueLit : E → Bool
  | .bl true => true
  | _ => false
def tyStr : Ty → Str
  | .int => "int" | .bool => "bool" | .str => "str" | .list => "list" | .tuple => "tuple"
def ckTy (C : Ck) (t : Ty) (ex : Expr) : Bool := match ex with
  | .Name x _ => decide (x = tyStr t) && C.bl x
  | _ => false
def ckTys (C : Ck) : List Ty → List Expr → Bool
  | [], [] => true
  | t :: ts, e :: es => ckTy C t e && ckTys C ts es
  | _, _ => false
mutual
def ckP : Pat → Ck → Expr → Bool
  | .name i, C, ex => match ex with
    | .Name x _ => decide (C.N[i]? = some x) && C.sto x
    | _ => false
  | .tup ps, C, ex => match ex with
    | .Tuple es _ _ => C.cm && ckPs ps C es
    | _ => false
def ckPs : List Pat → Ck → List Expr → Bool
  | [], C, es => es.isEmpty
  | p :: ps, C, es => match es with
    | e :: es => ckP p C e && ckPs ps C es
    | [] => false
end
mutual
def ckE : E → Ck → Expr → Bool
  | .int i, C, ex => match ex with
    | .Constant (.int j) _ _ => decide (i = j)
    | _ => false
  | .bl b, C, ex => match ex with
    | .Constant (.bool c) _ _ => decide (b = c)
    | _ => false
  | .non, C, ex => match ex with
    | .Constant .none _ _ => true
    | _ => false
  | .str s, C, ex => match ex with
    | .Constant (.str t) _ _ => decide (s = t)
    | _ => false
  | .var i, C, ex => C.var i ex
  | .glob x d, C, ex => match ex with
    | .Name y _ => C.gl y && (match C.G.lookup y with
      | some (.const e) => D.same d e
      | _ => false)
    | _ => false
  | .bin op a b, C, ex => match ex with
    | .BinOp l o r _ => decide (o = binOf op) && ckE a C l && ckE b C r
    | _ => false
  | .neg a, C, ex => match ex with
    | .UnaryOp .USub l _ => ckE a C l
    | _ => false
  | .cmp op a b, C, ex => match ex with
    | .Compare l [o] [r] _ => decide (o = cmpOf op) && C.cm && !behindInMarks o r && ckE a C l && ckE b C r
    | _ => false
  | .chain o1 o2 a b c, C, ex => match ex with
    | .Compare l [p1, p2] [m, r] _ => decide (p1 = cmpOf o1) && decide (p2 = cmpOf o2) && C.cm && !lastMarks [p1, p2] [m, r] && ckE a C l && ckE b C m && ckE c C r
    | _ => false
  | .isN neg a, C, ex => match ex with
    | .Compare l [o] [.Constant .none _ _] _ => decide (o = if neg then .IsNot else .Is) && ckE a C l
    | _ => false
  | .and a b, C, ex => match ex with
    | .BoolOp .And (x :: y :: r) pos => ckE a C x && ckE b C (.BoolOp .And (y :: r) pos)
    | _ => false
  | .or a b, C, ex => match ex with
    | .BoolOp .Or (x :: y :: r) pos => ckE a C x && ckE b C (.BoolOp .Or (y :: r) pos)
    | _ => false
  | .one a, C, ex => match ex with
    | .BoolOp _ [x] _ => ckE a C x
    | _ => false
  | .not a, C, ex => match ex with
    | .UnaryOp .Not x _ => ckE a C x
    | _ => false
  | .ite c a b, C, ex => match ex with
    | .IfExp x y z _ => ckE c C x && ckE a C y && ckE b C z
    | _ => false
  | .tup es, C, ex => match ex with
    | .Tuple xs _ _ => ckEs es C xs
    | _ => false
  | .lst es, C, ex => match ex with
    | .List xs _ => ckEs es C xs
    | _ => false
  | .call f es, C, ex => match ex with
    | .Call (.Name x _) xs [] _ => C.cm && C.gl x && (match C.G.lookup x with
      | some (.fn i np io) => decide (i = f) && !io && decide (xs.length = np) && !xs.isEmpty
      | _ => false) && ckEs es C xs
    | _ => false
  | .callIO f i es, C, ex => match ex with
    | .Call (.Name x _) (y :: xs) [] _ => C.cm && C.gl x && (match C.G.lookup x with
      | some (.fn j np io) => decide (j = f) && io && decide (xs.length + 1 = np)
      | _ => false) && C.var i y && ckEs es C xs
    | _ => false
  | .bi f es, C, ex => match ex with
    | .Call (.Name x _) xs [] _ => C.cm && decide (x = biName f) && C.bl x && !xs.isEmpty && ckEs es C xs
    | _ => false
  | .isi a ts many, C, ex => match ex with
    | .Call (.Name x _) [y, t] [] _ => decide (x = ("isinstance" : Str)) && C.bl x && notStar y && ckE a C y && (match many with
      | true => (match t with
        | .Tuple es _ _ => decide (ts.length ≤ 10) && ckTys C ts es
        | _ => false)
      | false => (match ts with
        | [t0] => ckTy C t0 t
        | _ => false))
    | _ => false
  | .ix a i, C, ex => match ex with
    | .Subscript l r _ => notSlice r && ckE a C l && ckE i C r
    | _ => false
  | .slice a l h, C, ex => match ex with
    | .Subscript x (.Slice lo hi none _) _ => ckE a C x && (match lo with
      | none => l.isNone
      | some e => !l.isNone && ckE l C e) && (match hi with
      | none => h.isNone
      | some e => !h.isNone && ckE h C e)
    | _ => false
  | .rev a, C, ex => match ex with
    | .Subscript x (.Slice none none (some (.UnaryOp .USub (.Constant (.int j) _ _) _)) _) _ => decide (j = 1) && ckE a C x
    | _ => false
  | .comp elt p it c own, C, ex => match ex with
    | .ListComp x [⟨tg, iter, ifs, as⟩] scope _ => C.cm && decide (as = 0) && ckP p (C.blk scope) tg && notSet iter && ckW it C tg iter && (match ifs with
      | [] => isTrueLit c
      | [i] => ckE c (C.blk scope) i
      | _ => false) && ckE elt (C.blk scope) x && blkC C.N C.sc scope own && (pnames p).all fun j => decide (j ∈ own.map (·.2))
    | _ => false
  | .listRange es, C, ex => match ex with
    | .Call (.Name x _) [.Call (.Name y _) ys [] _] [] _ => C.cm && decide (x = ("list" : Str)) && decide (y = ("range" : Str)) && C.bl x && C.bl y && decide (ys.length = 1 ∨ ys.length = 2) && ckEs es C ys
    | _ => false
  | .sset a, C, ex => match ex with
    | .Call (.Name x _) [.Call (.Name y _) [z] [] _] [] _ => C.cm && decide (x = ("sorted" : Str)) && decide (y = ("set" : Str)) && C.bl x && C.bl y && notStar z && ckE a C z
    | _ => false
  | .append i e, C, ex => match ex with
    | .Call (.Attribute o nm apos) [y] [] cpos => decide (nm = ("append" : Str)) && C.var i o && notStar y && (apos.endLine == cpos.line) && ckE e C y
    | _ => false
  | .pop i e, C, ex => match ex with
    | .Call (.Attribute o nm apos) [y] [] cpos => decide (nm = ("pop" : Str)) && C.var i o && notStar y && (apos.endLine == cpos.line) && ckE e C y
    | _ => false
  | .extend i e, C, ex => match ex with
    | .Call (.Attribute o nm apos) [y] [] cpos => decide (nm = ("extend" : Str)) && C.var i o && notStar y && (apos.endLine == cpos.line) && ckE e C y
    | _ => false
def ckEs : Es → Ck → List Expr → Bool
  | .nil, C, xs => xs.isEmpty
  | .cons e es, C, xs => match xs with
    | x :: xs => notStar x && ckE e C x && ckEs es C xs
    | [] => false
def ckW : Wk → Ck → Expr → Expr → Bool
  | .plain e, C, tg, ex => ckE e C ex
  | .range es, C, tg, ex => match ex with
    | .Call (.Name x _) ys [] _ => decide (x = ("range" : Str)) && C.bl x && decide (ys.length = 1 ∨ ys.length = 2) && ckEs es C ys
    | _ => false
  | .enum e, C, tg, ex => match ex with
    | .Call (.Name x _) [y] [] _ => decide (x = ("enumerate" : Str)) && C.bl x && isTupE tg && notStar y && ckE e C y
    | _ => false
  | .zip a b, C, tg, ex => match ex with
    | .Call (.Name x _) [y, z] [] _ => decide (x = ("zip" : Str)) && C.bl x && isTupE tg && notStar y && notStar z && ckE a C y && ckE b C z
    | _ => false
end
/-- whether the stores of a comprehension are exchanged -/
def swB (C : Ck) (ex : Expr) (x : Str) (xp : Pos) : Option Bool := match ex with
  | .ListComp _ _ s p => some (C.sc.names.lookup x == some .local && (xp.line == p.line) && !(s.names.any fun (n, k) => n == x && (k == .local || k == .cell)))
  | .SetComp _ _ _ _ => none
  | .DictComp _ _ _ _ _ => none
  | _ => some false
/-- whether the name on the left is not a plain local one -/
def notLoc (C : Ck) (t : Expr) : Bool := match t with
  | .Name x _ => !decide (C.sc.names.lookup x = some .local)
  | _ => true
/-- the stores of a tuple target are not exchanged -/
def swN (C : Ck) (ts : List Expr) (ex : Expr) : Bool := !isTupE ex || !(ts.length == 2 || ts.length == 3) || ts.any (notLoc C)
mutual
def ckS : S → Ck → Stmt → Bool
  | .set i e, C, st => match st with
    | .Assign [.Name x xp] ex _ => decide (C.N[i]? = some x) && C.sto x && decide (C.lo ≤ i) && (swB C ex x xp).isSome && ckE e C ex
    | _ => false
  | .asg p e, C, st => match st with
    | .Assign [.Tuple ts k tp] ex _ => swN C ts ex && ckP p C (.Tuple ts k tp) && ((pnames p).all fun j => decide (C.lo ≤ j)) && ckE e C ex
    | _ => false
  | .par i j a b, C, st => match st with
    | .Assign [.Tuple [.Name x px, .Name y py] _ _] (.Tuple [u, v] _ _) _ => C.cm && decide (C.N[i]? = some x) && decide (C.N[j]? = some y) && decide (i ≠ j) && decide (C.sc.names.lookup x = some .local) && decide (C.sc.names.lookup y = some .local) &&
        decide (C.lo ≤ i) && decide (C.lo ≤ j) && notStar u && notStar v && (px.line == py.line) && !(x == y) && !([u, v].all (foldedForSure 8)) && !([u, v].all (constantsAlone 8)) && ckE a C u && ckE b C v
    | _ => false
  | .setix i k e, C, st => match st with
    | .Assign [.Subscript o ix _] ex _ => C.var i o && notSlice ix && ckE k C ix && ckE e C ex
    | _ => false
  | .aug i op e, C, st => match st with
    | .AugAssign (.Name x _) o ex _ => decide (C.N[i]? = some x) && C.sto x && decide (C.lo ≤ i) && (match op with
      | .add => decide (o = .Add)
      | .sub => decide (o = .Sub)
      | _ => false) && ckE e C ex
    | _ => false
  | .expr e, C, st => match st with
    | .Expr ex _ => notComp ex && ckE e C ex
    | _ => false
  | .ret e, C, st => match st with
    | .Return (some ex) _ => ckE e C ex
    | _ => false
  | .retN, C, st => match st with
    | .Return none _ => true
    | _ => false
  | .ite c t f, C, st => match st with
    | .If x a b _ => ckE c C x && ckSs t C a && ckSs f C b
    | _ => false
  | .fors p it b, C, st => match st with
    | .For tg iter body [] _ => C.cm && ckP p C tg && notSet iter && ckW it C tg iter && ((pnames p).all fun j => decide (C.lo ≤ j)) && ckSs b C body
    | _ => false
  | .whiles c b, C, st => match st with
    | .While x body [] _ => C.cm && ckE c C x && ckSs b C body
    | _ => false
  | .raise c es, C, st => match st with
    | .Raise (some (.Call (.Name x _) xs [] _)) none _ => C.cm && C.gl x && (match C.G.lookup x with
      | some (.exc d) => decide (d = c)
      | _ => false) && decide (xs.length ≤ 10) && ckEs es C xs
    | _ => false
  | .tryx b y cs ds h, C, st => match st with
    | .Try body [.ExceptHandler (some (.Name x _)) none (h0 :: hs) _] [] [] _ => C.cm && decide (x = y) && C.gl x && decide (C.X.lookup x = some (cs, ds)) && ckSs b C body && ckSs h { C with cm := false } (h0 :: hs)
    | _ => false
  | .pass, C, st => match st with
    | .Pass _ => true
    | _ => false
  | .brk, C, st => match st with
    | .Break _ => true
    | _ => false
  | .cont, C, st => match st with
    | .Continue _ => true
    | _ => false
  | .never, C, st => match st with
    | .Raise _ _ _ => true
    | _ => false
def ckSs : Ss → Ck → List Stmt → Bool
  | .nil, C, sts => sts.isEmpty
  | .cons s ss, C, sts => match sts with
    | st :: sts => ckS s C st && ckSs ss C sts
    | [] => false
end
end DL

end
section
set_option maxRecDepth 100000
set_option maxHeartbeats 2000000
/-! DL, part 14: the check is sound. -/
namespace DL
open PySem PySem.Spec PyProof.Rows L2
theorem star_cons {e : Expr} {es : List Expr} {env : PySem.Env} (h : notStar e = true) : starEach (e :: es) env = (false, eval e env) :: starEach es env := by
  cases e <;> first | rfl | cases h
theorem plain_ix {b : Expr} (h : notSlice b = true) : PlainIx b := by
  cases b <;> first | (intro o i; rfl) | cases h
theorem boot_bi (f : Bi) : bootBuiltins (biName f) = some (biVal f) := by
  cases f <;> kernel_rfl
theorem boot_ty (f : Ty) : bootBuiltins (tyStr f) = some (.type (tyName f)) := by
  cases f <;> kernel_rfl
theorem sw_ok {C : Ck} {ex : Expr} {x : Str} {xp : Pos} {b : Bool} {l : Nat} {env : PySem.Env} (hs : env.scope = C.sc) (hk : env.scope.kind = .function) (h : swB C ex x xp = some b) : swapsWith ex (some (.Name x xp)) l env = pure b := by
  cases ex with
  | ListComp e gs s p =>
    simp only [swB, Option.some.injEq] at h
    have hb : env.blockKind = .function := by unfold Env.blockKind; rw [hk]; rfl
    unfold swapsWith
    have ky : env.kindOf x = C.sc.names.lookup x := by unfold Env.kindOf; rw [hs]
    simp only [hb, ky, Expr.pos]
    rw [← h]
    simp
  | SetComp _ _ _ _ => cases h
  | DictComp _ _ _ _ _ => cases h
  | _ => cases h; rfl
theorem sw_none {ex : Expr} {l : Nat} {env : PySem.Env} (h : notComp ex = true) : swapsWith ex none l env = pure false := by
  cases ex <;> first | rfl | cases h
theorem sw_tup {ex t : Expr} {l : Nat} {env : PySem.Env} (h : ∀ x p, t ≠ .Name x p) : swapsWithSole [t] ex l env = pure false := by
  show swapsWith ex (some t) l env = pure false
  cases ex <;> first | rfl | (cases t <;> first | rfl | exact absurd rfl (h _ _))
theorem swS_tup {ex : Expr} {ts : List Expr} {k : Nat} {tp : Pos} {env : PySem.Env} (h : isTupE ex = false) : swappedStores [.Tuple ts k tp] ex env = pure none := by
  cases ex <;> first | rfl | cases h
theorem swS_many {ex : Expr} {ts : List Expr} {k : Nat} {tp : Pos} {env : PySem.Env} (h : (ts.length == 2 || ts.length == 3) = false) : swappedStores [.Tuple ts k tp] ex env = pure none := by
  cases ex with
  | Tuple vs k2 p2 =>
    unfold swappedStores
    simp only [h, Bool.not_false, Bool.true_or, if_true]
  | _ => rfl
theorem filterMap_short {α β : Type} (f : α → Option β) : ∀ l : List α, (∃ x ∈ l, f x = none) → (l.filterMap f).length ≠ l.length
  | [], h => by obtain ⟨x, hx, _⟩ := h; cases hx
  | y :: r, h => by
    obtain ⟨x, hx, e⟩ := h
    have hle := List.length_filterMap_le f r
    rw [List.filterMap_cons]
    cases hy : f y with
    | none => simp only [List.length_cons]; omega
    | some z =>
      have hx' : x ∈ r := by
        rcases List.mem_cons.mp hx with rfl | hx
        · rw [hy] at e; cases e
        · exact hx
      have := filterMap_short f r ⟨x, hx', e⟩
      simp only [List.length_cons]; omega
theorem swS_cells {ex : Expr} {ts : List Expr} {k : Nat} {tp : Pos} {env : PySem.Env} {C : Ck} (hsc : env.scope = C.sc) (h : ts.any (notLoc C) = true) : swappedStores [.Tuple ts k tp] ex env = pure none := by
  cases ex with
  | Tuple vs k2 p2 =>
    obtain ⟨t, ht, e⟩ := List.any_eq_true.mp h
    unfold swappedStores
    dsimp only [pure_bind]
    split
    · rfl
    · split
      · rfl
      · rw [if_pos]
        rw [Bool.or_eq_true]
        left
        rw [bne_iff_ne]
        refine filterMap_short _ ts ⟨t, ht, ?_⟩
        cases t with
        | Name x xp =>
          have e2 : ¬ (C.sc.names.lookup x = some .local) := by simpa [notLoc] using e
          have e3 : env.kindOf x ≠ some .local := by
            show env.scope.names.lookup x ≠ some .local
            rw [hsc]; exact e2
          have e4 : (env.kindOf x == some .local) = false := by simpa using e3
          simp [e4]
        | _ => rfl
  | _ => rfl
theorem swS_no {ex : Expr} {ts : List Expr} {k : Nat} {tp : Pos} {env : PySem.Env} {C : Ck} (hsc : env.scope = C.sc) (h : swN C ts ex = true) : swappedStores [.Tuple ts k tp] ex env = pure none := by
  unfold swN at h
  rcases Bool.or_eq_true_iff.mp h with h | h
  · rcases Bool.or_eq_true_iff.mp h with h | h
    · exact swS_tup (by simpa using h)
    · exact swS_many (by simpa using h)
  · exact swS_cells hsc h
theorem swS_sub {ex o i : Expr} {tp : Pos} {env : PySem.Env} : swappedStores [.Subscript o i tp] ex env = pure none := by
  cases ex <;> rfl
theorem set_pure {ex : Expr} {env : PySem.Env} (h : notSet ex = true) : ∀ x, foldedSetIterable ex env x = pure x := by
  intro x
  cases ex <;> first | rfl | cases h
theorem swS_par {env : PySem.Env} {x y : Str} {px py pt : Pos} {kt k2 : Nat} {pt2 : Pos} {u v : Expr} (hk : env.scope.kind = .function) (hx : env.scope.names.lookup x = some .local) (hy : env.scope.names.lookup y = some .local) (hl : (px.line == py.line) = true) (hxy : (x == y) = false)
    (hu : notStar u = true) (hv : notStar v = true) (h1 : [u, v].all (foldedForSure 8) = false) (h2 : [u, v].all (constantsAlone 8) = false) :
    swappedStores [.Tuple [.Name x px, .Name y py] kt pt] (.Tuple [u, v] k2 pt2) env = pure (some [x, y]) := by
  have hb : env.blockKind = .function := by unfold Env.blockKind; rw [hk]; rfl
  have kx : env.kindOf x = some .local := hx
  have ky : env.kindOf y = some .local := hy
  have hl' : (py.line == px.line) = true := by rw [beq_iff_eq] at hl ⊢; exact hl.symm
  have hxy' : (y == x) = false := by
    have : ¬ (x = y) := by simpa using hxy
    simpa using fun z => this z.symm
  have hst : ([u, v].any fun | .Starred .. => true | _ => false) = false := by
    simp only [List.any_cons, List.any_nil, Bool.or_false, Bool.or_eq_false_iff]
    refine ⟨?_, ?_⟩
    · cases u <;> first | rfl | cases hu
    · cases v <;> first | rfl | cases hv
  unfold swappedStores
  simp only [List.length_cons, List.length_nil, hb]
  simp only [Expr.pos, List.head?_cons, Option.map_some, Option.getD_some, List.filterMap_cons, List.filterMap_nil, kx, ky, hl', h1, h2]
  simp [hst, List.eraseDups_cons, hxy, hxy', h1, h2]
  intro z
  exfalso
  rcases z with z | z
  · cases u <;> first | (cases z; done) | (cases hu; done)
  · cases v <;> first | (cases z; done) | (cases hv; done)

/-! ### the globals -/
structure GOk (P : Program) (w : World) (K : PySem.W.Frag) (mg : Str → Option Value) (base : Heap) (cls : Nat → Addr) (k0 : Nat) (call : Nat → Option (List D) → List D → DL.CR) (G : List (Str × GK)) (B : List Str) (XX : List (Str × List Nat × List Nat)) : Prop where
  fn : ∀ x i np io, G.lookup x = some (.fn i np io) → ∃ f fd ps, mg x = some (.ref f) ∧ PySem.W.keepIn K (.ref f) = true ∧ Binds K fd ps [] ∧ FnOk P w K mg base (L2.CX P w) k0 f fd ps (spD K cls np io (call i))
  const : ∀ x d, G.lookup x = some (.const d) → ∃ u v, mg x = some u ∧ RelV v u ∧ ∀ F, Rp K F d v
  exc : ∀ x c, G.lookup x = some (.exc c) → ∃ bmB B newId initId, ExcBaseFacts B newId initId bmB ∧ PySem.W.excIn K (cls c) bmB newId = true ∧ mg x = some (.ref (cls c)) ∧ PySem.W.keepIn K (.ref (cls c)) = true ∧
    PySem.W.subIn K (.ref (cls c)) (.type "BaseException") = some true ∧ PySem.W.typeIn K (.ref (cls c)) = some (.type "type")
  blt : ∀ x ∈ B, mg x = none
  cl : ∀ x cs ds, XX.lookup x = some (cs, ds) → ∃ cv, (mg x = some cv ∨ (mg x = none ∧ bootBuiltins x = some cv ∧ x ≠ "__name__")) ∧ (∀ c ∈ cs, PySem.W.exmOne K (.ref (cls c)) cv = some true) ∧ ∀ c ∈ ds, PySem.W.exmOne K (.ref (cls c)) cv = some false
section
variable (cls : Nat → Addr) (k0 : Nat) (call : Nat → Option (List D) → List D → DL.CR)
structure XOk (C : Ck) (X : Cx) (W : WX) : Prop where
  N : X.N = C.N
  nd : X.N.Nodup
  sc : X.env.scope = C.sc
  kind : X.env.scope.kind = .function
  fb : ∀ x, C.fb x = true → X.fn x = true
  calm : C.cm = true → X.calm = true
  room : C.cm = true → Room k0 X.A
  tk : Takes X W
  G : GOk X.prog X.w X.K X.mg X.base cls k0 call C.G C.B C.X
end
section
variable {cls : Nat → Addr} {k0 : Nat} {call : Nat → Option (List D) → List D → DL.CR} {C : Ck} {X : Cx} {W : WX}
theorem XOk.gl (O : XOk cls k0 call C X W) {x : Str} (h : C.gl x = true) : Gl X x ∧ (x == ("__debug__" : Str)) = false := by
  unfold Ck.gl at h
  rw [Bool.and_eq_true, decide_eq_true_eq, Bool.not_eq_true'] at h
  refine ⟨?_, h.2⟩
  show X.env.scope.names.lookup x = _
  rw [O.sc]
  exact h.1
theorem XOk.bl (O : XOk cls k0 call C X W) {x : Str} (h : C.bl x = true) : Gl X x ∧ (x == ("__debug__" : Str)) = false ∧ X.mg x = none ∧ x ≠ "__name__" := by
  unfold Ck.bl at h
  rw [Bool.and_eq_true, Bool.and_eq_true, decide_eq_true_eq, Bool.not_eq_true', decide_eq_false_iff_not] at h
  obtain ⟨g1, g2⟩ := O.gl h.1.1
  exact ⟨g1, g2, O.G.blt x h.1.2, h.2⟩
theorem XOk.blk (O : XOk cls k0 call C X W) {scope : Scope} {own : List (Str × Nat)} (hb : blkC C.N C.sc scope own = true) (s : Shared) (H : Hp) (A : Addr) (cl : List (Str × Addr)) (fp : List Addr) : XOk cls k0 call (C.blk scope) (X.blk s H scope (compEnvC scope cl A X.env) fp) W0 := by
  have ok := blkOk_by hb
  refine ⟨O.N, O.nd, ?_, ?_, fun x h => h, O.calm, O.room, takes0, O.G⟩
  · show relS scope X.env.scope = relS scope C.sc
    rw [O.sc]
  · show (relS scope X.env.scope).kind = _
    exact ok.kind
theorem XOk.vis (O : XOk cls k0 call C X W) {x : Str} (h : C.vis x = true) : Vis X.env.scope x := by
  unfold Ck.vis at h
  unfold Vis
  rw [O.sc]
  split at h
  · exact .inl (by assumption)
  · exact .inr (.inl (by assumption))
  · exact .inr (.inr (by assumption))
  · cases h
theorem XOk.sto (O : XOk cls k0 call C X W) {x : Str} (h : C.sto x = true) : L2.Loc X.env.scope x ∧ (X.fn x = true ∨ X.env.scope.names.lookup x = some .local) := by
  unfold Ck.sto at h
  unfold L2.Loc
  rw [O.sc]
  split at h
  · rename_i e; exact ⟨.inl e, .inr e⟩
  · rename_i e; exact ⟨.inr e, .inl (O.fb x h)⟩
  · cases h
theorem PE.wk {e : Expr} {t t' : TE} (h : PE X e t) (k : ∀ σ H Q, t' σ H Q → t σ H Q) : PE X e t' := ⟨fun pins s σ H Q I q => h.run pins s σ H Q I (k _ _ _ q)⟩
theorem PT.wk {e : Expr} {t t' : TT} (h : PT X e t) (k : ∀ σ H Q, t' σ H Q → t σ H Q) : PT X e t' := ⟨fun pins s σ H Q I q => h.run pins s σ H Q I (k _ _ _ q)⟩
theorem PW.wk {e : Expr} {t t' : TT} (h : PW X e t) (k : ∀ σ H Q, t' σ H Q → t σ H Q) : PW X e t' := ⟨fun whole pins s σ H Q I q => h.run whole pins s σ H Q I (k _ _ _ q)⟩
theorem PA.wk {e : List Expr} {t t' : TA} (h : PA X e t) (k : ∀ σ H Q, t' σ H Q → t σ H Q) : PA X e t' := ⟨fun pos pins s σ H Q I q => h.run pos pins s σ H Q I (k _ _ _ q)⟩
theorem PI.wk {tg e : Expr} {t t' : TI} (h : PI X tg e t) (k : ∀ σ H Q, t' σ H Q → t σ H Q) : PI X tg e t' := ⟨fun pins s σ H Q I q => h.run pins s σ H Q I (k _ _ _ q)⟩
theorem PS.wk {e : Stmt} {t t' : TS} (h : PS X e t) (k : ∀ D σ H, t' D σ H → t D σ H) : PS X e t' := ⟨fun pins s σ H D I q => h.run pins s σ H D I (k _ _ _ q)⟩
theorem PSs.wk {e : List Stmt} {t t' : TS} (h : PSs X e t) (k : ∀ D σ H, t' D σ H → t D σ H) : PSs X e t' := ⟨fun pins s σ H D I q => h.run pins s σ H D I (k _ _ _ q)⟩
theorem PG.wk {e : Expr} {t t' : TG} (h : PG X e t) (k : ∀ v σ H Q, t' v σ H Q → t v σ H Q) : PG X e t' := ⟨fun pins s σ H v u Q I r q => h.run pins s σ H v u Q I r (k _ _ _ _ q)⟩
theorem PGs.wk {e : List Expr} {t t' : TGs} (h : PGs X e t) (k : ∀ v σ H Q, t' v σ H Q → t v σ H Q) : PGs X e t' := ⟨fun pins s σ H v u Q I r q => h.run pins s σ H v u Q I r (k _ _ _ _ q)⟩
theorem PG.or {e : Expr} {t t' : TG} (h : PG X e t) (h' : PG X e t') : PG X e (fun v σ H Q => t v σ H Q ∨ t' v σ H Q) := ⟨fun pins s σ H v u Q I r q => q.elim (h.run pins s σ H v u Q I r) (h'.run pins s σ H v u Q I r)⟩
theorem PI.or {tg e : Expr} {t t' : TI} (h : PI X tg e t) (h' : PI X tg e t') : PI X tg e (fun σ H Q => t σ H Q ∨ t' σ H Q) := ⟨fun pins s σ H Q I q => q.elim (h.run pins s σ H Q I) (h'.run pins s σ H Q I)⟩
theorem var_ok (O : XOk cls k0 call C X W) {i : Nat} {ex : Expr} (h : C.var i ex = true) : PE X ex (tVar i) ∧ ∃ x p, ex = .Name x p := by
  unfold Ck.var at h
  split at h
  · rename_i x p
    rw [Bool.and_eq_true, Bool.and_eq_true, Bool.and_eq_true, decide_eq_true_eq, Bool.not_eq_true', Bool.not_eq_true'] at h
    exact ⟨pe_var (by rw [O.N]; exact h.1.1.1) (O.vis h.1.1.2) h.1.2 h.2, x, p, rfl⟩
  · cases h
/-! ### targets -/
theorem assignEach_plain : ∀ (ps : List Pat) (es : List Expr) {env : PySem.Env}, ckPs ps C es = true → (assignEach es env).length = ps.length ∧ (assignEach es env).findIdx? (·.1) = none
  | [], es, env, h => by
    simp only [ckPs, List.isEmpty_iff] at h
    subst h
    exact ⟨rfl, rfl⟩
  | p :: ps, es, env, h => by
    cases es with
    | nil => simp [ckPs] at h
    | cons e es =>
      simp only [ckPs, Bool.and_eq_true] at h
      obtain ⟨l1, l2⟩ := assignEach_plain ps es (env := env) h.2
      have he : assignEach (e :: es) env = (false, assign e env) :: assignEach es env := by
        cases e with
        | Starred _ _ => cases p <;> simp [ckP] at h
        | _ => rfl
      rw [he]
      exact ⟨by rw [List.length_cons, List.length_cons, l1], by rw [List.findIdx?_cons]; simp [l2]⟩
mutual
theorem ckP_ok : ∀ (p : Pat) (ex : Expr), XOk cls k0 call C X W → ckP p C ex = true → PG X ex (gD X.K p)
  | .name i, ex, O, h => by
    simp only [ckP] at h
    split at h
    · rename_i x pos
      rw [Bool.and_eq_true, decide_eq_true_eq] at h
      obtain ⟨s1, s2⟩ := O.sto h.2
      exact PG.wk (pg_name O.nd (by rw [O.N]; exact h.1) s1 s2) fun v σ H Q q => g_name q
    · cases h
  | .tup ps, ex, O, h => by
    simp only [ckP] at h
    split at h
    · rename_i es k pos
      rw [Bool.and_eq_true] at h
      obtain ⟨l1, l2⟩ := assignEach_plain ps es (env := X.env) h.2
      have hs := ckPs_ok ps es O h.2
      refine PG.wk (PG.or (pg_tup (O.calm h.1) hs l1 l2) (pg_unl (O.calm h.1) hs l1 l2)) fun v σ H Q q => ?_
      rcases g_tup q with ⟨n, rfl, q⟩ | ⟨n, rfl, q⟩
      · exact .inl q
      · exact .inr q
    · cases h
theorem ckPs_ok : ∀ (ps : List Pat) (es : List Expr), XOk cls k0 call C X W → ckPs ps C es = true → PGs X es (gDs X.K ps)
  | [], es, O, h => by
    simp only [ckPs, List.isEmpty_iff] at h
    subst h
    exact PGs.wk pgs_nil fun v σ H Q q => g_nil q
  | p :: ps, es, O, h => by
    cases es with
    | nil => simp [ckPs] at h
    | cons e es =>
      simp only [ckPs, Bool.and_eq_true] at h
      have he : ∀ env, assignEach (e :: es) env = (false, assign e env) :: assignEach es env := fun env => by
        cases e with
        | Starred _ _ => cases p <;> simp [ckP] at h
        | _ => rfl
      exact PGs.wk (pgs_cons (ckP_ok p e O h.1) (ckPs_ok ps es O h.2) (by rw [he]; rfl)) fun v σ H Q q => g_cons q
end
end
end DL

end
section
set_option maxRecDepth 100000
set_option maxHeartbeats 400000
/-! DL, part 15: expressions keep the interpreter's word. -/
namespace DL
open PySem PySem.Spec PyProof.Rows L2
section
variable {cls : Nat → Addr} {k0 : Nat} {call : Nat → Option (List D) → List D → DL.CR}
theorem and4 {a b : Bool} (h : (a && b) = true) : a = true ∧ b = true := by rwa [Bool.and_eq_true] at h
/-- a list of arguments has its length -/
theorem es_len : ∀ (es : Es) {C : Ck} {xs : List Expr}, ckEs es C xs = true → ∀ {K : PySem.W.Frag} {W : WX} {σ : L2.St} {H : Hp} {Q : List V → Hp → Prop}, tDA K cls W (evalEs call es) σ H Q → tDA K cls W (evalEs call es) σ H fun vs H' => vs.length = xs.length ∧ Q vs H' := by
  have key : ∀ (es : Es) (ρ ρ' : DL.Env) (ds : List D), evalEs call es ρ = .ok ds ρ' → ∀ {C : Ck} {xs : List Expr}, ckEs es C xs = true → ds.length = xs.length := by
    intro es
    induction es using Es.rec (motive_1 := fun _ => True) (motive_3 := fun _ => True) with
    | nil =>
      intro ρ ρ' ds e C xs h
      rw [eA_nil] at e
      cases e
      simp only [ckEs, List.isEmpty_iff] at h
      rw [h]
      rfl
    | cons e es _ ih =>
      intro ρ ρ' ds hh C xs h
      cases xs with
      | nil => simp [ckEs] at h
      | cons x xs =>
        simp only [ckEs, Bool.and_eq_true] at h
        rw [eA_cons] at hh
        dsimp only at hh
        cases h1 : evalE call e ρ with
        | ok v ρ1 =>
          rw [h1] at hh
          change (freeze v ρ1).bind _ = _ at hh
          cases h2 : freeze v ρ1 with
          | ok d ρ2 =>
            rw [h2] at hh
            change (evalEs call es ρ2).bind _ = _ at hh
            cases h3 : evalEs call es ρ2 with
            | ok ds' ρ3 =>
              rw [h3] at hh
              cases hh
              rw [List.length_cons, List.length_cons, ih _ _ _ h3 h.2]
            | exc c as ρ3 => rw [h3] at hh; cases hh
            | stuck => rw [h3] at hh; cases hh
          | exc c as ρ2 => rw [h2] at hh; cases hh
          | stuck => rw [h2] at hh; cases hh
        | exc c as ρ1 => rw [h1] at hh; cases hh
        | stuck => rw [h1] at hh; cases hh
    | _ => trivial
  intro es C xs h K W σ H Q q
  obtain ⟨P, F, ρ, S, w⟩ := q
  refine ⟨P, F, ρ, S, ?_⟩
  cases e : evalEs call es ρ with
  | ok ds ρ' =>
    rw [e] at w
    exact fun vs H' F' e1 S' r => ⟨by rw [RpL.len r, key es ρ ρ' ds e h], w vs H' F' e1 S' r⟩
  | exc c as ρ' => rw [e] at w; exact w
  | stuck => rw [e] at w; exact w
theorem star_any : ∀ (es : Es) {C : Ck} {xs : List Expr} {pos : Pos} {env : PySem.Env}, ckEs es C xs = true → (backTo pos (starEach xs env)).any (·.1) = false
  | .nil, C, xs, pos, env, h => by
    simp only [ckEs, List.isEmpty_iff] at h
    subst h
    rfl
  | .cons e es, C, xs, pos, env, h => by
    cases xs with
    | nil => simp [ckEs] at h
    | cons x xs =>
      simp only [ckEs, Bool.and_eq_true] at h
      rw [star_cons h.1.1]
      show (false || (backTo pos (starEach xs env)).any (·.1)) = false
      rw [star_any es h.2]
      rfl
theorem vnil_of {es : Es} {C : Ck} (h : ckEs es C [] = true) : es = .nil := by
  cases es with
  | nil => rfl
  | cons e es => simp [ckEs] at h
theorem one_of {es : Es} {C : Ck} {x : Expr} (h : ckEs es C [x] = true) : ∃ e, es = .cons e .nil ∧ ckE e C x = true ∧ notStar x = true := by
  cases es with
  | nil => simp [ckEs] at h
  | cons e es =>
    simp only [ckEs, Bool.and_eq_true] at h
    rw [vnil_of h.2]
    exact ⟨e, rfl, h.1.2, h.1.1⟩
theorem two_of {es : Es} {C : Ck} {x y : Expr} (h : ckEs es C [x, y] = true) : ∃ e f, es = .cons e (.cons f .nil) ∧ ckE e C x = true ∧ notStar x = true ∧ ckE f C y = true ∧ notStar y = true := by
  cases es with
  | nil => simp [ckEs] at h
  | cons e es =>
    simp only [ckEs, Bool.and_eq_true] at h
    obtain ⟨f, e2, h2, h3⟩ := one_of h.2
    rw [e2]
    exact ⟨e, f, rfl, h.1.2, h.1.1, h2, h3⟩
theorem ty_ok {C : Ck} {X : Cx} {W : WX} (O : XOk cls k0 call C X W) {t : Ty} {ex : Expr} (h : ckTy C t ex = true) : PE X ex (tC (.ty (tyName t))) ∧ notStar ex = true := by
  unfold ckTy at h
  split at h
  · obtain ⟨h1, h2⟩ := and4 h
    have h1 := of_decide_eq_true h1
    obtain ⟨g1, g2, g3, g4⟩ := O.bl h2
    rw [h1] at g1 g2 g3 g4 ⊢
    exact ⟨pe_bltn g1 g3 (boot_ty t) rfl g4 g2, rfl⟩
  · cases h
theorem tys_ok {C : Ck} {X : Cx} {W : WX} (O : XOk cls k0 call C X W) : ∀ {ts : List Ty} {es : List Expr}, ckTys C ts es = true → PA X es (tTys ts)
  | [], [], _ => pa_nil
  | [], _ :: _, h => by simp [ckTys] at h
  | _ :: _, [], h => by simp [ckTys] at h
  | t :: ts, e :: es, h => by
    simp only [ckTys, Bool.and_eq_true] at h
    obtain ⟨h1, h2⟩ := ty_ok O h.1
    exact pa_cons h1 (tys_ok O h.2) (star_cons h2)
theorem pt_of {X : Cx} {W : WX} {e : E} {ex : Expr} (h : PE X ex (tD X.K cls W (evalE call e))) (ht : TrE call e) (he : ∀ whole, isTrue ex X.env whole = (do let v ← whole; standAt ex.pos; holding [v] (truthy v))) : PT X ex (tDT X.K cls W (testE call e)) :=
  PT.wk (pt_truth h he) fun σ H Q q => d_truth (by rw [show testE call e = fun ρ => (evalE call e ρ).bind fun x ρ => lft ρ (truthOf ρ x) from funext ht] at q; exact q)
theorem pt_stuck {X : Cx} {W : WX} {e : E} {ex : Expr} (h : ∀ ρ, testE call e ρ = .stuck) : PT X ex (tDT X.K cls W (testE call e)) :=
  ⟨fun pins s σ H Q I q => by
    obtain ⟨P, F, ρ, S, w⟩ := q
    rw [h] at w
    exact False.elim w⟩
theorem isNone_non {e : E} (h : e.isNone = true) : e = .non := by cases e <;> first | rfl | cases h
theorem isTrue_bl {e : E} (h : isTrueLit e = true) : e = .bl true := by
  cases e with
  | bl b => cases b <;> first | rfl | cases h
  | _ => cases h
/-- each argument keeps its word -/
def AllPE (cls : Nat → Addr) (call : Nat → Option (List D) → List D → DL.CR) (X : Cx) (W : WX) : Es → List Expr → Prop
  | .nil, xs => xs = []
  | .cons e es, xs => match xs with
    | x :: xs => PE X x (tD X.K cls W (evalE call e)) ∧ notStar x = true ∧ AllPE cls call X W es xs
    | [] => False
theorem AllPE.pa {X : Cx} {W : WX} : ∀ {es : Es} {xs : List Expr}, AllPE cls call X W es xs → PA X xs (tDA X.K cls W (evalEs call es))
  | .nil, xs, h => by
    simp only [AllPE] at h
    subst h
    rw [eA_nil]
    exact PA.wk pa_nil fun σ H Q q => d_nil q
  | .cons e es, xs, h => by
    cases xs with
    | nil => simp [AllPE] at h
    | cons x xs =>
      simp only [AllPE] at h
      rw [eA_cons]
      exact PA.wk (pa_cons h.1 (AllPE.pa h.2.2) (star_cons h.2.1)) fun σ H Q q => d_cons q
theorem AllPE.pv {X : Cx} {W : WX} : ∀ {es : Es} {xs : List Expr}, AllPE cls call X W es xs → PA X xs (tDV X.K cls W (evalVs call es))
  | .nil, xs, h => by
    simp only [AllPE] at h
    subst h
    rw [eV_nil]
    exact PA.wk pa_nil fun σ H Q q => d_vnil q
  | .cons e es, xs, h => by
    cases xs with
    | nil => simp [AllPE] at h
    | cons x xs =>
      simp only [AllPE] at h
      rw [eV_cons]
      exact PA.wk (pa_cons h.1 (AllPE.pv h.2.2) (star_cons h.2.1)) fun σ H Q q => d_vcons q
theorem AllPE.star {X : Cx} {W : WX} : ∀ {es : Es} {xs : List Expr} {pos : Pos}, AllPE cls call X W es xs → (backTo pos (starEach xs X.env)).any (·.1) = false
  | .nil, xs, pos, h => by
    simp only [AllPE] at h
    subst h
    rfl
  | .cons e es, xs, pos, h => by
    cases xs with
    | nil => simp [AllPE] at h
    | cons x xs =>
      simp only [AllPE] at h
      rw [star_cons h.2.1]
      show (false || (backTo pos (starEach xs X.env)).any (·.1)) = false
      rw [AllPE.star h.2.2]
      rfl
theorem AllPE.cons {X : Cx} {W : WX} {es : Es} {x : Expr} {xs : List Expr} (h : AllPE cls call X W es (x :: xs)) : ∃ e es', es = .cons e es' ∧ PE X x (tD X.K cls W (evalE call e)) ∧ notStar x = true ∧ AllPE cls call X W es' xs := by
  cases es with
  | nil => simp [AllPE] at h
  | cons e es => simp only [AllPE] at h; exact ⟨e, es, rfl, h⟩
theorem AllPE.nil {X : Cx} {W : WX} {es : Es} (h : AllPE cls call X W es []) : es = .nil := by
  cases es with
  | nil => rfl
  | cons e es => simp [AllPE] at h
theorem keepBm {X : Cx} {W : WX} {y : Expr} {e : E} {cpos : Pos} (hy : notStar y = true) : ((backTo cpos (starEach (y :: []) X.env)).all (fun x => !x.1) && (backToKw cpos (keywordEach [] X.env)).all (fun x => x.1.isSome)
      && decide ((y :: []).length + ([] : List Keyword).length + (if ([] : List Keyword).isEmpty then 0 else 1) < 30)) = true := by
  rw [star_cons hy]
  rfl
theorem pa_one {X : Cx} {e : Expr} {t : TE} (h : PE X e t) (hs : notStar e = true) : PA X [e] (tCons t tNil) := pa_cons h pa_nil (star_cons hs)

def OkE (cls : Nat → Addr) (k0 : Nat) (call : Nat → Option (List D) → List D → DL.CR) (e : E) : Prop := ∀ (C : Ck) (ex : Expr) (X : Cx) (W : WX), XOk cls k0 call C X W → ckE e C ex = true → PE X ex (tD X.K cls W (evalE call e))
def OkT (cls : Nat → Addr) (k0 : Nat) (call : Nat → Option (List D) → List D → DL.CR) (e : E) : Prop := ∀ (C : Ck) (ex : Expr) (X : Cx) (W : WX), XOk cls k0 call C X W → ckE e C ex = true → PT X ex (tDT X.K cls W (testE call e)) ∧ ∀ op xs pos, ex = .BoolOp op xs pos → PW X ex (tDT X.K cls W (testE call e))
def OkEs (cls : Nat → Addr) (k0 : Nat) (call : Nat → Option (List D) → List D → DL.CR) (es : Es) : Prop := ∀ (C : Ck) (xs : List Expr) (X : Cx) (W : WX), XOk cls k0 call C X W → ckEs es C xs = true → AllPE cls call X W es xs
def OkW (cls : Nat → Addr) (k0 : Nat) (call : Nat → Option (List D) → List D → DL.CR) (k : Wk) : Prop := ∀ (C : Ck) (tg ex : Expr) (X : Cx) (W : WX), XOk cls k0 call C X W → ckW k C tg ex = true → PI X tg ex (tDI X.K cls W (evalIt call k))

theorem oE_int (i : Int) : OkE cls k0 call (.int i) := by
  intro C ex X W O h
  unfold ckE at h
  split at h
  · have e := of_decide_eq_true h
    subst e
    rw [eE_int]
    exact PE.wk pe_int fun σ H Q q => d_val (fun F => .int) q
  · cases h

theorem oE_bl (b : Bool) : OkE cls k0 call (.bl b) := by
  intro C ex X W O h
  unfold ckE at h
  split at h
  · have e := of_decide_eq_true h
    subst e
    rw [eE_bl]
    exact PE.wk pe_bl fun σ H Q q => d_val (fun F => .bl) q
  · cases h

theorem oE_non  : OkE cls k0 call (.non) := by
  intro C ex X W O h
  unfold ckE at h
  split at h
  · rw [eE_non]
    exact PE.wk pe_non fun σ H Q q => d_val (fun F => .non) q
  · cases h

theorem oE_str (s : Str) : OkE cls k0 call (.str s) := by
  intro C ex X W O h
  unfold ckE at h
  split at h
  · have e := of_decide_eq_true h
    subst e
    rw [eE_str]
    exact PE.wk pe_str fun σ H Q q => d_val (fun F => .str) q
  · cases h

theorem oE_var (i : Nat) : OkE cls k0 call (.var i) := by
  intro C ex X W O h
  unfold ckE at h
  rw [eE_var]
  exact PE.wk (var_ok O h).1 fun σ H Q q => d_var q

theorem oE_glob (x : Str) (d : D) : OkE cls k0 call (.glob x d) := by
  intro C ex X W O h
  unfold ckE at h
  split at h
  · obtain ⟨h1, h2⟩ := and4 h
    obtain ⟨g1, g2⟩ := O.gl h1
    split at h2
    · rename_i e he
      have e2 := D.same_eq _ _ h2
      subst e2
      obtain ⟨u, v, m1, m2, m3⟩ := O.G.const _ _ he
      rw [eE_glob]
      exact PE.wk (pe_glob g1 m1 m2 g2) fun σ H Q q => d_val m3 q
    · cases h2
  · cases h

theorem oE_bin (op : Bop) (a : E) (b : E) (i_b : OkE cls k0 call b) (i_a : OkE cls k0 call a) : OkE cls k0 call (.bin op a b) := by
  intro C ex X W O h
  unfold ckE at h
  split at h
  · obtain ⟨h1, h3⟩ := and4 h
    obtain ⟨h1, h2⟩ := and4 h1
    have e := of_decide_eq_true h1
    subst e
    rw [eE_bin]
    exact PE.wk (pe_op (opD_bin op) (i_a C _ X W O h2) (i_b C _ X W O h3)) fun σ H Q q => d_op q
  · cases h

theorem oE_neg (a : E) (i_a : OkE cls k0 call a) : OkE cls k0 call (.neg a) := by
  intro C ex X W O h
  unfold ckE at h
  split at h
  · rw [eE_neg]
    exact PE.wk (pe_un un_neg (i_a C _ X W O h)) fun σ H Q q => d_neg q
  · cases h

theorem oE_cmp (op : Cop) (a : E) (b : E) (i_b : OkE cls k0 call b) (i_a : OkE cls k0 call a) : OkE cls k0 call (.cmp op a b) := by
  intro C ex X W O h
  unfold ckE at h
  split at h
  · obtain ⟨h, h5⟩ := and4 h
    obtain ⟨h, h4⟩ := and4 h
    obtain ⟨h, h3⟩ := and4 h
    obtain ⟨h1, h2⟩ := and4 h
    have e := of_decide_eq_true h1
    subst e
    rw [eE_cmp]
    exact PE.wk (pe_cmpR (opD_cmp (O.room h2) op) (i_a C _ X W O h4) (i_b C _ X W O h5) (by simpa using h3)) fun σ H Q q => d_op q
  · cases h

theorem oE_chain (o1 : Cop) (o2 : Cop) (a : E) (b : E) (c : E) (i_b : OkE cls k0 call b) (i_c : OkE cls k0 call c) (i_a : OkE cls k0 call a) : OkE cls k0 call (.chain o1 o2 a b c) := by
  intro C ex X W O h
  unfold ckE at h
  split at h
  · obtain ⟨h, h7⟩ := and4 h
    obtain ⟨h, h6⟩ := and4 h
    obtain ⟨h, h5⟩ := and4 h
    obtain ⟨h, h4⟩ := and4 h
    obtain ⟨h, h3⟩ := and4 h
    obtain ⟨h1, h2⟩ := and4 h
    have e := of_decide_eq_true h1
    have e' := of_decide_eq_true h2
    subst e e'
    rw [eE_chain]
    exact PE.wk (pe_chain (opD_cmp (O.room h3) o1) (opD_cmp (O.room h3) o2) (i_a C _ X W O h5) (i_b C _ X W O h6) (i_c C _ X W O h7) (by simpa using h4)) fun σ H Q q => d_chain q
  · cases h

theorem oE_isN (neg : Bool) (a : E) (i_a : OkE cls k0 call a) : OkE cls k0 call (.isN neg a) := by
  intro C ex X W O h
  unfold ckE at h
  split at h
  · obtain ⟨h1, h2⟩ := and4 h
    have e := of_decide_eq_true h1
    subst e
    rw [eE_isN]
    cases neg with
    | true => exact PE.wk (pe_cmp (pc_notN (i_a C _ X W O h2)) rfl) fun σ H Q q => d_notN q
    | false => exact PE.wk (pe_cmp (pc_isN (i_a C _ X W O h2)) rfl) fun σ H Q q => d_isN q
  · cases h

theorem oE_and (a : E) (b : E) (i_b : OkE cls k0 call b) (i_a : OkE cls k0 call a) : OkE cls k0 call (.and a b) := by
  intro C ex X W O h
  unfold ckE at h
  split at h
  · obtain ⟨h1, h2⟩ := and4 h
    rw [eE_and]
    exact PE.wk (pe_andT (i_a C _ X W O h1) (i_b C _ X W O h2)) fun σ H Q q => d_and q
  · cases h

theorem oE_or (a : E) (b : E) (i_b : OkE cls k0 call b) (i_a : OkE cls k0 call a) : OkE cls k0 call (.or a b) := by
  intro C ex X W O h
  unfold ckE at h
  split at h
  · obtain ⟨h1, h2⟩ := and4 h
    rw [eE_or]
    exact PE.wk (pe_orT (i_a C _ X W O h1) (i_b C _ X W O h2)) fun σ H Q q => d_or q
  · cases h

theorem oE_one (a : E) (i_a : OkE cls k0 call a) : OkE cls k0 call (.one a) := by
  intro C ex X W O h
  unfold ckE at h
  split at h
  · rw [eE_one]
    exact pe_one (i_a C _ X W O h)
  · cases h

theorem oE_not (a : E) (i_a : OkE cls k0 call a) : OkE cls k0 call (.not a) := by
  intro C ex X W O h
  unfold ckE at h
  split at h
  · rw [eE_not]
    exact PE.wk (pe_notT (i_a C _ X W O h)) fun σ H Q q => d_not q
  · cases h

theorem oE_ite (c : E) (a : E) (b : E) (i_b : OkE cls k0 call b) (i_a : OkE cls k0 call a) (t_c : OkT cls k0 call c) : OkE cls k0 call (.ite c a b) := by
  intro C ex X W O h
  unfold ckE at h
  split at h
  · obtain ⟨h, h3⟩ := and4 h
    obtain ⟨h1, h2⟩ := and4 h
    rw [eE_ite]
    exact PE.wk (pe_ifExp (t_c C _ X W O h1).1 (i_a C _ X W O h2) (i_b C _ X W O h3)) fun σ H Q q => d_ite q
  · cases h

theorem oE_tup (es : Es) (s_es : OkEs cls k0 call es) : OkE cls k0 call (.tup es) := by
  intro C ex X W O h
  unfold ckE at h
  split at h
  · rw [eE_tup]
    exact PE.wk (pe_tup (s_es C _ X W O h).pa) fun σ H Q q => d_tup q
  · cases h

theorem oE_lst (es : Es) (s_es : OkEs cls k0 call es) : OkE cls k0 call (.lst es) := by
  intro C ex X W O h
  unfold ckE at h
  split at h
  · rw [eE_lst]
    exact PE.wk (pe_lst (s_es C _ X W O h).pa) fun σ H Q q => d_lst q
  · cases h

theorem oE_call (f : Nat) (es : Es) (s_es : OkEs cls k0 call es) : OkE cls k0 call (.call f es) := by
  intro C ex X W O h
  unfold ckE at h
  split at h
  · rename_i x p xs pos
    obtain ⟨h, h4⟩ := and4 h
    obtain ⟨h, h3⟩ := and4 h
    obtain ⟨h1, h2⟩ := and4 h
    obtain ⟨g1, g2⟩ := O.gl h2
    split at h3
    · rename_i i np io hl
      simp only [Bool.and_eq_true, decide_eq_true_eq, Bool.not_eq_true'] at h3
      obtain ⟨⟨⟨rfl, rfl⟩, rfl⟩, h7⟩ := h3
      obtain ⟨fa, fd, ps, m1, m2, m3, F⟩ := O.G.fn _ _ _ _ hl
      rw [eE_call]
      cases xs with
      | nil => cases h7
      | cons y ys =>
        have ca := s_es C _ X W O h4
        obtain ⟨hst, hany⟩ : notStar y = true ∧ (backTo pos (starEach ys X.env)).any (·.1) = false := by
          obtain ⟨e, es', e1, k1, k2, k3⟩ := ca.cons
          exact ⟨k2, k3.star⟩
        exact PE.wk (pe_callS (E := WE W) F (O.room h1) g1 m1 m2 m3 (fun σ => passAt O.tk σ) ca.pa g2 (star_cons hst) hany) fun σ H Q q => d_call (fun q => es_len es h4 q) q
    · cases h3
  · cases h

theorem oE_callIO (f : Nat) (i : Nat) (es : Es) (s_es : OkEs cls k0 call es) : OkE cls k0 call (.callIO f i es) := by
  intro C ex X W O h
  unfold ckE at h
  split at h
  · rename_i x p y xs pos
    obtain ⟨h, h5⟩ := and4 h
    obtain ⟨h, h4⟩ := and4 h
    obtain ⟨h, h3⟩ := and4 h
    obtain ⟨h1, h2⟩ := and4 h
    obtain ⟨g1, g2⟩ := O.gl h2
    split at h3
    · rename_i j np io hl
      simp only [Bool.and_eq_true, decide_eq_true_eq] at h3
      obtain ⟨⟨rfl, rfl⟩, rfl⟩ := h3
      obtain ⟨fa, fd, ps, m1, m2, m3, F⟩ := O.G.fn _ _ _ _ hl
      obtain ⟨hv, z, zp, rfl⟩ := var_ok O h4
      have ca := s_es C _ X W O h5
      rw [eE_callIO]
      exact PE.wk (pe_callS (E := WE W) F (O.room h1) g1 m1 m2 m3 (fun σ => passAt O.tk σ) (pa_cons hv ca.pa rfl) g2 rfl ca.star) fun σ H Q q =>
        d_callIO (fun q => tG.mono (es_len es h5 q) fun vs H' k => ⟨by rw [k.1], k.2⟩) q
    · cases h3
  · cases h

theorem oE_bi (f : Bi) (es : Es) (s_es : OkEs cls k0 call es) : OkE cls k0 call (.bi f es) := by
  intro C ex X W O h
  unfold ckE at h
  split at h
  · rename_i x p xs pos
    obtain ⟨h, h5⟩ := and4 h
    obtain ⟨h, h4⟩ := and4 h
    obtain ⟨h, h3⟩ := and4 h
    obtain ⟨h1, h2⟩ := and4 h
    have e := of_decide_eq_true h2
    subst e
    obtain ⟨g1, g2, g3, g4⟩ := O.bl h3
    rw [eE_bi]
    cases xs with
    | nil => cases h4
    | cons y ys =>
      have ca := s_es C _ X W O h5
      obtain ⟨hst, hany⟩ : notStar y = true ∧ (backTo pos (starEach ys X.env)).any (·.1) = false := by
        obtain ⟨e, es', e1, k1, k2, k3⟩ := ca.cons
        exact ⟨k2, k3.star⟩
      have hc := callD_bi (O.calm h1) f
      have hb := boot_bi f
      have ha := ca.pv
      have fin : (∃ n, biVal f = .builtin n) ∨ ∃ n, biVal f = .type n := by cases f <;> first | exact .inl ⟨_, rfl⟩ | exact .inr ⟨_, rfl⟩
      rcases fin with ⟨n, en⟩ | ⟨n, en⟩
      · rw [en] at hc hb
        exact PE.wk (pe_callB hc g1 g3 hb ha g4 g2 (star_cons hst) hany) fun σ H Q q => d_bi q
      · rw [en] at hc hb
        exact PE.wk (pe_callTy hc g1 g3 hb ha g4 g2 (star_cons hst) hany) fun σ H Q q => d_bi q
  · cases h

theorem oE_isi (a : E) (ts : List Ty) (many : Bool) (i_a : OkE cls k0 call a) : OkE cls k0 call (.isi a ts many) := by
  intro C ex X W O h
  unfold ckE at h
  split at h
  · rename_i x p y t pos
    obtain ⟨h, h5⟩ := and4 h
    obtain ⟨h, h4⟩ := and4 h
    obtain ⟨h, h3⟩ := and4 h
    obtain ⟨h1, h2⟩ := and4 h
    have e := of_decide_eq_true h1
    subst e
    obtain ⟨g1, g2, g3, g4⟩ := O.bl h2
    rw [eE_isi]
    have ha := i_a C _ X W O h4
    have bt : bootBuiltins ("isinstance" : Str) = some (.builtin "isinstance") := by kernel_rfl
    split at h5
    · split at h5
      · obtain ⟨h6, h7⟩ := and4 h5
        have hl := of_decide_eq_true h6
        refine PE.wk (pe_callB call_isiT g1 g3 bt (pa_cons ha (pa_cons (pe_tup (tys_ok O h7)) pa_nil rfl) (star_cons h3)) g4 g2 (star_cons h3) rfl) fun σ H Q q => d_isiT (by have : LIM = 16777216 := rfl; omega) q
      · cases h5
    · split at h5
      · obtain ⟨k1, k2⟩ := ty_ok O h5
        refine PE.wk (pe_callB call_isi g1 g3 bt (pa_cons ha (pa_cons k1 pa_nil (star_cons k2)) (star_cons h3)) g4 g2 (star_cons h3) (by rw [star_cons k2]; rfl)) fun σ H Q q => d_isi1 q
      · cases h5
  · cases h

theorem oE_ix (a : E) (i : E) (i_i : OkE cls k0 call i) (i_a : OkE cls k0 call a) : OkE cls k0 call (.ix a i) := by
  intro C ex X W O h
  unfold ckE at h
  split at h
  · obtain ⟨h, h3⟩ := and4 h
    obtain ⟨h1, h2⟩ := and4 h
    rw [eE_ix]
    exact PE.wk (pe_ix ixD (i_a C _ X W O h2) (i_i C _ X W O h3) (plain_ix h1)) fun σ H Q q => d_op q
  · cases h

theorem oE_slice (a : E) (l : E) (u : E) (i_u : OkE cls k0 call u) (i_a : OkE cls k0 call a) (i_l : OkE cls k0 call l) : OkE cls k0 call (.slice a l u) := by
  intro C ex X W O h
  unfold ckE at h
  split at h
  · rename_i x lo hi p2 pos
    obtain ⟨h, h3⟩ := and4 h
    obtain ⟨h1, h2⟩ := and4 h
    rw [eE_slice]
    have pl : PO X lo (tEnd l.isNone (tD X.K cls W (evalE call l))) := by
      split at h2
      · rw [h2]; exact po_none
      · obtain ⟨k1, k2⟩ := and4 h2
        rw [show l.isNone = false by simpa using k1]
        exact po_some (i_l C _ X W O k2)
    have pu : PO X hi (tEnd u.isNone (tD X.K cls W (evalE call u))) := by
      split at h3
      · rw [h3]; exact po_none
      · obtain ⟨k1, k2⟩ := and4 h3
        rw [show u.isNone = false by simpa using k1]
        exact po_some (i_u C _ X W O k2)
    exact PE.wk (pe_slice slD (i_a C _ X W O h1) pl pu) fun σ H Q q => d_slice (fun e => by rw [isNone_non e, eE_non]) (fun e => by rw [isNone_non e, eE_non]) q
  · cases h

theorem oE_rev (a : E) (i_a : OkE cls k0 call a) : OkE cls k0 call (.rev a) := by
  intro C ex X W O h
  unfold ckE at h
  split at h
  · obtain ⟨h1, h2⟩ := and4 h
    have e := of_decide_eq_true h1
    subst e
    rw [eE_rev]
    exact PE.wk (pe_revL (i_a C _ X W O h2)) fun σ H Q q => d_rev q
  · cases h

theorem oE_comp (elt : E) (p : Pat) (it : Wk) (c : E) (own : List (Str × Nat)) (i_elt : OkE cls k0 call elt) (t_c : OkT cls k0 call c) (w_it : OkW cls k0 call it) : OkE cls k0 call (.comp elt p it c own) := by
  intro C ex X W O h
  unfold ckE at h
  split at h
  · rename_i x tg iter ifs as scope pos
    obtain ⟨h, h9⟩ := and4 h
    obtain ⟨h, h8⟩ := and4 h
    obtain ⟨h, h7⟩ := and4 h
    obtain ⟨h, h6⟩ := and4 h
    obtain ⟨h, h5⟩ := and4 h
    obtain ⟨h, h4⟩ := and4 h
    obtain ⟨h, h3⟩ := and4 h
    obtain ⟨h1, h2⟩ := and4 h
    have e := of_decide_eq_true h2
    subst e
    rw [eE_comp]
    have ok : BlkOk X.N X.env.scope scope own := by rw [O.N, O.sc]; exact blkOk_by h8
    have hvs : ∀ j ∈ pnames p, j ∈ own.map (·.2) := fun j hj => of_decide_eq_true (List.all_eq_true.mp h9 j hj)
    refine PE.wk (pe_lc (O.calm h1) O.nd (w_it C tg iter X W O h5) ok (fun s H A cl fp => ckP_ok p tg (O.blk h8 s H A cl fp) h3) (fun s H A cl fp => ?_) (fun s H A cl fp => i_elt _ x _ W0 (O.blk h8 s H A cl fp) h7) (set_pure h4)) fun σ H Q q => d_comp hvs q
    split at h6
    · rw [isTrue_bl h6]
      refine ⟨fun pins s σ H Q I q => pts_nil.run pins s σ H Q I ?_⟩
      rw [show testE call (.bl true) = fun ρ => .ok true ρ by funext ρ; rw [testE]] at q
      exact d_bl q
    · exact pts_one (t_c _ _ _ W0 (O.blk h8 s H A cl fp) h6).1
    · cases h6
  · cases h

theorem oE_listRange (es : Es) (s_es : OkEs cls k0 call es) : OkE cls k0 call (.listRange es) := by
  intro C ex X W O h
  unfold ckE at h
  split at h
  · rename_i x p y p2 ys pos2 pos
    obtain ⟨h, h7⟩ := and4 h
    obtain ⟨h, h6⟩ := and4 h
    obtain ⟨h, h5⟩ := and4 h
    obtain ⟨h, h4⟩ := and4 h
    obtain ⟨h, h3⟩ := and4 h
    obtain ⟨h1, h2⟩ := and4 h
    have e := of_decide_eq_true h2
    have e' := of_decide_eq_true h3
    subst e e'
    obtain ⟨g1, g2, g3, g4⟩ := O.bl h4
    obtain ⟨f1, f2, f3, f4⟩ := O.bl h5
    have ca := s_es C _ X W O h7
    have hl := of_decide_eq_true h6
    rcases hl with hl | hl
    · obtain ⟨z, rfl⟩ : ∃ z, ys = [z] := by
        cases ys with
        | nil => cases hl
        | cons z t => cases t with
          | nil => exact ⟨z, rfl⟩
          | cons _ _ => simp at hl
      obtain ⟨a, es', e1, k1, k2, k3⟩ := ca.cons
      have e2 := k3.nil
      rw [eE_listRange, e1, eA_cons, e2]
      exact PE.wk (pe_listRg (O.calm h1) g1 g3 (prg_1 f1 f3 k1 (star_cons k2)) rfl) fun σ H Q q => d_rg1 (eA_nil call) q
    · obtain ⟨z, z2, rfl⟩ : ∃ z z2, ys = [z, z2] := by
        cases ys with
        | nil => cases hl
        | cons z t => cases t with
          | nil => cases hl
          | cons z2 t => cases t with
            | nil => exact ⟨z, z2, rfl⟩
            | cons _ _ => simp at hl
      obtain ⟨a, es', e1, k1, k2, k3⟩ := ca.cons
      obtain ⟨b, es2, e2, j1, j2, j3⟩ := k3.cons
      have e3 := j3.nil
      rw [eE_listRange, e1, eA_cons, e2, eA_cons, e3]
      exact PE.wk (pe_listRg (O.calm h1) g1 g3 (prg_2 f1 f3 k1 j1 (star_cons k2) (star_cons j2) (by rw [star_cons j2]; rfl)) rfl) fun σ H Q q => d_rg2 (eA_nil call) q
  · cases h

theorem oE_sset (a : E) (i_a : OkE cls k0 call a) : OkE cls k0 call (.sset a) := by
  intro C ex X W O h
  unfold ckE at h
  split at h
  · obtain ⟨h, h7⟩ := and4 h
    obtain ⟨h, h6⟩ := and4 h
    obtain ⟨h, h5⟩ := and4 h
    obtain ⟨h, h4⟩ := and4 h
    obtain ⟨h, h3⟩ := and4 h
    obtain ⟨h1, h2⟩ := and4 h
    have e := of_decide_eq_true h2
    have e' := of_decide_eq_true h3
    subst e e'
    obtain ⟨g1, g2, g3, g4⟩ := O.bl h4
    obtain ⟨f1, f2, f3, f4⟩ := O.bl h5
    rw [eE_sset]
    exact PE.wk (pe_callB (cr_sortedSet (O.calm h1)) g1 g3 (by decide +kernel) (pa_cons (pe_callTy (cr_setL (O.calm h1)) f1 f3 (by decide +kernel) (pa_cons (i_a C _ X W O h7) pa_nil (star_cons h6)) f4 f2 (star_cons h6) rfl) pa_nil rfl) g4 g2 rfl rfl) fun σ H Q q => d_sset q
  · cases h

theorem oE_append (i : Nat) (e : E) (i_e : OkE cls k0 call e) : OkE cls k0 call (.append i e) := by
  intro C ex X W O h
  unfold ckE at h
  split at h
  · rename_i o nm apos y cpos
    obtain ⟨h, h5⟩ := and4 h
    obtain ⟨h, h4⟩ := and4 h
    obtain ⟨h, h3⟩ := and4 h
    obtain ⟨h1, h2⟩ := and4 h
    have e1 := of_decide_eq_true h1
    subst e1
    obtain ⟨hv, z, zp, rfl⟩ := var_ok O h2
    rw [eE_append]
    exact PE.wk (pe_bm PySem.F.plainAttrs_list PySem.F.slot_list_append PySem.F.type_list_append mt_append hv (pa_one (i_e C _ X W O h5) h3) rfl (keepBm (W := W) (e := e) h3) h4 (star_cons h3) rfl) fun σ H Q q => d_append q
  · cases h

theorem oE_pop (i : Nat) (e : E) (i_e : OkE cls k0 call e) : OkE cls k0 call (.pop i e) := by
  intro C ex X W O h
  unfold ckE at h
  split at h
  · rename_i o nm apos y cpos
    obtain ⟨h, h5⟩ := and4 h
    obtain ⟨h, h4⟩ := and4 h
    obtain ⟨h, h3⟩ := and4 h
    obtain ⟨h1, h2⟩ := and4 h
    have e1 := of_decide_eq_true h1
    subst e1
    obtain ⟨hv, z, zp, rfl⟩ := var_ok O h2
    rw [eE_pop]
    exact PE.wk (pe_bm PySem.F.plainAttrs_list PySem.F.slot_list_pop PySem.F.type_list_pop mt_popAt hv (pa_one (i_e C _ X W O h5) h3) rfl (keepBm (W := W) (e := e) h3) h4 (star_cons h3) rfl) fun σ H Q q => d_pop q
  · cases h

theorem oE_extend (i : Nat) (e : E) (i_e : OkE cls k0 call e) : OkE cls k0 call (.extend i e) := by
  intro C ex X W O h
  unfold ckE at h
  split at h
  · rename_i o nm apos y cpos
    obtain ⟨h, h5⟩ := and4 h
    obtain ⟨h, h4⟩ := and4 h
    obtain ⟨h, h3⟩ := and4 h
    obtain ⟨h1, h2⟩ := and4 h
    have e1 := of_decide_eq_true h1
    subst e1
    obtain ⟨hv, z, zp, rfl⟩ := var_ok O h2
    rw [eE_extend]
    exact PE.wk (pe_bm PySem.F.plainAttrs_list PySem.F.slot_list_extend PySem.F.type_list_extend mt_extB hv (pa_one (i_e C _ X W O h5) h3) rfl (keepBm (W := W) (e := e) h3) h4 (star_cons h3) rfl) fun σ H Q q => d_extend q
  · cases h

theorem oT_and (a : E) (b : E) (t_b : OkT cls k0 call b) (t_a : OkT cls k0 call a) : OkT cls k0 call (.and a b) := by
  intro C ex X W O h
  unfold ckE at h
  split at h
  · rename_i x y r pos
    obtain ⟨h1, h2⟩ := and4 h
    have ha := (t_a C _ X W O h1).1
    have hb := (t_b C _ X W O h2).2 _ _ _ rfl
    have key : PW X (.BoolOp .And (x :: y :: r) pos) (tDT X.K cls W (testE call (.and a b))) := by
      rw [eT_and]
      exact PW.wk (pw_and ha hb) fun σ H Q q => tG.mono (d_ite q) fun c H1 g => d_ifB g
    exact ⟨key.pt, fun _ _ _ _ => key⟩
  · cases h

theorem oT_or (a : E) (b : E) (t_b : OkT cls k0 call b) (t_a : OkT cls k0 call a) : OkT cls k0 call (.or a b) := by
  intro C ex X W O h
  unfold ckE at h
  split at h
  · rename_i x y r pos
    obtain ⟨h1, h2⟩ := and4 h
    have ha := (t_a C _ X W O h1).1
    have hb := (t_b C _ X W O h2).2 _ _ _ rfl
    have key : PW X (.BoolOp .Or (x :: y :: r) pos) (tDT X.K cls W (testE call (.or a b))) := by
      rw [eT_or]
      exact PW.wk (pw_or ha hb) fun σ H Q q => tG.mono (d_ite q) fun c H1 g => d_ifB' g
    exact ⟨key.pt, fun _ _ _ _ => key⟩
  · cases h

theorem oT_one (a : E) (t_a : OkT cls k0 call a) : OkT cls k0 call (.one a) := by
  intro C ex X W O h
  unfold ckE at h
  split at h
  · rename_i op x pos
    have ha := (t_a C _ X W O h).1
    have key : PW X (.BoolOp op [x] pos) (tDT X.K cls W (testE call (.one a))) := by
      rw [eT_one]
      cases op with
      | And => exact pw_and1 ha
      | Or => exact pw_or1 ha
    exact ⟨key.pt, fun _ _ _ _ => key⟩
  · cases h

theorem oT_not (a : E) (t_a : OkT cls k0 call a) : OkT cls k0 call (.not a) := by
  intro C ex X W O h
  unfold ckE at h
  split at h
  · refine ⟨?_, fun _ _ _ e => nomatch e⟩
    rw [eT_not]
    exact PT.wk (pt_not (t_a C _ X W O h).1) fun σ H Q q => d_tnot q
  · cases h

theorem oT_cmp (op : Cop) (a : E) (b : E) (i_b : OkE cls k0 call b) (i_a : OkE cls k0 call a) : OkT cls k0 call (.cmp op a b) := by
  intro C ex X W O h
  unfold ckE at h
  split at h
  · refine ⟨?_, fun _ _ _ e => nomatch e⟩
    obtain ⟨h, h5⟩ := and4 h
    obtain ⟨h, h4⟩ := and4 h
    obtain ⟨h, h3⟩ := and4 h
    obtain ⟨h1, h2⟩ := and4 h
    have e := of_decide_eq_true h1
    subst e
    exact PT.wk (pt_cmpR (opD_cmp (O.room h2) op) (i_a C _ X W O h4) (i_b C _ X W O h5) (by simpa using h3)) fun σ H Q q => by
      have q2 := d_test (eT_cmp call op a b) q
      rw [eE_cmp] at q2
      exact d_op q2
  · cases h

theorem oT_chain (o1 : Cop) (o2 : Cop) (a : E) (b : E) (c : E) (i_b : OkE cls k0 call b) (i_c : OkE cls k0 call c) (i_a : OkE cls k0 call a) : OkT cls k0 call (.chain o1 o2 a b c) := by
  intro C ex X W O h
  unfold ckE at h
  split at h
  · refine ⟨?_, fun _ _ _ e => nomatch e⟩
    obtain ⟨h, h7⟩ := and4 h
    obtain ⟨h, h6⟩ := and4 h
    obtain ⟨h, h5⟩ := and4 h
    obtain ⟨h, h4⟩ := and4 h
    obtain ⟨h, h3⟩ := and4 h
    obtain ⟨h1, h2⟩ := and4 h
    have e := of_decide_eq_true h1
    have e' := of_decide_eq_true h2
    subst e e'
    exact PT.wk (pt_chain (opD_cmp (O.room h3) o1) (opD_cmp (O.room h3) o2) (i_a C _ X W O h5) (i_b C _ X W O h6) (i_c C _ X W O h7) (by simpa using h4)) fun σ H Q q => by
      have q2 := d_test (eT_chain call o1 o2 a b c) q
      rw [eE_chain] at q2
      exact d_chain q2
  · cases h

theorem oT_isN (neg : Bool) (a : E) (i_a : OkE cls k0 call a) : OkT cls k0 call (.isN neg a) := by
  intro C ex X W O h
  unfold ckE at h
  split at h
  · refine ⟨?_, fun _ _ _ e => nomatch e⟩
    obtain ⟨h1, h2⟩ := and4 h
    have e := of_decide_eq_true h1
    subst e
    cases neg with
    | true =>
      exact PT.wk (pt_cmp (pc_notN (i_a C _ X W O h2)) rfl) fun σ H Q q => by
        have q2 := d_test (eT_isN call true a) q
        rw [eE_isN] at q2
        exact d_notN q2
    | false =>
      exact PT.wk (pt_cmp (pc_isN (i_a C _ X W O h2)) rfl) fun σ H Q q => by
        have q2 := d_test (eT_isN call false a) q
        rw [eE_isN] at q2
        exact d_isN q2
  · cases h

theorem oT_int (i : Int) (hself : OkE cls k0 call (.int i)) : OkT cls k0 call (.int i) := by
  intro C ex X W O h
  have he := hself C ex X W O h
  unfold ckE at h
  split at h
  · exact ⟨pt_of he (tr_int call i) fun _ => rfl, fun _ _ _ e => nomatch e⟩
  · cases h

theorem oT_bl (i : Bool) (hself : OkE cls k0 call (.bl i)) : OkT cls k0 call (.bl i) := by
  intro C ex X W O h
  have he := hself C ex X W O h
  unfold ckE at h
  split at h
  · exact ⟨pt_of he (tr_bl call i) fun _ => rfl, fun _ _ _ e => nomatch e⟩
  · cases h

theorem oT_non (hself : OkE cls k0 call (.non)) : OkT cls k0 call (.non) := by
  intro C ex X W O h
  have he := hself C ex X W O h
  unfold ckE at h
  split at h
  · exact ⟨pt_of he (tr_non call) fun _ => rfl, fun _ _ _ e => nomatch e⟩
  · cases h

theorem oT_call (f : Nat) (es : Es) (hself : OkE cls k0 call (.call f es)) : OkT cls k0 call (.call f es) := by
  intro C ex X W O h
  have he := hself C ex X W O h
  unfold ckE at h
  split at h
  · exact ⟨pt_of he (tr_call call f es) fun _ => rfl, fun _ _ _ e => nomatch e⟩
  · cases h

theorem oT_callIO (f : Nat) (i : Nat) (es : Es) (hself : OkE cls k0 call (.callIO f i es)) : OkT cls k0 call (.callIO f i es) := by
  intro C ex X W O h
  have he := hself C ex X W O h
  unfold ckE at h
  split at h
  · exact ⟨pt_of he (tr_callIO call f i es) fun _ => rfl, fun _ _ _ e => nomatch e⟩
  · cases h

theorem oT_bi (f : Bi) (es : Es) (hself : OkE cls k0 call (.bi f es)) : OkT cls k0 call (.bi f es) := by
  intro C ex X W O h
  have he := hself C ex X W O h
  unfold ckE at h
  split at h
  · exact ⟨pt_of he (tr_bi call f es) fun _ => rfl, fun _ _ _ e => nomatch e⟩
  · cases h

theorem oT_isi (a : E) (ts : List Ty) (m : Bool) (hself : OkE cls k0 call (.isi a ts m)) : OkT cls k0 call (.isi a ts m) := by
  intro C ex X W O h
  have he := hself C ex X W O h
  unfold ckE at h
  split at h
  · exact ⟨pt_of he (tr_isi call a ts m) fun _ => rfl, fun _ _ _ e => nomatch e⟩
  · cases h

theorem oT_ix (a : E) (i : E) (hself : OkE cls k0 call (.ix a i)) : OkT cls k0 call (.ix a i) := by
  intro C ex X W O h
  have he := hself C ex X W O h
  unfold ckE at h
  split at h
  · exact ⟨pt_of he (tr_ix call a i) fun _ => rfl, fun _ _ _ e => nomatch e⟩
  · cases h

theorem oT_var (i : Nat) (hself : OkE cls k0 call (.var i)) : OkT cls k0 call (.var i) := by
  intro C ex X W O h
  have he := hself C ex X W O h
  unfold ckE at h
  obtain ⟨_, z, zp, rfl⟩ := var_ok O h
  exact ⟨pt_of he (tr_var call i) fun _ => rfl, fun _ _ _ e => nomatch e⟩

theorem oT_str (s : Str) : OkT cls k0 call (.str s) := by
  intro C ex X W O h
  unfold ckE at h
  split at h
  · exact ⟨pt_stuck (fun ρ => by unfold testE; rfl), fun _ _ _ e => nomatch e⟩
  · cases h

theorem oT_glob (x : Str) (d : D) : OkT cls k0 call (.glob x d) := by
  intro C ex X W O h
  unfold ckE at h
  split at h
  · exact ⟨pt_stuck (fun ρ => by unfold testE; rfl), fun _ _ _ e => nomatch e⟩
  · cases h

theorem oT_bin (op : Bop) (a : E) (b : E) : OkT cls k0 call (.bin op a b) := by
  intro C ex X W O h
  unfold ckE at h
  split at h
  · exact ⟨pt_stuck (fun ρ => by unfold testE; rfl), fun _ _ _ e => nomatch e⟩
  · cases h

theorem oT_neg (a : E) : OkT cls k0 call (.neg a) := by
  intro C ex X W O h
  unfold ckE at h
  split at h
  · exact ⟨pt_stuck (fun ρ => by unfold testE; rfl), fun _ _ _ e => nomatch e⟩
  · cases h

theorem oT_ite (c : E) (a : E) (b : E) : OkT cls k0 call (.ite c a b) := by
  intro C ex X W O h
  unfold ckE at h
  split at h
  · exact ⟨pt_stuck (fun ρ => by unfold testE; rfl), fun _ _ _ e => nomatch e⟩
  · cases h

theorem oT_tup (es : Es) : OkT cls k0 call (.tup es) := by
  intro C ex X W O h
  unfold ckE at h
  split at h
  · exact ⟨pt_stuck (fun ρ => by unfold testE; rfl), fun _ _ _ e => nomatch e⟩
  · cases h

theorem oT_lst (es : Es) : OkT cls k0 call (.lst es) := by
  intro C ex X W O h
  unfold ckE at h
  split at h
  · exact ⟨pt_stuck (fun ρ => by unfold testE; rfl), fun _ _ _ e => nomatch e⟩
  · cases h

theorem oT_slice (a : E) (l : E) (u : E) : OkT cls k0 call (.slice a l u) := by
  intro C ex X W O h
  unfold ckE at h
  split at h
  · exact ⟨pt_stuck (fun ρ => by unfold testE; rfl), fun _ _ _ e => nomatch e⟩
  · cases h

theorem oT_rev (a : E) : OkT cls k0 call (.rev a) := by
  intro C ex X W O h
  unfold ckE at h
  split at h
  · exact ⟨pt_stuck (fun ρ => by unfold testE; rfl), fun _ _ _ e => nomatch e⟩
  · cases h

theorem oT_comp (elt : E) (p : Pat) (it : Wk) (c : E) (own : List (Str × Nat)) : OkT cls k0 call (.comp elt p it c own) := by
  intro C ex X W O h
  unfold ckE at h
  split at h
  · exact ⟨pt_stuck (fun ρ => by unfold testE; rfl), fun _ _ _ e => nomatch e⟩
  · cases h

theorem oT_listRange (es : Es) : OkT cls k0 call (.listRange es) := by
  intro C ex X W O h
  unfold ckE at h
  split at h
  · exact ⟨pt_stuck (fun ρ => by unfold testE; rfl), fun _ _ _ e => nomatch e⟩
  · cases h

theorem oT_sset (a : E) : OkT cls k0 call (.sset a) := by
  intro C ex X W O h
  unfold ckE at h
  split at h
  · exact ⟨pt_stuck (fun ρ => by unfold testE; rfl), fun _ _ _ e => nomatch e⟩
  · cases h

theorem oT_append (i : Nat) (e : E) : OkT cls k0 call (.append i e) := by
  intro C ex X W O h
  unfold ckE at h
  split at h
  · exact ⟨pt_stuck (fun ρ => by unfold testE; rfl), fun _ _ _ e => nomatch e⟩
  · cases h

theorem oT_pop (i : Nat) (e : E) : OkT cls k0 call (.pop i e) := by
  intro C ex X W O h
  unfold ckE at h
  split at h
  · exact ⟨pt_stuck (fun ρ => by unfold testE; rfl), fun _ _ _ e => nomatch e⟩
  · cases h

theorem oT_extend (i : Nat) (e : E) : OkT cls k0 call (.extend i e) := by
  intro C ex X W O h
  unfold ckE at h
  split at h
  · exact ⟨pt_stuck (fun ρ => by unfold testE; rfl), fun _ _ _ e => nomatch e⟩
  · cases h

theorem oW_plain (e : E) (i_e : OkE cls k0 call e) : OkW cls k0 call (.plain e) := by
  intro C tg ex X W O h
  unfold ckW at h
  rw [eI_plain]
  exact PI.wk (pi_seq (i_e C _ X W O h)) fun σ H Q q => d_plain q

theorem oW_range (es : Es) (s_es : OkEs cls k0 call es) : OkW cls k0 call (.range es) := by
  intro C tg ex X W O h
  unfold ckW at h
  split at h
  · rename_i x p ys pos
    obtain ⟨h, h4⟩ := and4 h
    obtain ⟨h, h3⟩ := and4 h
    obtain ⟨h1, h2⟩ := and4 h
    have e := of_decide_eq_true h1
    subst e
    obtain ⟨g1, g2, g3, g4⟩ := O.bl h2
    have ca := s_es C _ X W O h4
    have hl := of_decide_eq_true h3
    rw [eI_range]
    rcases hl with hl | hl
    · obtain ⟨z, rfl⟩ : ∃ z, ys = [z] := by
        cases ys with
        | nil => cases hl
        | cons z t => cases t with
          | nil => exact ⟨z, rfl⟩
          | cons _ _ => simp at hl
      obtain ⟨a, es', e1, k1, k2, k3⟩ := ca.cons
      exact PI.wk (pi_range1 g1 g3 ca.pa (star_cons k2)) fun σ H Q q => by
        have q2 := es_len es h4 (d_iRange (P' := fun _ _ => True) q)
        exact tG.mono q2 fun vs H1 g => by
          rcases g.2 with ⟨j, e, r⟩ | ⟨i, j, e, r⟩
          · exact ⟨j, e, r⟩
          · rw [e] at g; exact absurd g.1 (by simp)
    · obtain ⟨z, z2, rfl⟩ : ∃ z z2, ys = [z, z2] := by
        cases ys with
        | nil => cases hl
        | cons z t => cases t with
          | nil => cases hl
          | cons z2 t => cases t with
            | nil => exact ⟨z, z2, rfl⟩
            | cons _ _ => simp at hl
      obtain ⟨a, es', e1, k1, k2, k3⟩ := ca.cons
      obtain ⟨b, es2, e2, j1, j2, j3⟩ := k3.cons
      exact PI.wk (pi_range2 g1 g3 ca.pa (by rw [star_cons k2, star_cons j2]; rfl) (star_cons j2)) fun σ H Q q => by
        have q2 := es_len es h4 (d_iRange (P' := fun _ _ => True) q)
        exact tG.mono q2 fun vs H1 g => by
          rcases g.2 with ⟨j, e, r⟩ | ⟨i, j, e, r⟩
          · rw [e] at g; exact absurd g.1 (by simp)
          · exact ⟨i, j, e, r⟩
  · cases h

theorem oW_enum (e : E) (i_e : OkE cls k0 call e) : OkW cls k0 call (.enum e) := by
  intro C tg ex X W O h
  unfold ckW at h
  split at h
  · obtain ⟨h, h5⟩ := and4 h
    obtain ⟨h, h4⟩ := and4 h
    obtain ⟨h, h3⟩ := and4 h
    obtain ⟨h1, h2⟩ := and4 h
    have e1 := of_decide_eq_true h1
    subst e1
    obtain ⟨g1, g2, g3, g4⟩ := O.bl h2
    rw [eI_enum]
    cases tg with
    | Tuple elts kk tpos => exact PI.wk (pi_enB g1 g3 (pa_one (i_e C _ X W O h5) h4) (star_cons h4)) fun σ H Q q => d_enum q
    | _ => cases h3
  · cases h

theorem oW_zip (a : E) (b : E) (i_b : OkE cls k0 call b) (i_a : OkE cls k0 call a) : OkW cls k0 call (.zip a b) := by
  intro C tg ex X W O h
  unfold ckW at h
  split at h
  · obtain ⟨h, h7⟩ := and4 h
    obtain ⟨h, h6⟩ := and4 h
    obtain ⟨h, h5⟩ := and4 h
    obtain ⟨h, h4⟩ := and4 h
    obtain ⟨h, h3⟩ := and4 h
    obtain ⟨h1, h2⟩ := and4 h
    have e1 := of_decide_eq_true h1
    subst e1
    obtain ⟨g1, g2, g3, g4⟩ := O.bl h2
    rw [eI_zip]
    cases tg with
    | Tuple elts kk tpos => exact PI.wk (pi_ziB g1 g3 (pa_cons (i_a C _ X W O h6) (pa_one (i_b C _ X W O h7) h5) (star_cons h4)) (star_cons h4) (by rw [star_cons h5]; rfl)) fun σ H Q q => d_zip q
    | _ => cases h3
  · cases h

theorem oEs_nil : OkEs cls k0 call .nil := by
  intro C xs X W O h
  unfold ckEs at h
  rw [List.isEmpty_iff] at h
  exact h
theorem oEs_cons (e : E) (es : Es) (i_e : OkE cls k0 call e) (s_es : OkEs cls k0 call es) : OkEs cls k0 call (.cons e es) := by
  intro C xs X W O h
  unfold ckEs at h
  split at h
  · obtain ⟨h, h3⟩ := and4 h
    obtain ⟨h1, h2⟩ := and4 h
    exact ⟨i_e C _ X W O h2, h1, s_es C _ X W O h3⟩
  · cases h

mutual
theorem all1 : ∀ e : E, OkE cls k0 call e ∧ OkT cls k0 call e
  | .int i => have hE : OkE cls k0 call (.int i) := oE_int i; ⟨hE, oT_int i hE⟩
  | .bl b => have hE : OkE cls k0 call (.bl b) := oE_bl b; ⟨hE, oT_bl b hE⟩
  | .non => have hE : OkE cls k0 call (.non) := oE_non; ⟨hE, oT_non hE⟩
  | .str s => have hE : OkE cls k0 call (.str s) := oE_str s; ⟨hE, oT_str s⟩
  | .var i => have hE : OkE cls k0 call (.var i) := oE_var i; ⟨hE, oT_var i hE⟩
  | .glob x d => have hE : OkE cls k0 call (.glob x d) := oE_glob x d; ⟨hE, oT_glob x d⟩
  | .bin op a b => have hE : OkE cls k0 call (.bin op a b) := oE_bin op a b (all1 b).1 (all1 a).1; ⟨hE, oT_bin op a b⟩
  | .neg a => have hE : OkE cls k0 call (.neg a) := oE_neg a (all1 a).1; ⟨hE, oT_neg a⟩
  | .cmp op a b => have hE : OkE cls k0 call (.cmp op a b) := oE_cmp op a b (all1 b).1 (all1 a).1; ⟨hE, oT_cmp op a b (all1 b).1 (all1 a).1⟩
  | .chain o1 o2 a b c => have hE : OkE cls k0 call (.chain o1 o2 a b c) := oE_chain o1 o2 a b c (all1 b).1 (all1 c).1 (all1 a).1; ⟨hE, oT_chain o1 o2 a b c (all1 b).1 (all1 c).1 (all1 a).1⟩
  | .isN neg a => have hE : OkE cls k0 call (.isN neg a) := oE_isN neg a (all1 a).1; ⟨hE, oT_isN neg a (all1 a).1⟩
  | .and a b => have hE : OkE cls k0 call (.and a b) := oE_and a b (all1 b).1 (all1 a).1; ⟨hE, oT_and a b (all1 b).2 (all1 a).2⟩
  | .or a b => have hE : OkE cls k0 call (.or a b) := oE_or a b (all1 b).1 (all1 a).1; ⟨hE, oT_or a b (all1 b).2 (all1 a).2⟩
  | .one a => have hE : OkE cls k0 call (.one a) := oE_one a (all1 a).1; ⟨hE, oT_one a (all1 a).2⟩
  | .not a => have hE : OkE cls k0 call (.not a) := oE_not a (all1 a).1; ⟨hE, oT_not a (all1 a).2⟩
  | .ite c a b => have hE : OkE cls k0 call (.ite c a b) := oE_ite c a b (all1 b).1 (all1 a).1 (all1 c).2; ⟨hE, oT_ite c a b⟩
  | .tup es => have hE : OkE cls k0 call (.tup es) := oE_tup es (allEs es); ⟨hE, oT_tup es⟩
  | .lst es => have hE : OkE cls k0 call (.lst es) := oE_lst es (allEs es); ⟨hE, oT_lst es⟩
  | .call f es => have hE : OkE cls k0 call (.call f es) := oE_call f es (allEs es); ⟨hE, oT_call f es hE⟩
  | .callIO f i es => have hE : OkE cls k0 call (.callIO f i es) := oE_callIO f i es (allEs es); ⟨hE, oT_callIO f i es hE⟩
  | .bi f es => have hE : OkE cls k0 call (.bi f es) := oE_bi f es (allEs es); ⟨hE, oT_bi f es hE⟩
  | .isi a ts many => have hE : OkE cls k0 call (.isi a ts many) := oE_isi a ts many (all1 a).1; ⟨hE, oT_isi a ts many hE⟩
  | .ix a i => have hE : OkE cls k0 call (.ix a i) := oE_ix a i (all1 i).1 (all1 a).1; ⟨hE, oT_ix a i hE⟩
  | .slice a l u => have hE : OkE cls k0 call (.slice a l u) := oE_slice a l u (all1 u).1 (all1 a).1 (all1 l).1; ⟨hE, oT_slice a l u⟩
  | .rev a => have hE : OkE cls k0 call (.rev a) := oE_rev a (all1 a).1; ⟨hE, oT_rev a⟩
  | .comp elt p it c own => have hE : OkE cls k0 call (.comp elt p it c own) := oE_comp elt p it c own (all1 elt).1 (all1 c).2 (allW it); ⟨hE, oT_comp elt p it c own⟩
  | .listRange es => have hE : OkE cls k0 call (.listRange es) := oE_listRange es (allEs es); ⟨hE, oT_listRange es⟩
  | .sset a => have hE : OkE cls k0 call (.sset a) := oE_sset a (all1 a).1; ⟨hE, oT_sset a⟩
  | .append i e => have hE : OkE cls k0 call (.append i e) := oE_append i e (all1 e).1; ⟨hE, oT_append i e⟩
  | .pop i e => have hE : OkE cls k0 call (.pop i e) := oE_pop i e (all1 e).1; ⟨hE, oT_pop i e⟩
  | .extend i e => have hE : OkE cls k0 call (.extend i e) := oE_extend i e (all1 e).1; ⟨hE, oT_extend i e⟩
theorem allEs : ∀ es : Es, OkEs cls k0 call es
  | .nil => oEs_nil
  | .cons e es => oEs_cons e es (all1 e).1 (allEs es)
theorem allW : ∀ k : Wk, OkW cls k0 call k
  | .plain e => oW_plain e (all1 e).1
  | .range es => oW_range es (allEs es)
  | .enum e => oW_enum e (all1 e).1
  | .zip a b => oW_zip a b (all1 b).1 (all1 a).1
end
end
end DL

end
section
set_option maxRecDepth 100000
set_option maxHeartbeats 400000
/-! DL, part 16: statements and defs keep the interpreter's word. -/
namespace DL
open PySem PySem.Spec PyProof.Rows L2
section
variable (cls : Nat → Addr) (k0 : Nat) (call : Nat → Option (List D) → List D → DL.CR)
structure XS (C : Ck) (X : Cx) (W : WX) : Prop where
  o : XOk cls k0 call C X W
  stk : X.stack = X.env :: X.outer
  frm : X.env.frame = some X.env.locals
  pso : C.cm = true → PassesOwn (model X.prog X.w) X.A X.env X.xe
def OkS (s : S) : Prop := ∀ (C : Ck) (st : Stmt) (X : Cx) (W : WX), XS cls k0 call C X W → ckS s C st = true → PS X st (tDS X.K cls W C.lo (execS call s))
def OkSs (ss : Ss) : Prop := ∀ (C : Ck) (sts : List Stmt) (X : Cx) (W : WX), XS cls k0 call C X W → ckSs ss C sts = true → PSs X sts (tDS X.K cls W C.lo (execSs call ss))
end
section
variable {cls : Nat → Addr} {k0 : Nat} {call : Nat → Option (List D) → List D → DL.CR}
/-- C(), C an own exception class without own __init__ -/
theorem pmk_own0 {X : Cx} {pos : Pos} {C : Addr} {bmB : List Value} {B newId initId : String} {x : Str} {p : Pos} (F : ExcBaseFacts B newId initId bmB) (q : PySem.W.excIn X.K C bmB newId = true) (gC : X.mg x = some (.ref C))
    (kC : PySem.W.keepIn X.K (.ref C) = true) (r : Raises X (.ref C)) (hg : Gl X x) (hdb : (x == ("__debug__" : Str)) = false) :
    PMk X (.Call (.Name x p) [] [] pos) (fun _ H Q => Q (.ref C) none H) := by
  intro pins s σ H Q I h
  refine wpAny_Call_Name_kw (ld_glob I hg gC ?_ hdb)
  refine PySem.W.callWith_K0 I.kIn kC ?_
  show wpAny _ _ (call (.ref C) []) _ _ _
  obtain ⟨bm, N, nm, qn, bs, hdct, sn, sub, ab, col, dd, k0, k1, k2, k3, k5, mN, hC, hN, hni, T⟩ := exc_obj I.kIn q
  refine wpAny_call_exc_subT F T hC hN hni (fun h' e hm => ?_) (by show 0 ≤ sizeLine; exact Nat.zero_le _)
  exact mk_of I hm r h (I.hok.gone hm.new)
theorem op_of {e : E} : OkE cls k0 call e := (all1 e).1
theorem ot_of {e : E} : OkT cls k0 call e := (all1 e).2
theorem oS_set (i : Nat) (e : E) : OkS cls k0 call (.set i e) := by
  intro C st X W O h
  unfold ckS at h
  split at h
  · rename_i x xp ex pos
    obtain ⟨h, h5⟩ := and4 h
    obtain ⟨h, h4⟩ := and4 h
    obtain ⟨h, h3⟩ := and4 h
    obtain ⟨h1, h2⟩ := and4 h
    have h1 := of_decide_eq_true h1
    have h3 := of_decide_eq_true h3
    obtain ⟨l1, l2⟩ := O.o.sto h2
    obtain ⟨b, hb⟩ := Option.isSome_iff_exists.mp h4
    have hsw := sw_ok (l := pos.line) O.o.sc O.o.kind hb
    rw [eS_set]
    cases b with
    | false => exact PS.wk (ps_set O.o.nd (by rw [O.o.N]; exact h1) l1 (op_of C _ X W O.o h5) hsw l2) fun D σ H q => s_set h3 q
    | true =>
      cases ex with
      | ListComp elt gs scope p =>
        have hy : X.env.scope.names.lookup x = some .local := by
          simp only [swB, Option.some.injEq, Bool.and_eq_true, beq_iff_eq] at hb
          rw [O.o.sc]
          exact hb.1.1
        cases e with
        | comp elt' p' it c own =>
          unfold ckE at h5
          split at h5
          · rename_i x2 tg iter ifs as scope2 pos2 heq
            cases heq
            obtain ⟨h5, k9⟩ := and4 h5
            obtain ⟨h5, k8⟩ := and4 h5
            obtain ⟨h5, k7⟩ := and4 h5
            obtain ⟨h5, k6⟩ := and4 h5
            obtain ⟨h5, k5⟩ := and4 h5
            obtain ⟨h5, k4⟩ := and4 h5
            obtain ⟨h5, k3⟩ := and4 h5
            obtain ⟨k1, k2⟩ := and4 h5
            have e := of_decide_eq_true k2
            subst e
            have ok : BlkOk X.N X.env.scope scope own := by rw [O.o.N, O.o.sc]; exact blkOk_by k8
            have hvs : ∀ j ∈ pnames p', j ∈ own.map (·.2) := fun j hj => of_decide_eq_true (List.all_eq_true.mp k9 j hj)
            refine PS.wk (ps_setLc (te := tD X.K cls W0 (evalE call elt')) (tt := tDT X.K cls W0 (testE call c)) (g := gD X.K p') (O.o.calm k1) O.o.nd (by rw [O.o.N]; exact h1) hy hsw (allW it C tg iter X W O.o k5) ok (fun s H A cl fp => ckP_ok p' tg (O.o.blk k8 s H A cl fp) k3) (fun s H A cl fp => ?_) (fun s H A cl fp => op_of _ elt _ W0 (O.o.blk k8 s H A cl fp) k7) (set_pure k4)) fun D σ H q => ?_
            · split at k6
              · rw [isTrue_bl k6]
                refine ⟨fun pins s σ H Q I q => pts_nil.run pins s σ H Q I ?_⟩
                rw [show testE call (.bl true) = fun ρ => .ok true ρ by funext ρ; rw [testE]] at q
                exact d_bl q
              · exact pts_one (ot_of _ _ _ W0 (O.o.blk k8 s H A cl fp) k6).1
              · cases k6
            · have q2 := s_set h3 q
              rw [eE_comp] at q2
              exact d_comp hvs q2
          · cases h5
        | _ => first | (unfold ckE at h5; cases h5) | (unfold ckE Ck.var at h5; cases h5)
      | _ => cases hb
  · cases h
theorem oS_asg (p : Pat) (e : E) : OkS cls k0 call (.asg p e) := by
  intro C st X W O h
  unfold ckS at h
  split at h
  · rename_i ts k tp ex pos
    obtain ⟨h, h4⟩ := and4 h
    obtain ⟨h, h3⟩ := and4 h
    obtain ⟨h1, h2⟩ := and4 h
    rw [eS_asg]
    refine PS.wk (ps_asg (op_of C _ X W O.o h4) (ckP_ok p _ O.o h2) (sw_tup (fun x p => nofun)) (swS_no O.o.sc h1) rfl) fun D σ H q => s_asg (fun j hj => of_decide_eq_true (List.all_eq_true.mp h3 j hj)) q
  · cases h
theorem oS_par (i j : Nat) (a b : E) : OkS cls k0 call (.par i j a b) := by
  intro C st X W O h
  unfold ckS at h
  split at h
  · rename_i x px y py k1 p1 u v k2 p2 pos
    obtain ⟨h, h16⟩ := and4 h
    obtain ⟨h, h15⟩ := and4 h
    obtain ⟨h, h14⟩ := and4 h
    obtain ⟨h, h13⟩ := and4 h
    obtain ⟨h, h12⟩ := and4 h
    obtain ⟨h, h11⟩ := and4 h
    obtain ⟨h, h10⟩ := and4 h
    obtain ⟨h, h9⟩ := and4 h
    obtain ⟨h, h8⟩ := and4 h
    obtain ⟨h, h7⟩ := and4 h
    obtain ⟨h, h6⟩ := and4 h
    obtain ⟨h, h5⟩ := and4 h
    obtain ⟨h, h4⟩ := and4 h
    obtain ⟨h, h3⟩ := and4 h
    obtain ⟨h1, h2⟩ := and4 h
    have h2 := of_decide_eq_true h2
    have h3 := of_decide_eq_true h3
    have h4 := of_decide_eq_true h4
    have h5 : X.env.scope.names.lookup x = some .local := by rw [O.o.sc]; exact of_decide_eq_true h5
    have h6 : X.env.scope.names.lookup y = some .local := by rw [O.o.sc]; exact of_decide_eq_true h6
    have h7 := of_decide_eq_true h7
    have h8 := of_decide_eq_true h8
    rw [eS_par]
    exact PS.wk (ps_par (O.o.calm h1) O.o.nd (by rw [O.o.N]; exact h2) (by rw [O.o.N]; exact h3) h4 h5 h6 (pa_cons (op_of C _ X W O.o h15) (pa_one (op_of C _ X W O.o h16) h10) (star_cons h9))
      (swS_par O.o.kind h5 h6 h11 (by simpa using h12) h9 h10 (by rwa [Bool.not_eq_true'] at h13) (by rwa [Bool.not_eq_true'] at h14)) (sw_tup (fun x p => nofun))) fun D σ H q => s_par h7 h8 q
  · cases h
theorem oS_setix (i : Nat) (k e : E) : OkS cls k0 call (.setix i k e) := by
  intro C st X W O h
  unfold ckS at h
  split at h
  · rename_i o ix sp ex pos
    obtain ⟨h, h4⟩ := and4 h
    obtain ⟨h, h3⟩ := and4 h
    obtain ⟨h1, h2⟩ := and4 h
    rw [eS_setix]
    have ha : ∀ v, assign (.Subscript o ix sp) X.env v = (do
      let ov ← holding [v] (eval o X.env)
      let iv ← holding [v, ov] (eval ix X.env)
      standAt sp
      holding [v, ov, iv] (setItem ov iv v)
      release [v, ov, iv] []) := fun v => by cases ix <;> first | rfl | cases h2
    refine PS.wk (ps_asg (op_of C _ X W O.o h4) (pg_sub (var_ok O.o h1).1 (op_of C _ X W O.o h3) set_list ha) (sw_tup (fun x p => nofun)) swS_sub rfl) fun D σ H q => s_setix q
  · cases h
theorem oS_aug (i : Nat) (op : Bop) (e : E) : OkS cls k0 call (.aug i op e) := by
  intro C st X W O h
  unfold ckS at h
  split at h
  · rename_i x xp o ex pos
    obtain ⟨h, h5⟩ := and4 h
    obtain ⟨h, h4⟩ := and4 h
    obtain ⟨h, h3⟩ := and4 h
    obtain ⟨h1, h2⟩ := and4 h
    have h1 := of_decide_eq_true h1
    have h3 := of_decide_eq_true h3
    obtain ⟨l1, l2⟩ := O.o.sto h2
    rw [eS_aug]
    cases op with
    | add =>
      have e := of_decide_eq_true h4
      subst e
      exact PS.wk (ps_aug O.o.nd (by rw [O.o.N]; exact h1) l1 (op_of C _ X W O.o h5) ip_add l2) fun D σ H q => s_aug h3 q
    | sub =>
      have e := of_decide_eq_true h4
      subst e
      exact PS.wk (ps_aug O.o.nd (by rw [O.o.N]; exact h1) l1 (op_of C _ X W O.o h5) ip_sub l2) fun D σ H q => s_aug h3 q
    | _ => cases h4
  · cases h
theorem oS_expr (e : E) : OkS cls k0 call (.expr e) := by
  intro C st X W O h
  unfold ckS at h
  split at h
  · obtain ⟨h1, h2⟩ := and4 h
    rw [eS_expr]
    exact PS.wk (ps_expr (op_of C _ X W O.o h2) (sw_none h1)) fun D σ H q => s_expr q
  · cases h
theorem oS_ret (e : E) : OkS cls k0 call (.ret e) := by
  intro C st X W O h
  unfold ckS at h
  split at h
  · rw [eS_ret]
    exact PS.wk (ps_ret (op_of C _ X W O.o h)) fun D σ H q => s_ret q
  · cases h
theorem oS_retN : OkS cls k0 call .retN := by
  intro C st X W O h
  unfold ckS at h
  split at h
  · rw [eS_retN]
    exact PS.wk ps_retN fun D σ H q => s_retN q
  · cases h
theorem oS_ite (c : E) (t f : Ss) (it : OkSs cls k0 call t) (if_ : OkSs cls k0 call f) : OkS cls k0 call (.ite c t f) := by
  intro C st X W O h
  unfold ckS at h
  split at h
  · obtain ⟨h, h3⟩ := and4 h
    obtain ⟨h1, h2⟩ := and4 h
    rw [eS_ite]
    exact PS.wk (ps_if (ot_of C _ X W O.o h1).1 (it C _ X W O h2) (if_ C _ X W O h3)) fun D σ H q => s_ite q
  · cases h
theorem oS_fors (p : Pat) (it : Wk) (b : Ss) (ib : OkSs cls k0 call b) : OkS cls k0 call (.fors p it b) := by
  intro C st X W O h
  unfold ckS at h
  split at h
  · obtain ⟨h, h6⟩ := and4 h
    obtain ⟨h, h5⟩ := and4 h
    obtain ⟨h, h4⟩ := and4 h
    obtain ⟨h, h3⟩ := and4 h
    obtain ⟨h1, h2⟩ := and4 h
    rw [eS_fors]
    exact PS.wk (ps_for (O.pso h1) (O.o.calm h1) (allW it C _ _ X W O.o h4) (ckP_ok p _ O.o h2) (ib C _ X W O h6) (set_pure h3)) fun D σ H q => s_for (fun j hj => of_decide_eq_true (List.all_eq_true.mp h5 j hj)) q
  · cases h
theorem oS_whiles (c : E) (b : Ss) (ib : OkSs cls k0 call b) : OkS cls k0 call (.whiles c b) := by
  intro C st X W O h
  unfold ckS at h
  split at h
  · obtain ⟨h, h3⟩ := and4 h
    obtain ⟨h1, h2⟩ := and4 h
    rw [eS_whiles]
    exact PS.wk (ps_while (O.pso h1) (ot_of C _ X W O.o h2).1 (ib C _ X W O h3)) fun D σ H q => s_while q
  · cases h
theorem oS_raise (c : Nat) (es : Es) : OkS cls k0 call (.raise c es) := by
  intro C st X W O h
  unfold ckS at h
  split at h
  · rename_i x xp xs pos pos2
    obtain ⟨h, h5⟩ := and4 h
    obtain ⟨h, h4⟩ := and4 h
    obtain ⟨h, h3⟩ := and4 h
    obtain ⟨h1, h2⟩ := and4 h
    obtain ⟨g1, g2⟩ := O.o.gl h2
    have h4 := of_decide_eq_true h4
    split at h3
    · rename_i d hl
      have e := of_decide_eq_true h3
      subst e
      obtain ⟨bmB, B, nI, iI, F, m1, m2, m3, m4, m5⟩ := O.o.G.exc _ _ hl
      have ca := allEs es C _ X W O.o h5
      cases xs with
      | nil =>
        have e2 := ca.nil
        subst e2
        have e3 : execS call (.raise d .nil) = fun ρ => .exc d [] ρ := by funext ρ; rw [eS_raise, eA_nil]; rfl
        rw [e3]
        exact PS.wk (ps_raise (O.o.calm h1) O.o.tk (pmk_own0 F m1 m2 m3 (raises_own m4 m5) g1 g2)) fun D σ H q => s_raise0 q none
      | cons y ys =>
        obtain ⟨e, es', e1, k1, k2, k3⟩ := ca.cons
        rw [eS_raise]
        refine PS.wk (ps_raise (O.o.calm h1) O.o.tk (pmk_ownA F m1 m2 m3 (raises_own m4 m5) g1 ca.pa g2 (star_cons k2) k3.star)) fun D σ H q => ?_
        have q2 := es_len es h5 (s_raise q)
        exact tG.mono q2 fun vs H1 g => ⟨by rw [g.1, sizeLine_eq]; omega, g.2 none⟩
    · cases h3
  · cases h
theorem oS_tryx (b : Ss) (y : Str) (cs ds : List Nat) (hd : Ss) (ib : OkSs cls k0 call b) (ih : OkSs cls k0 call hd) : OkS cls k0 call (.tryx b y cs ds hd) := by
  intro C st X W O h
  unfold ckS at h
  split at h
  · rename_i body x xp h0 hs hpos pos
    obtain ⟨h, h6⟩ := and4 h
    obtain ⟨h, h5⟩ := and4 h
    obtain ⟨h, h4⟩ := and4 h
    obtain ⟨h, h3⟩ := and4 h
    obtain ⟨h1, h2⟩ := and4 h
    obtain ⟨g1, g2⟩ := O.o.gl h3
    obtain ⟨cv, m1, m2, m3⟩ := O.o.G.cl _ _ _ (of_decide_eq_true h4)
    rw [eS_tryx]
    refine PS.wk (ps_try_only (tb := fun W' => tDS X.K cls W' C.lo (execSs call b)) (ts := fun _ _ _ => tDS X.K cls W0 C.lo (execSs call hd)) (c := cv) O.stk O.frm ⟨g1, g2, m1⟩ O.o.tk (fun W' pn xe tk ps => ?_) (fun a oe cl d pn hz hv => ?_)) fun D σ H q => s_try m2 m3 q
    · exact ib C body (X.tr pn xe) W' ⟨⟨O.o.N, O.o.nd, O.o.sc, O.o.kind, O.o.fb, O.o.calm, O.o.room, tk, O.o.G⟩, O.stk, O.frm, fun _ => ps⟩ h5
    · exact ih { C with cm := false } (h0 :: hs) (X.suite a ((a, oe) :: pn)) W0 ⟨⟨O.o.N, O.o.nd, O.o.sc, O.o.kind, O.o.fb, fun z => (by cases z), fun z => (by cases z), takes0, O.o.G⟩, O.stk, O.frm, fun z => (by cases z)⟩ h6
  · cases h
theorem oS_pass : OkS cls k0 call .pass := by
  intro C st X W O h
  unfold ckS at h
  split at h
  · rw [eS_pass]
    exact PS.wk ps_pass fun D σ H q => s_next q
  · cases h
theorem oS_brk : OkS cls k0 call .brk := by
  intro C st X W O h
  unfold ckS at h
  split at h
  · rw [eS_brk]
    exact PS.wk ps_break fun D σ H q => s_brk q
  · cases h
theorem oS_cont : OkS cls k0 call .cont := by
  intro C st X W O h
  unfold ckS at h
  split at h
  · rw [eS_cont]
    exact PS.wk ps_continue fun D σ H q => s_cont q
  · cases h
/-- a statement that no run of the table comes to -/
theorem oS_never : OkS cls k0 call .never := by
  intro C st X W O h
  refine ⟨fun pins s σ H D I q => ?_⟩
  obtain ⟨P, F, ρ, S, q⟩ := q
  rw [execS] at q
  exact False.elim q
theorem oSs_nil : OkSs cls k0 call .nil := by
  intro C sts X W O h
  unfold ckSs at h
  rw [List.isEmpty_iff] at h
  subst h
  rw [eSs_nil]
  exact PSs.wk pss_nil fun D σ H q => s_next q
theorem oSs_cons (s : S) (ss : Ss) (i : OkS cls k0 call s) (is : OkSs cls k0 call ss) : OkSs cls k0 call (.cons s ss) := by
  intro C sts X W O h
  unfold ckSs at h
  split at h
  · obtain ⟨h1, h2⟩ := and4 h
    rw [eSs_cons]
    exact PSs.wk (pss_cons (i C _ X W O h1) (is C _ X W O h2)) fun D σ H q => s_seq q
  · cases h
mutual
theorem allS : ∀ s : S, OkS cls k0 call s
  | .set i e => oS_set i e
  | .asg p e => oS_asg p e
  | .par i j a b => oS_par i j a b
  | .setix i k e => oS_setix i k e
  | .aug i op e => oS_aug i op e
  | .expr e => oS_expr e
  | .ret e => oS_ret e
  | .retN => oS_retN
  | .ite c t f => oS_ite c t f (allSs t) (allSs f)
  | .fors p it b => oS_fors p it b (allSs b)
  | .whiles c b => oS_whiles c b (allSs b)
  | .raise c es => oS_raise c es
  | .tryx b y cs ds hd => oS_tryx b y cs ds hd (allSs b) (allSs hd)
  | .pass => oS_pass
  | .brk => oS_brk
  | .cont => oS_cont
  | .never => oS_never
theorem allSs : ∀ ss : Ss, OkSs cls k0 call ss
  | .nil => oSs_nil
  | .cons s ss => oSs_cons s ss (allS s) (allSs ss)
end
end
end DL

end
section
set_option maxRecDepth 100000
set_option maxHeartbeats 400000
/-! DL, part 17: a table of defs keeps the interpreter's word. -/
namespace DL
open PySem PySem.Spec PyProof.Rows L2
section
variable {K : PySem.W.Frag} {cls : Nat → Addr} {P F H : Hp}
theorem start_get {N : List Str} {vs : List V} {i : Nat} {v : V} (h : vs[i]? = some v) : (start N vs)[i]? = some (some v) := by
  unfold L2.start
  have hi : i < vs.length := (List.getElem?_eq_some_iff.mp h).1
  rw [List.getElem?_append_left (by simpa using hi), List.getElem?_map, h]
  rfl
theorem ent_val {ds : List D} {n i : Nat} {d : D} (h : (ds.map (fun x => some (Sl.val x)) ++ List.replicate n (none : Option Sl))[i]? = some (some (.val d))) : ds[i]? = some d := by
  by_cases hi : i < ds.length
  · rw [List.getElem?_append_left (by simpa using hi), List.getElem?_map] at h
    cases e : ds[i]? with
    | none => rw [e] at h; cases h
    | some x => rw [e] at h; cases h; rfl
  · rw [List.getElem?_append_right (by simpa using hi), List.getElem?_replicate] at h
    split at h <;> cases h
theorem ent_mut {ds : List D} {n i : Nat} {d : List D} (h : (ds.map (fun x => some (Sl.val x)) ++ List.replicate n (none : Option Sl))[i]? = some (some (.mut d))) : False := by
  by_cases hi : i < ds.length
  · rw [List.getElem?_append_left (by simpa using hi), List.getElem?_map] at h
    cases e : ds[i]? with
    | none => rw [e] at h; cases h
    | some x => rw [e] at h; cases h
  · rw [List.getElem?_append_right (by simpa using hi), List.getElem?_replicate] at h
    split at h <;> cases h
theorem start_len {N : List Str} {vs : List V} (h : vs.length ≤ N.length) : (start N vs).length = N.length := by
  unfold L2.start
  rw [List.length_append, List.length_map, List.length_replicate]
  omega
theorem sr_entry {N : List Str} {vs : List V} {ds : List D} (B : Bs P F H) (r : RpL K F ds vs) (hl : vs.length ≤ N.length) :
    SR K P F (ds.map (fun x => some (Sl.val x)) ++ List.replicate (N.length - ds.length) none) (start N vs) H := by
  have hr := r.len
  refine ⟨B.fh, B.ph, B.dj, ?_, fun i d q => ?_, fun i d q => (ent_mut q).elim, fun i j a d e q => (ent_mut q).elim⟩
  · rw [start_len hl, List.length_append, List.length_map, List.length_replicate]
    omega
  · obtain ⟨v, h1, h2⟩ := r.get (ent_val q)
    exact ⟨v, start_get h1, h2⟩
theorem sr_entryIO {N : List Str} {us ws : List V} {cs ds : List D} {a : Addr} (B : Bs P F H) (hN : us.length + 1 ≤ N.length) (h : H a = some (.lst ws)) (rc : RpL K F cs ws) (hF : F a = none) (hP : P a = none) (r : RpL K F ds us) :
    SR K P F (some (.mut cs) :: (ds.map (fun x => some (Sl.val x)) ++ List.replicate (N.length - (ds.length + 1)) none)) (start N (.ref a :: us)) H := by
  have hr := r.len
  have z : ∀ (i : Nat) (e : List D), (some (Sl.mut cs) :: (ds.map (fun x => some (Sl.val x)) ++ List.replicate (N.length - (ds.length + 1)) none))[i]? = some (some (.mut e)) → i = 0 ∧ e = cs := fun i e q => by
    cases i with
    | zero => cases q; exact ⟨rfl, rfl⟩
    | succ i => rw [List.getElem?_cons_succ] at q; exact (ent_mut q).elim
  refine ⟨B.fh, B.ph, B.dj, ?_, fun i d q => ?_, fun i d q => ?_, fun i j b d e q1 q2 _ _ => by rw [(z i d q1).1, (z j e q2).1]⟩
  · rw [start_len (N := N) (vs := .ref a :: us) hN, List.length_cons, List.length_append, List.length_map, List.length_replicate]
    omega
  · cases i with
    | zero => cases q
    | succ i =>
      rw [List.getElem?_cons_succ] at q
      obtain ⟨v, h1, h2⟩ := r.get (ent_val q)
      exact ⟨v, start_get (by rw [List.getElem?_cons_succ]; exact h1), h2⟩
  · obtain ⟨rfl, rfl⟩ := z i d q
    exact ⟨a, ws, start_get rfl, h, rc, hF, hP⟩
/-- what is handed back -/
theorem handed_of {io : Bool} {v : Vl} {w : Vl} {ρ : DL.Env} {σ : L2.St} {vv : V} (S : SR K P F ρ σ H) (r : RV K P F H ρ σ v vv) (h : handed ρ io v = some w) :
    (∃ d, w = .val d ∧ Rp K F d vv) ∨ ∃ es a vs, w = .own es ∧ vv = .ref a ∧ H a = some (.lst vs) ∧ RpL K F es vs ∧ F a = none ∧ P a = none ∧ (io = true → ∀ cs, ρ[0]? = some (some (.mut cs)) → σ[0]? ≠ some (some (.ref a))) := by
  cases v with
  | val d => cases h; exact .inl ⟨d, rfl, r⟩
  | own es =>
    cases h
    obtain ⟨a, vs, e, h1, h2, h3, h4, h5⟩ := r
    exact .inr ⟨es, a, vs, rfl, e, h1, h2, h3, h4, fun _ cs q => h5 0 cs q⟩
  | mref i =>
    simp only [handed] at h
    by_cases hi : io = true ∧ i = 0
    · rw [if_pos hi] at h; cases h
    · rw [if_neg hi] at h
      obtain ⟨r1, ds, r2⟩ := r
      rw [r2] at h
      cases h
      obtain ⟨a, vs, h1, h2, h3, h4, h5⟩ := S.muts i ds r2
      rw [r1] at h1
      cases h1
      exact .inr ⟨ds, a, vs, rfl, rfl, h2, h3, h4, h5, fun hio cs q z => hi ⟨hio, S.sep i 0 a ds cs r2 q r1 z⟩⟩
theorem SR.toBs {ρ : DL.Env} {σ : L2.St} (S : SR K P F ρ σ H) : Bs P F H := ⟨S.fh, S.ph, S.dj⟩
theorem end_val {Q : VK} {E : XK} {v : Vl} {ρ : DL.Env} (h : spEnd K cls P F Q E (ending false v ρ)) {σ' : L2.St} {H' F' : Hp} {vv : V} (e : Same F F') (S : SR K P F' ρ σ' H') (r : RV K P F' H' ρ σ' v vv) : Q vv H' := by
  unfold ending at h
  split at h
  · exact False.elim h
  · rename_i w hw
    rw [if_neg (by decide)] at h
    rcases handed_of S r hw with ⟨d, rfl, rd⟩ | ⟨es, a, vs, rfl, rfl, h1, h2, h3, h4, _⟩
    · exact h vv F' H' e S.toBs rd
    · exact h a vs F' H' e S.toBs h1 h2 h3 h4
theorem end_io {Q : VK} {a : Addr} {v : Vl} {ρ : DL.Env} (h : spEndIO K a P F Q (ending true v ρ)) {σ' : L2.St} {H' F' : Hp} {vv : V} (e : Same F F') (S : SR K P F' ρ σ' H') (ha : σ'[0]? = some (some (.ref a))) (r : RV K P F' H' ρ σ' v vv) : Q vv H' := by
  unfold ending at h
  split at h
  · exact False.elim h
  · rename_i w hw
    rw [if_pos rfl] at h
    split at h
    · rename_i cs hcs
      have h0 := slotMut_some hcs
      obtain ⟨a', ws, k1, k2, k3, k4, k5⟩ := S.muts 0 cs h0
      rw [ha] at k1
      cases k1
      rcases handed_of S r hw with ⟨d, rfl, rd⟩ | ⟨es, b, vs, rfl, rfl, h1, h2, h3, h4, h5⟩
      · exact h vv ws F' H' e S.toBs k2 k3 k4 rd
      · exact h b vs ws F' H' e S.toBs k2 k3 k4 h1 h2 h3 h4 fun z => h5 rfl cs h0 (by rw [z]; exact ha)
    · exact False.elim h
end
/-! ### a def -/
def scopeB (N ps : List Str) (sc : Scope) : Bool := decide (sc.kind = .function) && !sc.isCoroutine && !sc.isGenerator && decide N.Nodup && decide (N.take ps.length = ps) &&
  (ps.all fun x => decide (sc.names.lookup x = some .local) || decide (sc.names.lookup x = some .cell)) && sc.names.all fun y => !decide (y.2 = .free)
theorem scope_ok {N ps : List Str} {sc : Scope} (h : scopeB N ps sc = true) : FnScope N ps sc := by
  unfold scopeB at h
  simp only [Bool.and_eq_true, decide_eq_true_eq, Bool.not_eq_true', List.all_eq_true, Bool.or_eq_true, decide_eq_false_iff_not] at h
  obtain ⟨⟨⟨⟨⟨⟨h1, h2⟩, h3⟩, h4⟩, h5⟩, h6⟩, h7⟩ := h
  exact ⟨h1, h2, h3, h4, h5, h6, h7⟩
/-- a def of the table: its name, its statement, its slots' names, its clause -/
structure Dt where
  name : Str
  st : Stmt
  N : List Str
  d : Df
def Dt.ps (t : Dt) : List Str := t.N.take t.d.np
def Dt.ck (G : List (Str × GK)) (B : List Str) (XX : List (Str × List Nat × List Nat)) (t : Dt) : Ck := ⟨t.N, defScope t.st, fun _ => true, G, B, XX, true, if t.d.io then 1 else 0⟩
def dtB (G : List (Str × GK)) (B : List Str) (XX : List (Str × List Nat × List Nat)) (t : Dt) : Bool :=
  scopeB t.N t.ps (defScope t.st) && decide (t.d.np ≤ t.N.length) && decide (t.d.ns = t.N.length) && (!t.d.io || decide (0 < t.d.np)) && ckSs t.d.body (t.ck G B XX) (defBody t.st)
section
variable {P : Program} {w : World} {K : PySem.W.Frag} {mg : Str → Option Value} {base : Heap} {cls : Nat → Addr}
theorem fn_ok {G : List (Str × GK)} {B : List Str} {XX : List (Str × List Nat × List Nat)} {Δ : List Df} {n k : Nat} {i : Nat} {t : Dt} {f : Addr} {fd : FuncData} (hG : GOk P w K mg base cls k (run Δ n) G B XX) (hΔ : Δ[i]? = some t.d) (hc : dtB G B XX t = true)
    (Fn : Fun K t.name t.name t.st f fd) : FnOk P w K mg base (L2.CX P w) (k + 1) f fd t.ps (spD K cls t.d.np t.d.io (run Δ (n + 1) i)) := by
  unfold dtB at hc
  obtain ⟨hc, h5⟩ := and4 hc
  obtain ⟨hc, h4⟩ := and4 hc
  obtain ⟨hc, h3⟩ := and4 hc
  obtain ⟨h1, h2⟩ := and4 hc
  have h2 := of_decide_eq_true h2
  have h3 := of_decide_eq_true h3
  have sc := scope_ok h1
  have pl : t.ps.length = t.d.np := by unfold Dt.ps; rw [List.length_take]; omega
  refine Fn.okX sc (fun vs H Q E h => by rw [pl]; exact h.1) fun cdv A outer s H vs Q E hr h => ?_
  refine ⟨tDS K cls (fun cl d _ H => E cl d H) (if t.d.io then 1 else 0) (execSs (run Δ n) t.d.body), ?_, ?_⟩
  · refine allSs (k0 := k) t.d.body (t.ck G B XX) _ _ _ ⟨⟨rfl, sc.nd, rfl, sc.kind, fun _ _ => rfl, fun _ => rfl, fun _ => hr, takes_of rfl rfl rfl rfl, hG⟩, rfl, rfl, fun _ => passes_of rfl⟩ h5
  · obtain ⟨hl, h⟩ := h
    have er : ∀ cs ds, run Δ (n + 1) i cs ds = match entry t.d cs ds with
      | none => DL.CR.stuck
      | some ρ => finish t.d.io (execSs (run Δ n) t.d.body ρ) := fun cs ds => by
        show (match Δ[i]? with
          | none => DL.CR.stuck
          | some d => match entry d cs ds with
            | none => DL.CR.stuck
            | some ρ => finish d.io (execSs (run Δ n) d.body ρ)) = _
        rw [hΔ]
    cases hio : t.d.io with
    | false =>
      rw [hio] at h
      obtain ⟨P, F, ds, Bb, r, q⟩ := h
      have hd : ds.length = t.d.np := by rw [← r.len]; exact hl
      have ee : entry t.d none ds = some (ds.map (fun x => some (Sl.val x)) ++ List.replicate (t.N.length - ds.length) none) := by
        show (if t.d.io = false ∧ ds.length = t.d.np then _ else _) = _
        rw [if_pos ⟨hio, hd⟩, h3, hd]
      rw [er, ee] at q
      refine ⟨P, F, _, sr_entry Bb r (by rw [hl]; exact h2), ?_⟩
      generalize ds.map (fun x => some (Sl.val x)) ++ List.replicate (t.N.length - ds.length) none = ρ0 at q ⊢
      dsimp only at q
      rw [hio] at q
      revert q
      cases execSs (run Δ n) t.d.body ρ0 with
      | stuck => exact fun q => q
      | exc c as ρ' => exact fun q σ' H' F' d e S _ => q d F' H' e S.toBs
      | ok fl ρ' =>
        cases fl with
        | next => exact fun q σ' H' F' e S _ => end_val (v := .val .non) q e S (Rp.non (K := K) (F := F'))
        | ret v => exact fun q σ' H' F' e S _ vv r => end_val q e S r
        | brk => exact fun q => False.elim q
        | cont => exact fun q => False.elim q
    | true =>
      rw [hio] at h
      obtain ⟨P, F, a, ws, us, cs, ds, rfl, Bb, ha, rc, hF, hP, r, q⟩ := h
      have hd : ds.length + 1 = t.d.np := by rw [← r.len]; exact hl
      have ee : entry t.d (some cs) ds = some (some (.mut cs) :: (ds.map (fun x => some (Sl.val x)) ++ List.replicate (t.N.length - (ds.length + 1)) none)) := by
        show (if t.d.io = true ∧ ds.length + 1 = t.d.np then _ else _) = _
        rw [if_pos ⟨hio, hd⟩, h3, hd]
      rw [er, ee] at q
      refine ⟨P, F, _, sr_entryIO Bb (by rw [r.len]; omega) ha rc hF hP r, ?_⟩
      generalize (some (Sl.mut cs) :: (ds.map (fun x => some (Sl.val x)) ++ List.replicate (t.N.length - (ds.length + 1)) none)) = ρ0 at q ⊢
      dsimp only at q
      rw [hio] at q
      have h0 : (start t.N (.ref a :: us))[0]? = some (some (.ref a)) := start_get rfl
      revert q
      cases execSs (run Δ n) t.d.body ρ0 with
      | stuck => exact fun q => False.elim q
      | exc c as ρ' => exact fun q => False.elim q
      | ok fl ρ' =>
        cases fl with
        | next => exact fun q σ' H' F' e S k => end_io (v := .val .non) q e S ((k 0 (by decide)).trans h0) (Rp.non (K := K) (F := F'))
        | ret v => exact fun q σ' H' F' e S k vv r => end_io q e S ((k 0 (by decide)).trans h0) r
        | brk => exact fun q => False.elim q
        | cont => exact fun q => False.elim q
/-! ### the table -/
/-- what the text's top has written of the table's defs -/
def Facts (K : PySem.W.Frag) (mg : Str → Option Value) : List Dt → Prop
  | [] => True
  | t :: ts => (∃ f fd, mg t.name = some (.ref f) ∧ PySem.W.keepIn K (.ref f) = true ∧ Fun K t.name t.name t.st f fd ∧ Binds K fd t.ps []) ∧ Facts K mg ts
theorem Facts.at : ∀ {T : List Dt} {i : Nat} {t : Dt}, Facts K mg T → T[i]? = some t → ∃ f fd, mg t.name = some (.ref f) ∧ PySem.W.keepIn K (.ref f) = true ∧ Fun K t.name t.name t.st f fd ∧ Binds K fd t.ps []
  | [], _, _, _, h => by simp at h
  | u :: T, 0, t, F, h => by simp at h; subst h; exact F.1
  | u :: T, i + 1, t, F, h => Facts.at F.2 (by simpa using h)
/-- the table of globals names the defs rightly -/
def tabB (T : List Dt) (G : List (Str × GK)) : Bool := G.all fun p => match p.2 with
  | .fn i np io => (match T[i]? with
    | some t => decide (t.name = p.1) && decide (t.d.np = np) && decide (t.d.io = io)
    | none => false)
  | _ => true
theorem mem_lookupG {G : List (Str × GK)} {x : Str} {k : GK} : G.lookup x = some k → (x, k) ∈ G := by
  induction G with
  | nil => intro h; cases h
  | cons p G ih =>
    intro h
    obtain ⟨y, l⟩ := p
    rw [List.lookup_cons] at h
    split at h
    · rename_i e
      cases h
      have : x = y := by simpa using e
      rw [this]
      exact List.mem_cons_self
    · exact List.mem_cons_of_mem _ (ih h)
theorem fn_never {cr : Option (List D) → List D → DL.CR} (h : ∀ cs ds, cr cs ds = .stuck) {k : Nat} {f : Addr} {fd : FuncData} {ps : List Str} {np : Nat} {io : Bool} : FnOk P w K mg base (L2.CX P w) k f fd ps (spD K cls np io cr) := by
  have no : ∀ vs H Q E, spD K cls np io cr vs H Q E → False := fun vs H Q E q => by
    obtain ⟨_, q⟩ := q
    cases io with
    | false => obtain ⟨P, F, ds, _, _, q⟩ := q; rw [h] at q; exact q
    | true => obtain ⟨P, F, a, ws, us, cs, ds, _, _, _, _, _, _, _, q⟩ := q; rw [h] at q; exact q
  exact ⟨fun vs H Q E q => (no _ _ _ _ q).elim, fun A outer s H args us vs Q E _ _ _ _ q => (no _ _ _ _ q).elim⟩
/-- what else the globals are -/
structure GRest (K : PySem.W.Frag) (mg : Str → Option Value) (cls : Nat → Addr) (G : List (Str × GK)) (B : List Str) (XX : List (Str × List Nat × List Nat)) : Prop where
  const : ∀ x d, G.lookup x = some (.const d) → ∃ u v, mg x = some u ∧ RelV v u ∧ ∀ F, Rp K F d v
  exc : ∀ x c, G.lookup x = some (.exc c) → ∃ bmB B newId initId, ExcBaseFacts B newId initId bmB ∧ PySem.W.excIn K (cls c) bmB newId = true ∧ mg x = some (.ref (cls c)) ∧ PySem.W.keepIn K (.ref (cls c)) = true ∧
    PySem.W.subIn K (.ref (cls c)) (.type "BaseException") = some true ∧ PySem.W.typeIn K (.ref (cls c)) = some (.type "type")
  blt : ∀ x ∈ B, mg x = none
  cl : ∀ x cs ds, XX.lookup x = some (cs, ds) → ∃ cv, (mg x = some cv ∨ (mg x = none ∧ bootBuiltins x = some cv ∧ x ≠ "__name__")) ∧ (∀ c ∈ cs, PySem.W.exmOne K (.ref (cls c)) cv = some true) ∧ ∀ c ∈ ds, PySem.W.exmOne K (.ref (cls c)) cv = some false
/-- THE WHOLE TABLE -/
theorem table_ok {T : List Dt} {G : List (Str × GK)} {B : List Str} {XX : List (Str × List Nat × List Nat)} (R : GRest K mg cls G B XX) (Ft : Facts K mg T) (hG : tabB T G = true) (hT : (T.all (dtB G B XX)) = true) (k0 : Nat) :
    ∀ n i t f fd, T[i]? = some t → mg t.name = some (.ref f) → Fun K t.name t.name t.st f fd → FnOk P w K mg base (L2.CX P w) (k0 + n) f fd t.ps (spD K cls t.d.np t.d.io (run (T.map (·.d)) n i))
  | 0, i, t, f, fd, hi, hm, Fn => fn_never fun _ _ => rfl
  | n + 1, i, t, f, fd, hi, hm, Fn => by
    have gok : GOk P w K mg base cls (k0 + n) (run (T.map (·.d)) n) G B XX := by
      refine ⟨fun x j np io hx => ?_, R.const, R.exc, R.blt, R.cl⟩
      have hm := List.all_eq_true.mp hG _ (mem_lookupG hx)
      dsimp only at hm
      split at hm
      · rename_i u hu
        simp only [Bool.and_eq_true, decide_eq_true_eq] at hm
        obtain ⟨⟨rfl, rfl⟩, rfl⟩ := hm
        obtain ⟨f', fd', m1, m2, m3, m4⟩ := Ft.at hu
        exact ⟨f', fd', u.ps, m1, m2, m4, table_ok R Ft hG hT k0 n j u f' fd' hu m1 m3⟩
      · cases hm
    exact fn_ok gok (by rw [List.getElem?_map, hi]; rfl) (List.all_eq_true.mp hT t (List.mem_of_getElem? hi)) Fn
end
end DL

end
section
set_option maxRecDepth 100000
set_option maxHeartbeats 400000
/-! DL, part 18: a law by its table. -/
namespace DL
open PySem PySem.Spec PyProof.Rows L2
section
variable (K : PySem.W.Frag) (mg : Str → Option Value) (cls : Nat → Addr)
/-- a plain own exception class at C -/
structure ExcF (x : Str) (C : Addr) : Prop where
  ex : ∃ bmB B newId initId, ExcBaseFacts B newId initId bmB ∧ PySem.W.excIn K C bmB newId = true
  mg : mg x = some (.ref C)
  kp : PySem.W.keepIn K (.ref C) = true
  sub : PySem.W.subIn K (.ref C) (.type "BaseException") = some true
  ty : PySem.W.typeIn K (.ref C) = some (.type "type")
def GAll : List (Str × GK) → Prop
  | [] => True
  | (x, .const d) :: r => (∃ u v, mg x = some u ∧ RelV v u ∧ ∀ F, Rp K F d v) ∧ GAll r
  | (x, .exc c) :: r => ExcF K mg x (cls c) ∧ GAll r
  | (x, .fn _ _ _) :: r => GAll r
def BAll : List Str → Prop
  | [] => True
  | x :: r => mg x = none ∧ BAll r
def CAll (cv : Value) (b : Bool) : List Nat → Prop
  | [] => True
  | c :: r => PySem.W.exmOne K (.ref (cls c)) cv = some b ∧ CAll cv b r
def XAll : List (Str × List Nat × List Nat) → Prop
  | [] => True
  | (x, cs, ds) :: r => (∃ cv, (mg x = some cv ∨ (mg x = none ∧ bootBuiltins x = some cv ∧ x ≠ "__name__")) ∧ CAll K cls cv true cs ∧ CAll K cls cv false ds) ∧ XAll r
end
section
variable {K : PySem.W.Frag} {mg : Str → Option Value} {cls : Nat → Addr}
theorem GAll.const : ∀ {G : List (Str × GK)} {x : Str} {d : D}, GAll K mg cls G → (x, GK.const d) ∈ G → ∃ u v, mg x = some u ∧ RelV v u ∧ ∀ F, Rp K F d v
  | (y, .const e) :: r, x, d, h, m => by
    rcases List.mem_cons.mp m with z | z
    · cases z; exact h.1
    · exact GAll.const h.2 z
  | (y, .exc e) :: r, x, d, h, m => by
    rcases List.mem_cons.mp m with z | z
    · cases z
    · exact GAll.const h.2 z
  | (y, .fn _ _ _) :: r, x, d, h, m => by
    rcases List.mem_cons.mp m with z | z
    · cases z
    · exact GAll.const (show GAll K mg cls r from h) z
theorem GAll.exc : ∀ {G : List (Str × GK)} {x : Str} {c : Nat}, GAll K mg cls G → (x, GK.exc c) ∈ G → ExcF K mg x (cls c)
  | (y, .const e) :: r, x, d, h, m => by
    rcases List.mem_cons.mp m with z | z
    · cases z
    · exact GAll.exc h.2 z
  | (y, .exc e) :: r, x, d, h, m => by
    rcases List.mem_cons.mp m with z | z
    · cases z; exact h.1
    · exact GAll.exc h.2 z
  | (y, .fn _ _ _) :: r, x, d, h, m => by
    rcases List.mem_cons.mp m with z | z
    · cases z
    · exact GAll.exc (show GAll K mg cls r from h) z
theorem BAll.at : ∀ {B : List Str} {x : Str}, BAll mg B → x ∈ B → mg x = none
  | y :: r, x, h, m => by
    rcases List.mem_cons.mp m with z | z
    · rw [z]; exact h.1
    · exact BAll.at h.2 z
theorem CAll.at {cv : Value} {b : Bool} : ∀ {cs : List Nat} {c : Nat}, CAll K cls cv b cs → c ∈ cs → PySem.W.exmOne K (.ref (cls c)) cv = some b
  | y :: r, x, h, m => by
    rcases List.mem_cons.mp m with z | z
    · rw [z]; exact h.1
    · exact CAll.at h.2 z
theorem mem_lookupX {G : List (Str × List Nat × List Nat)} {x : Str} {k : List Nat × List Nat} : G.lookup x = some k → (x, k) ∈ G := by
  induction G with
  | nil => intro h; cases h
  | cons p G ih =>
    intro h
    obtain ⟨y, l⟩ := p
    rw [List.lookup_cons] at h
    split at h
    · rename_i e
      cases h
      have : x = y := by simpa using e
      rw [this]
      exact List.mem_cons_self
    · exact List.mem_cons_of_mem _ (ih h)
theorem XAll.at : ∀ {XX : List (Str × List Nat × List Nat)} {x : Str} {cs ds : List Nat}, XAll K mg cls XX → (x, cs, ds) ∈ XX → ∃ cv, (mg x = some cv ∨ (mg x = none ∧ bootBuiltins x = some cv ∧ x ≠ "__name__")) ∧ CAll K cls cv true cs ∧ CAll K cls cv false ds
  | (y, _, _) :: r, x, cs, ds, h, m => by
    rcases List.mem_cons.mp m with z | z
    · cases z; exact h.1
    · exact XAll.at h.2 z
theorem gRest {G : List (Str × GK)} {B : List Str} {XX : List (Str × List Nat × List Nat)} (g : GAll K mg cls G) (b : BAll mg B) (x : XAll K mg cls XX) : GRest K mg cls G B XX where
  const := fun y d h => g.const (mem_lookupG h)
  exc := fun y c h => by
    obtain ⟨⟨b1, b2, b3, b4, h1, h2⟩, h3, h4, h5, h6⟩ := g.exc (mem_lookupG h)
    exact ⟨b1, b2, b3, b4, h1, h2, h3, h4, h5, h6⟩
  blt := fun y h => b.at h
  cl := fun y cs ds h => by
    obtain ⟨cv, h1, h2, h3⟩ := x.at (mem_lookupX h)
    exact ⟨cv, h1, fun c hc => h2.at hc, fun c hc => h3.at hc⟩
/-- an error of the class at S is what «except S» names -/
theorem exm_same {S T : Addr} {b : Bool} (h1 : PySem.W.subIn K (.ref S) (.type "BaseException") = some true) (h2 : PySem.W.isClsIn K T = true) (h3 : PySem.W.typeIn K (.ref T) = some (.type "type")) (h5 : PySem.W.subIn K (.ref T) (.type "BaseException") = some true) (h4 : PySem.W.subIn K (.ref S) (.ref T) = some b) :
    PySem.W.exmOne K (.ref S) (.ref T) = some b := by
  have e1 : (PySem.W.subIn K (.ref T) (.type "BaseException") == some true) = true := by rw [h5] <;> rfl
  have e2 : ((PySem.W.clsIn K T).isSome && PySem.W.typeIn K (.ref T) == some (.type "type")) = true := by
    have h2' : (PySem.W.clsIn K T).isSome = true := h2
    rw [h2', h3] <;> rfl
  show (if (PySem.W.subIn K (.ref T) (.type "BaseException") == some true) = true then (if ((PySem.W.clsIn K T).isSome && PySem.W.typeIn K (.ref T) == some (.type "type")) = true then PySem.W.subIn K (.ref S) (.ref T) else none) else none) = some b
  rw [if_pos e1, if_pos e2]
  exact h4
end
/-- a constant that is a tuple of ints -/
theorem konst_tup {K : PySem.W.Frag} {F : Hp} {a : Addr} {dd : Option Addr} {nn : Nat} {sl : Array (Option Value)} {its : Array Value} (ns : List Int) (w : K.lookup a = some ⟨.type "tuple", dd, .seq its nn, sl⟩) (r : Vals (ns.map V.int) its.toList) (hl : its.size ≤ sizeLine) :
    Rp K F (.tup (ns.map D.int)) (.ref a) := by
  unfold Rp
  exact ⟨a, ns.map V.int, rfl, .inr ⟨_, its, nn, w, rfl, rfl, hl, r⟩, RpL.ints ns⟩
/-- a law's script -/
def spLaw (K : PySem.W.Frag) : Sp := fun vs H Q _ => ∃ (a : Addr) (ns : List Int), vs = [.ref a] ∧ SqL K H a (ns.map V.int) ∧ ns.length ≤ 63 ∧ (∀ z ∈ ns, Builtin.Int.intBits z ≤ 1048576) ∧ ∀ H', Q (.bl true) H'
theorem law_sp {K : PySem.W.Frag} {cls : Nat → Addr} {cr : Option (List D) → List D → DL.CR} (pure : ∀ ns : List Int, ns.length ≤ 63 → (∀ z ∈ ns, Builtin.Int.intBits z ≤ 1048576) → cr none [.lst (ns.map .int)] = .ok (.val (.bl true)) none)
    (vs : List V) (H : Hp) (Q : VK) (E : XK) (h : spLaw K vs H Q E) : spD K cls 1 false cr vs H Q E := by
  obtain ⟨a, ns, rfl, hs, hl, hb, q⟩ := h
  refine ⟨rfl, fun _ => none, H, [.lst (ns.map .int)], ⟨.refl _, (fun b o e => by cases e), (fun b o e => by cases e)⟩, .cons ?_ .nil, ?_⟩
  · unfold Rp
    exact ⟨a, _, rfl, hs, RpL.ints ns⟩
  · rw [pure ns hl hb]
    exact fun v F' H' _ _ r => by rw [Rp.bl_inv r]; exact q H'
theorem law_ok {P : Program} {w : World} {K : PySem.W.Frag} {mg : Str → Option Value} {base : Heap} {cls : Nat → Addr} {T : List Dt} {G : List (Str × GK)} {B : List Str} {XX : List (Str × List Nat × List Nat)} (g : GAll K mg cls G) (b : BAll mg B) (x : XAll K mg cls XX) (Ft : Facts K mg T)
    (hG : tabB T G = true) (hT : (T.all (dtB G B XX)) = true) {n i : Nat} {t : Dt} {f : Addr} {fd : FuncData} (hi : T[i]? = some t) (hm : mg t.name = some (.ref f)) (Fn : Fun K t.name t.name t.st f fd) (h1 : t.d.np = 1) (h2 : t.d.io = false)
    (pure : ∀ ns : List Int, ns.length ≤ 63 → (∀ z ∈ ns, Builtin.Int.intBits z ≤ 1048576) → run (T.map (·.d)) n i none [.lst (ns.map .int)] = .ok (.val (.bl true)) none) : FnOk P w K mg base (L2.CX P w) n f fd t.ps (spLaw K) := by
  have F := table_ok (P := P) (w := w) (base := base) (gRest g b x) Ft hG hT 0 n i t f fd hi hm Fn
  rw [h1, h2, Nat.zero_add] at F
  exact F.imp fun vs H Q E h => law_sp pure vs H Q E h
end DL

end
section
set_option maxRecDepth 100000
set_option maxHeartbeats 400000
/-! DL, part 19: reckoning with the interpreter; no program in sight. -/
namespace DL
open PySem (Str)
section
variable {call : Nat → Option (List D) → List D → CR} {ρ : Env}
@[simp] theorem x_bok {α β : Type} (a : α) (ρ : Env) (f : α → Env → Res β) : (Res.ok a ρ).bind f = f a ρ := id rfl
@[simp] theorem x_bex {α β : Type} (c : Nat) (as : List D) (ρ : Env) (f : α → Env → Res β) : (Res.exc c as ρ : Res α).bind f = .exc c as ρ := id rfl
@[simp] theorem x_bst {α β : Type} (f : α → Env → Res β) : (Res.stuck : Res α).bind f = .stuck := id rfl
@[simp] theorem x_qok {α : Type} (a : α) (ρ : Env) : (Res.ok a ρ).quiet = .ok a ρ := id rfl
@[simp] theorem x_lft {α : Type} (a : α) (ρ : Env) : lft ρ (some a) = .ok a ρ := id rfl
@[simp] theorem x_frv (d : D) : freeze (.val d) ρ = .ok d ρ := id rfl
@[simp] theorem x_fro (ds : List D) : freeze (.own ds) ρ = .ok (.lst ds) ρ := id rfl
@[simp] theorem x_drv (d : D) : deref ρ (.val d) = some d := id rfl
@[simp] theorem x_dro (ds : List D) : deref ρ (.own ds) = some (.lst ds) := id rfl
@[simp] theorem x_stv (d : D) : settle (.val d) ρ = .ok (.val d) ρ := id rfl
@[simp] theorem x_sto (ds : List D) : settle (.own ds) ρ = .ok (.own ds) ρ := id rfl
@[simp] theorem x_slv (d : D) : slotOf (.val d) = some (.val d) := id rfl
@[simp] theorem x_slo (ds : List D) : slotOf (.own ds) = some (.mut ds) := id rfl
@[simp] theorem x_acv (d : D) : afterCall ρ (.ok (.val d) none) = .ok (.val d) ρ := id rfl
@[simp] theorem x_aco (ds : List D) : afterCall ρ (.ok (.own ds) none) = .ok (.own ds) ρ := id rfl
@[simp] theorem x_ace (c : Nat) (as : List D) : afterCall ρ (.exc c as) = .exc c as ρ := id rfl
@[simp] theorem x_aiv (i : Nat) (d : D) (cs : List D) : afterCallIO i ρ (.ok (.val d) (some cs)) = .ok (.val d) (ρ.set i (some (.mut cs))) := id rfl
@[simp] theorem x_aio (i : Nat) (d : List D) (cs : List D) : afterCallIO i ρ (.ok (.own d) (some cs)) = .ok (.own d) (ρ.set i (some (.mut cs))) := id rfl
@[simp] theorem x_trv (d : D) : truthOf ρ (.val d) = d.truth := id rfl
@[simp] theorem x_tro (d : List D) : truthOf ρ (.own d) = some (!d.isEmpty) := id rfl
@[simp] theorem x_int (i : Int) : evalE call (.int i) ρ = .ok (.val (.int i)) ρ := by rw [evalE]
@[simp] theorem x_bl (b : Bool) : evalE call (.bl b) ρ = .ok (.val (.bl b)) ρ := by rw [evalE]
@[simp] theorem x_non : evalE call .non ρ = .ok (.val .non) ρ := by rw [evalE]
@[simp] theorem x_str (s : Str) : evalE call (.str s) ρ = .ok (.val (.str s)) ρ := by rw [evalE]
@[simp] theorem x_glob (x : Str) (d : D) : evalE call (.glob x d) ρ = .ok (.val d) ρ := by rw [evalE]
theorem x_varv {i : Nat} {d : D} (h : ρ[i]? = some (some (.val d))) : evalE call (.var i) ρ = .ok (.val d) ρ := by rw [evalE, h]
theorem x_varm {i : Nat} {d : List D} (h : ρ[i]? = some (some (.mut d))) : evalE call (.var i) ρ = .ok (.mref i) ρ := by rw [evalE, h]
@[simp] theorem x_var (i : Nat) : evalE call (.var i) ρ = (match ρ[i]? with
    | some (some (.val d)) => .ok (.val d) ρ
    | some (some (.mut _)) => .ok (.mref i) ρ
    | _ => .stuck) := by rw [evalE] <;> rfl
@[simp] theorem x_bin (op : Bop) (a b : E) : evalE call (.bin op a b) ρ = (evalE call a ρ).bind fun x ρ => (evalE call b ρ).bind fun y ρ => match deref ρ x, deref ρ y with
    | some dx, some dy => lft ρ (binop op dx dy)
    | _, _ => .stuck := by rw [evalE] <;> rfl
@[simp] theorem x_neg (a : E) : evalE call (.neg a) ρ = (evalE call a ρ).bind fun x ρ => match x with
    | .val (.int i) => .ok (.val (.int (-i))) ρ
    | _ => .stuck := by rw [evalE] <;> rfl
@[simp] theorem x_cmp (op : Cop) (a b : E) : evalE call (.cmp op a b) ρ = (evalE call a ρ).bind fun x ρ => (evalE call b ρ).bind fun y ρ => match deref ρ x, deref ρ y with
    | some dx, some dy => lft ρ ((cmpop op dx dy).map fun b => .val (.bl b))
    | _, _ => .stuck := by rw [evalE] <;> rfl
@[simp] theorem x_isN (n : Bool) (a : E) : evalE call (.isN n a) ρ = (evalE call a ρ).bind fun x ρ => match deref ρ x with
    | some d => .ok (.val (.bl (d.isNon != n))) ρ
    | none => .stuck := by rw [evalE] <;> rfl
def andK (f : Env → Res Vl) (x : Vl) (ρ : Env) : Res Vl := match truthOf ρ x with
    | some k => if k then f ρ else .ok x ρ
    | none => .stuck
def orK (f : Env → Res Vl) (x : Vl) (ρ : Env) : Res Vl := match truthOf ρ x with
    | some k => if k then .ok x ρ else f ρ
    | none => .stuck
@[simp] theorem andK_bl (f : Env → Res Vl) (k : Bool) (ρ : Env) : andK f (.val (.bl k)) ρ = if k then f ρ else .ok (.val (.bl false)) ρ := by cases k <;> rfl
@[simp] theorem orK_bl (f : Env → Res Vl) (k : Bool) (ρ : Env) : orK f (.val (.bl k)) ρ = if k then .ok (.val (.bl true)) ρ else f ρ := by cases k <;> rfl
@[simp] theorem andK_own (f : Env → Res Vl) (l : List D) (ρ : Env) : andK f (.own l) ρ = if l.isEmpty then .ok (.own []) ρ else f ρ := by cases l <;> rfl
@[simp] theorem orK_own (f : Env → Res Vl) (l : List D) (ρ : Env) : orK f (.own l) ρ = if l.isEmpty then f ρ else .ok (.own l) ρ := by cases l <;> rfl
@[simp] theorem andK_int (f : Env → Res Vl) (k : Int) (ρ : Env) : andK f (.val (.int k)) ρ = if k = 0 then .ok (.val (.int 0)) ρ else f ρ := by
  by_cases h : k = 0
  · subst h; rfl
  · unfold andK truthOf; simp [deref, D.truth, h]
@[simp] theorem orK_int (f : Env → Res Vl) (k : Int) (ρ : Env) : orK f (.val (.int k)) ρ = if k = 0 then f ρ else .ok (.val (.int k)) ρ := by
  by_cases h : k = 0
  · subst h; rfl
  · unfold orK truthOf; simp [deref, D.truth, h]
@[simp] theorem x_and (a b : E) : evalE call (.and a b) ρ = (evalE call a ρ).bind (andK (evalE call b)) := by rw [evalE] <;> rfl
@[simp] theorem x_or (a b : E) : evalE call (.or a b) ρ = (evalE call a ρ).bind (orK (evalE call b)) := by rw [evalE] <;> rfl
@[simp] theorem x_one (a : E) : evalE call (.one a) ρ = evalE call a ρ := by rw [evalE]
@[simp] theorem x_not (a : E) : evalE call (.not a) ρ = (evalE call a ρ).bind fun x ρ => match truthOf ρ x with
    | some k => .ok (.val (.bl (!k))) ρ
    | none => .stuck := by rw [evalE] <;> rfl
@[simp] theorem x_ite (c a b : E) : evalE call (.ite c a b) ρ = (testE call c ρ).bind fun k ρ => if k then evalE call a ρ else evalE call b ρ := by rw [evalE]
@[simp] theorem x_tup (es : Es) : evalE call (.tup es) ρ = (evalEs call es ρ).bind fun ds ρ => if ds.length ≤ LIM then .ok (.val (.tup ds)) ρ else .stuck := by rw [evalE]
@[simp] theorem x_lst (es : Es) : evalE call (.lst es) ρ = (evalEs call es ρ).bind fun ds ρ => if ds.length ≤ LIM then .ok (.own ds) ρ else .stuck := by rw [evalE]
@[simp] theorem x_call (f : Nat) (es : Es) : evalE call (.call f es) ρ = (evalEs call es ρ).bind fun ds ρ => afterCall ρ (call f none ds) := by rw [evalE]
@[simp] theorem x_callIO (f i : Nat) (es : Es) : evalE call (.callIO f i es) ρ = (match slotMut ρ i with
    | none => .stuck
    | some _ => (evalEs call es ρ).bind fun ds ρ => match slotMut ρ i with
      | some cs => afterCallIO i ρ (call f (some cs) ds)
      | none => .stuck) := by rw [evalE] <;> rfl
@[simp] theorem x_bi (f : Bi) (es : Es) : evalE call (.bi f es) ρ = (evalVs call es ρ).bind fun vs ρ => match vs.mapM (deref ρ) with
    | some ds => lft ρ (biop f ds)
    | none => .stuck := by rw [evalE] <;> rfl
@[simp] theorem x_isi (a : E) (ts : List Ty) (m : Bool) : evalE call (.isi a ts m) ρ = (evalE call a ρ).bind fun x ρ => match deref ρ x with
    | some d => .ok (.val (.bl (ts.any (isTy d)))) ρ
    | none => .stuck := by rw [evalE] <;> rfl
@[simp] theorem x_ix (a i : E) : evalE call (.ix a i) ρ = (evalE call a ρ).bind fun x ρ => (evalE call i ρ).bind fun y ρ => match deref ρ x, deref ρ y with
    | some dx, some dy => lft ρ ((ixop dx dy).map .val)
    | _, _ => .stuck := by rw [evalE] <;> rfl
@[simp] theorem x_slice (a l h : E) : evalE call (.slice a l h) ρ = (evalE call a ρ).bind fun x ρ => (evalE call l ρ).bind fun y ρ => match partV l.isNone y with
    | some dy => (evalE call h ρ).bind fun z ρ => match partV h.isNone z with
      | some dz => match deref ρ x with
        | some dx => lft ρ (sliceop dx dy dz)
        | none => .stuck
      | none => .stuck
    | none => .stuck := by rw [evalE] <;> rfl
@[simp] theorem x_rev (a : E) : evalE call (.rev a) ρ = (evalE call a ρ).bind fun x ρ => match deref ρ x with
    | some dx => lft ρ (revop dx)
    | none => .stuck := by rw [evalE] <;> rfl
@[simp] theorem x_comp (elt : E) (p : Pat) (it : Wk) (c : E) (own : List (Str × Nat)) : evalE call (.comp elt p it c own) ρ = (evalIt call it ρ).bind fun xs ρ => compRun (evalE call elt) (testE call c) p (own.map (·.2)) xs ρ := by rw [evalE]
@[simp] theorem x_listRange (es : Es) : evalE call (.listRange es) ρ = (evalEs call es ρ).bind fun ds ρ => match rangeop ds with
    | some xs => if xs.length ≤ LIM then .ok (.own xs) ρ else .stuck
    | none => .stuck := by rw [evalE] <;> rfl
@[simp] theorem x_append (i : Nat) (e : E) : evalE call (.append i e) ρ = (match slotMut ρ i with
    | none => .stuck
    | some _ => (evalE call e ρ).bind fun v ρ => (freeze v ρ).bind fun d ρ => match slotMut ρ i with
      | some ds => if ds.length < LIM then .ok (.val .non) (ρ.set i (some (.mut (ds ++ [d])))) else .stuck
      | none => .stuck) := by rw [evalE] <;> rfl
def chainK {α : Type} (A B : Res α) : Option Bool → Res α
  | some true => A
  | some false => B
  | none => .stuck
@[simp] theorem chainK_s {α : Type} (A B : Res α) (b : Bool) : chainK A B (some b) = if b then A else B := by cases b <;> rfl
@[simp] theorem x_chain (o1 o2 : Cop) (a b c : E) : evalE call (.chain o1 o2 a b c) ρ = (evalE call a ρ).bind fun x ρ => (evalE call b ρ).bind fun y ρ => match deref ρ x, deref ρ y with
    | some dx, some dy => chainK ((evalE call c ρ).bind fun z ρ => match deref ρ y, deref ρ z with
        | some dy', some dz => lft ρ ((cmpop o2 dy' dz).map fun b => .val (.bl b))
        | _, _ => .stuck) (.ok (.val (.bl false)) ρ) (cmpop o1 dx dy)
    | _, _ => .stuck := by
  rw [evalE] <;> rfl
@[simp] theorem y_chain (o1 o2 : Cop) (a b c : E) : testE call (.chain o1 o2 a b c) ρ = (evalE call a ρ).bind fun x ρ => (evalE call b ρ).bind fun y ρ => match deref ρ x, deref ρ y with
    | some dx, some dy => chainK ((evalE call c ρ).bind fun z ρ => match deref ρ y, deref ρ z with
        | some dy', some dz => lft ρ (cmpop o2 dy' dz)
        | _, _ => .stuck) (.ok false ρ) (cmpop o1 dx dy)
    | _, _ => .stuck := by
  rw [testE] <;> rfl
@[simp] theorem x_sset (a : E) : evalE call (.sset a) ρ = (evalE call a ρ).bind fun x ρ => match deref ρ x with
    | some dx => lft ρ (ssetop dx)
    | none => .stuck := by rw [evalE] <;> rfl
@[simp] theorem x_nil : evalEs call .nil ρ = .ok [] ρ := by rw [evalEs]
@[simp] theorem x_cons (e : E) (es : Es) : evalEs call (.cons e es) ρ = (evalE call e ρ).bind fun v ρ => (freeze v ρ).bind fun d ρ => (evalEs call es ρ).bind fun ds ρ => .ok (d :: ds) ρ := by rw [evalEs]
@[simp] theorem x_vnil : evalVs call .nil ρ = .ok [] ρ := by rw [evalVs]
@[simp] theorem x_vcons (e : E) (es : Es) : evalVs call (.cons e es) ρ = (evalE call e ρ).bind fun v ρ => (evalVs call es ρ).bind fun vs ρ => .ok (v :: vs) ρ := by rw [evalVs]
@[simp] theorem x_plain (e : E) : evalIt call (.plain e) ρ = (evalE call e ρ).bind fun v ρ => (freeze v ρ).bind fun d ρ => lft ρ (items d) := by rw [evalIt]
@[simp] theorem x_range (es : Es) : evalIt call (.range es) ρ = (evalEs call es ρ).bind fun ds ρ => lft ρ (rangeop ds) := by rw [evalIt]
@[simp] theorem x_enum (e : E) : evalIt call (.enum e) ρ = (evalE call e ρ).bind fun v ρ => (freeze v ρ).bind fun d ρ => lft ρ ((items d).map (enumL 0)) := by rw [evalIt]
@[simp] theorem x_zip (a b : E) : evalIt call (.zip a b) ρ = (evalE call a ρ).bind fun v ρ => (freeze v ρ).bind fun d ρ => (evalE call b ρ).bind fun v ρ => (freeze v ρ).bind fun d2 ρ => match items d, items d2 with
    | some xs, some ys => .ok (zipL xs ys) ρ
    | _, _ => .stuck := by rw [evalIt] <;> rfl
/-! tests -/
@[simp] theorem y_and (a b : E) : testE call (.and a b) ρ = (testE call a ρ).bind fun k ρ => if k then testE call b ρ else .ok false ρ := by rw [testE]
@[simp] theorem y_or (a b : E) : testE call (.or a b) ρ = (testE call a ρ).bind fun k ρ => if k then .ok true ρ else testE call b ρ := by rw [testE]
@[simp] theorem y_one (a : E) : testE call (.one a) ρ = testE call a ρ := by rw [testE]
@[simp] theorem y_not (a : E) : testE call (.not a) ρ = (testE call a ρ).bind fun k ρ => .ok (!k) ρ := by rw [testE]
@[simp] theorem y_int (i : Int) : testE call (.int i) ρ = .ok (i != 0) ρ := by rw [testE]
@[simp] theorem y_bl (i : Bool) : testE call (.bl i) ρ = .ok i ρ := by rw [testE]
@[simp] theorem y_cmp (op : Cop) (a b : E) : testE call (.cmp op a b) ρ = (evalE call a ρ).bind fun x ρ => (evalE call b ρ).bind fun y ρ => match deref ρ x, deref ρ y with
    | some dx, some dy => lft ρ (cmpop op dx dy)
    | _, _ => .stuck := by rw [testE] <;> rfl
@[simp] theorem y_isN (n : Bool) (a : E) : testE call (.isN n a) ρ = (evalE call a ρ).bind fun x ρ => match deref ρ x with
    | some d => .ok (d.isNon != n) ρ
    | none => .stuck := by rw [testE] <;> rfl
@[simp] theorem y_var (i : Nat) : testE call (.var i) ρ = (match ρ[i]? with
    | some (some (.val d)) => lft ρ d.truth
    | some (some (.mut ds)) => .ok (!ds.isEmpty) ρ
    | _ => .stuck) := by rw [testE] <;> rfl
@[simp] theorem y_call (f : Nat) (es : Es) : testE call (.call f es) ρ = (evalEs call es ρ).bind fun ds ρ => (afterCall ρ (call f none ds)).bind fun x ρ => lft ρ (truthOf ρ x) := by rw [testE]
@[simp] theorem y_callIO (f i : Nat) (es : Es) : testE call (.callIO f i es) ρ = (match slotMut ρ i with
    | none => .stuck
    | some _ => (evalEs call es ρ).bind fun ds ρ => match slotMut ρ i with
      | some cs => (afterCallIO i ρ (call f (some cs) ds)).bind fun x ρ => lft ρ (truthOf ρ x)
      | none => .stuck) := by rw [testE] <;> rfl
@[simp] theorem y_bi (f : Bi) (es : Es) : testE call (.bi f es) ρ = (evalVs call es ρ).bind fun vs ρ => match vs.mapM (deref ρ) with
    | some ds => (lft ρ (biop f ds)).bind fun x ρ => lft ρ (truthOf ρ x)
    | none => .stuck := by rw [testE] <;> rfl
@[simp] theorem y_isi (a : E) (ts : List Ty) (m : Bool) : testE call (.isi a ts m) ρ = (evalE call a ρ).bind fun x ρ => match deref ρ x with
    | some d => .ok (ts.any (isTy d)) ρ
    | none => .stuck := by rw [testE] <;> rfl
@[simp] theorem y_ix (a i : E) : testE call (.ix a i) ρ = (evalE call a ρ).bind fun x ρ => (evalE call i ρ).bind fun y ρ => match deref ρ x, deref ρ y with
    | some dx, some dy => lft ρ ((ixop dx dy).bind D.truth)
    | _, _ => .stuck := by rw [testE] <;> rfl
/-! statements -/
@[simp] theorem s_nil' : execSs call .nil ρ = .ok .next ρ := by rw [execSs]
def seqF (ss : Env → Res Fl) : Fl → Env → Res Fl
  | .next, ρ => ss ρ
  | f, ρ => .ok f ρ
@[simp] theorem s_sqn (ss : Env → Res Fl) : seqF ss .next ρ = ss ρ := id rfl
@[simp] theorem s_sqr (ss : Env → Res Fl) (v : Vl) : seqF ss (.ret v) ρ = .ok (.ret v) ρ := id rfl
@[simp] theorem s_sqb (ss : Env → Res Fl) : seqF ss .brk ρ = .ok .brk ρ := id rfl
@[simp] theorem s_sqc (ss : Env → Res Fl) : seqF ss .cont ρ = .ok .cont ρ := id rfl
@[simp] theorem s_cons' (s : S) (ss : Ss) : execSs call (.cons s ss) ρ = (execS call s ρ).bind (seqF (execSs call ss)) := by
  rw [execSs]
  congr 1
  funext f ρ
  cases f <;> rfl
@[simp] theorem s_set' (i : Nat) (e : E) : execS call (.set i e) ρ = (evalE call e ρ).bind fun v ρ => storeV i v ρ := by rw [execS]
@[simp] theorem s_stv (i : Nat) (d : D) : storeV i (.val d) ρ = if i < ρ.length then .ok .next (ρ.set i (some (.val d))) else .stuck := id rfl
@[simp] theorem s_sto (i : Nat) (d : List D) : storeV i (.own d) ρ = if i < ρ.length then .ok .next (ρ.set i (some (.mut d))) else .stuck := id rfl
@[simp] theorem s_asg' (p : Pat) (e : E) : execS call (.asg p e) ρ = (evalE call e ρ).bind fun v ρ => (freeze v ρ).bind fun d ρ => match assignP p d ρ with
    | some ρ' => .ok .next ρ'
    | none => .stuck := by rw [execS] <;> rfl
@[simp] theorem s_par' (i j : Nat) (a b : E) : execS call (.par i j a b) ρ = (evalE call a ρ).bind fun v ρ => (settle v ρ).bind fun v ρ => (evalE call b ρ).bind fun w ρ => (settle w ρ).bind fun w ρ =>
    if i < ρ.length ∧ j < ρ.length ∧ i ≠ j then .ok .next ((ρ.set i (slotOf v)).set j (slotOf w)) else .stuck := by rw [execS]
@[simp] theorem s_setix' (i : Nat) (k e : E) : execS call (.setix i k e) ρ = (evalE call e ρ).bind fun v ρ => (freeze v ρ).bind fun d ρ => match slotMut ρ i with
    | none => .stuck
    | some _ => (evalE call k ρ).bind fun w ρ => match w, slotMut ρ i with
      | .val (.int k), some ds => if 0 ≤ k ∧ k < ds.length then .ok .next (ρ.set i (some (.mut (ds.set k.toNat d)))) else .stuck
      | _, _ => .stuck := by rw [execS] <;> rfl
@[simp] theorem s_expr' (e : E) : execS call (.expr e) ρ = (evalE call e ρ).bind fun _ ρ => .ok .next ρ := by rw [execS]
@[simp] theorem s_ret' (e : E) : execS call (.ret e) ρ = (evalE call e ρ).bind fun v ρ => .ok (.ret v) ρ := by rw [execS]
@[simp] theorem s_retN' : execS call .retN ρ = .ok (.ret (.val .non)) ρ := by rw [execS]
@[simp] theorem s_ite' (c : E) (t f : Ss) : execS call (.ite c t f) ρ = (testE call c ρ).bind fun k ρ => if k then execSs call t ρ else execSs call f ρ := by rw [execS]
def forB (p : Pat) (b : Env → Res Fl) (d : D) (ρ : Env) : Res Fl := match assignP p d ρ with
    | some ρ => b ρ
    | none => .stuck
@[simp] theorem s_fors' (p : Pat) (it : Wk) (b : Ss) : execS call (.fors p it b) ρ = (evalIt call it ρ).bind fun xs ρ => forLoop (forB p (execSs call b)) xs ρ := by rw [execS] <;> rfl
@[simp] theorem s_raise' (c : Nat) (es : Es) : execS call (.raise c es) ρ = (evalEs call es ρ).bind fun ds ρ => .exc c ds ρ := by rw [execS]
@[simp] theorem s_pass' : execS call .pass ρ = .ok .next ρ := by rw [execS]
end
/-- what a try does with how its block ends -/
def tryK (cs ds : List Nat) (h : Env → Res Fl) : Res Fl → Res Fl
  | .exc c as ρ' => if c ∈ cs then (h ρ').quiet else if c ∈ ds then .exc c as ρ' else .stuck
  | r => r
@[simp] theorem tryK_ok (cs ds : List Nat) (h : Env → Res Fl) (f : Fl) (ρ : Env) : tryK cs ds h (.ok f ρ) = .ok f ρ := id rfl
@[simp] theorem tryK_ex (cs ds : List Nat) (h : Env → Res Fl) (c : Nat) (as : List D) (ρ : Env) : tryK cs ds h (.exc c as ρ) = if c ∈ cs then (h ρ).quiet else if c ∈ ds then .exc c as ρ else .stuck := id rfl
@[simp] theorem tryK_if (cs ds : List Nat) (h : Env → Res Fl) {c : Prop} [Decidable c] (a b : Res Fl) : tryK cs ds h (if c then a else b) = if c then tryK cs ds h a else tryK cs ds h b := by split <;> rfl
@[simp] theorem s_try' {call : Nat → Option (List D) → List D → CR} {ρ : Env} (b : Ss) (x : Str) (cs ds : List Nat) (h : Ss) : execS call (.tryx b x cs ds h) ρ = tryK cs ds (execSs call h) (execSs call b ρ) := by
  rw [execS]
  unfold tryK
  cases execSs call b ρ <;> rfl
/-! ### operations -/
@[simp] theorem x_drm (ρ : Env) (i : Nat) : deref ρ (.mref i) = (match ρ[i]? with
    | some (some (.mut ds)) => some (.lst ds)
    | some (some (.val d)) => some d
    | _ => none) := id rfl
@[simp] theorem x_frm (ρ : Env) (i : Nat) : freeze (.mref i) ρ = (match ρ[i]? with
    | some (some (.mut ds)) => .ok (.lst ds) (ρ.set i (some (.val (.lst ds))))
    | some (some (.val d)) => .ok d ρ
    | _ => .stuck) := id rfl
@[simp] theorem x_stm (ρ : Env) (i : Nat) : settle (.mref i) ρ = (freeze (.mref i) ρ).bind fun d ρ => .ok (.val d) ρ := id rfl
@[simp] theorem s_stm (ρ : Env) (i j : Nat) : storeV i (.mref j) ρ = if i < ρ.length then (freeze (.mref j) ρ).bind fun d ρ => .ok .next (ρ.set i (some (.val d))) else .stuck := id rfl
@[simp] theorem x_slm (ρ : Env) (i : Nat) : slotMut ρ i = (match ρ[i]? with
    | some (some (.mut ds)) => some ds
    | _ => none) := id rfl
@[simp] theorem x_trm (ρ : Env) (i : Nat) : truthOf ρ (.mref i) = (deref ρ (.mref i)).bind D.truth := id rfl
@[simp] theorem end_m (ρ : Env) (i : Nat) : ending false (.mref i) ρ = (match ρ[i]? with
    | some (some (.mut ds)) => .ok (.own ds) none
    | some (some (.val d)) => .ok (.val d) none
    | _ => .stuck) := by
  unfold ending handed
  simp only [Bool.false_eq_true, false_and, if_false]
  rcases ρ[i]? with _ | _ | (d | ds) <;> rfl
@[simp] theorem o_ixt (xs : List D) (i : Int) : ixop (.tup xs) (.int i) = atD xs i := id rfl
@[simp] theorem o_ixl (xs : List D) (i : Int) : ixop (.lst xs) (.int i) = atD xs i := id rfl
@[simp] theorem o_eq (x y : D) : cmpop .eq x y = if cmpable x y then some (D.eqv x y) else none := id rfl
@[simp] theorem o_ne (x y : D) : cmpop .ne x y = if cmpable x y then some (!D.eqv x y) else none := id rfl
@[simp] theorem o_lt (i j : Int) : cmpop .lt (.int i) (.int j) = some (decide (i < j)) := id rfl
@[simp] theorem o_le (i j : Int) : cmpop .le (.int i) (.int j) = some (decide (i ≤ j)) := id rfl
@[simp] theorem o_gt (i j : Int) : cmpop .gt (.int i) (.int j) = some (decide (j < i)) := id rfl
@[simp] theorem o_ge (i j : Int) : cmpop .ge (.int i) (.int j) = some (decide (j ≤ i)) := id rfl
@[simp] theorem o_in (x y : D) : cmpop .isin x y = isinD x y := id rfl
@[simp] theorem o_nin (x y : D) : cmpop .notin x y = (isinD x y).map (!·) := id rfl
@[simp] theorem o_cmpI (i j : Int) : cmpable (.int i) (.int j) = true := id rfl
@[simp] theorem o_cmpB (i j : Bool) : cmpable (.bl i) (.bl j) = true := id rfl
theorem o_eqI (i j : Int) : D.eqv (.int i) (.int j) = (i == j) := id rfl
theorem o_eqB (i j : Bool) : D.eqv (.bl i) (.bl j) = (i == j) := id rfl
@[simp] theorem o_addI (i j : Int) : binop .add (.int i) (.int j) = some (.val (.int (i + j))) := id rfl
@[simp] theorem o_subI (i j : Int) : binop .sub (.int i) (.int j) = some (.val (.int (i - j))) := id rfl
theorem o_mulI (i j : Int) : binop .mul (.int i) (.int j) = if mulOk i j then some (.val (.int (i * j))) else none := id rfl
theorem o_modI (i j : Int) : binop .mod (.int i) (.int j) = if j ≠ 0 then some (.val (.int (i.fmod j))) else none := id rfl
theorem o_divI (i j : Int) : binop .fdiv (.int i) (.int j) = if j ≠ 0 ∧ j.natAbs < 1073741824 then some (.val (.int (i.fdiv j))) else none := id rfl
@[simp] theorem o_addT (xs ys : List D) : binop .add (.tup xs) (.tup ys) = if xs.length + ys.length ≤ LIM then some (.val (.tup (xs ++ ys))) else none := id rfl
@[simp] theorem o_addL (xs ys : List D) : binop .add (.lst xs) (.lst ys) = if xs.length + ys.length ≤ LIM then some (.own (xs ++ ys)) else none := id rfl
@[simp] theorem b_lenT (xs : List D) : biop .len [.tup xs] = some (.val (.int xs.length)) := id rfl
@[simp] theorem b_lenL (xs : List D) : biop .len [.lst xs] = some (.val (.int xs.length)) := id rfl
@[simp] theorem b_intI (i : Int) : biop .int [.int i] = some (.val (.int i)) := id rfl
@[simp] theorem b_intB (b : Bool) : biop .int [.bl b] = some (.val (.int (if b then 1 else 0))) := id rfl
@[simp] theorem b_abs (i : Int) : biop .abs [.int i] = some (.val (.int (if i < 0 then -i else i))) := id rfl
@[simp] theorem b_tupT (xs : List D) : biop .tuple [.tup xs] = some (.val (.tup xs)) := id rfl
@[simp] theorem b_tupL (xs : List D) : biop .tuple [.lst xs] = some (.val (.tup xs)) := id rfl
@[simp] theorem b_lstT (xs : List D) : biop .list [.tup xs] = some (.own xs) := id rfl
@[simp] theorem b_lstL (xs : List D) : biop .list [.lst xs] = some (.own xs) := id rfl
@[simp] theorem b_sumL (l : List D) : biop .sum [.lst l] = (match intsOf l with
    | some ns => some (.val (.int ns.sum))
    | _ => none) := id rfl
@[simp] theorem b_sumT (l : List D) : biop .sum [.tup l] = (match intsOf l with
    | some ns => some (.val (.int ns.sum))
    | _ => none) := id rfl
@[simp] theorem b_allL (l : List D) : biop .all [.lst l] = (match blsOf l with
    | some ns => some (.val (.bl (ns.all id)))
    | _ => none) := id rfl
@[simp] theorem b_anyL (l : List D) : biop .any [.lst l] = (match blsOf l with
    | some ns => some (.val (.bl (ns.any id)))
    | _ => none) := id rfl
@[simp] theorem b_anyT (l : List D) : biop .any [.tup l] = (match blsOf l with
    | some ns => some (.val (.bl (ns.any id)))
    | _ => none) := id rfl
@[simp] theorem t_int (i : Int) : D.truth (.int i) = some (i != 0) := id rfl
@[simp] theorem t_bl (i : Bool) : D.truth (.bl i) = some i := id rfl
@[simp] theorem t_tup (l : List D) : D.truth (.tup l) = some (!l.isEmpty) := id rfl
@[simp] theorem t_lst (l : List D) : D.truth (.lst l) = some (!l.isEmpty) := id rfl
@[simp] theorem i_tup (l : List D) : items (.tup l) = some l := id rfl
@[simp] theorem i_lst (l : List D) : items (.lst l) = some l := id rfl
@[simp] theorem ap_n (i : Nat) (d : D) (ρ : Env) : assignP (.name i) d ρ = if i < ρ.length then some (ρ.set i (some (.val d))) else none := by simp only [assignP]
@[simp] theorem ap_t (ps : List Pat) (ds : List D) (ρ : Env) : assignP (.tup ps) (.tup ds) ρ = assignPs ps ds ρ := by simp only [assignP]
@[simp] theorem ap_l (ps : List Pat) (ds : List D) (ρ : Env) : assignP (.tup ps) (.lst ds) ρ = assignPs ps ds ρ := by simp only [assignP]
@[simp] theorem ap_0 (ρ : Env) : assignPs [] [] ρ = some ρ := by simp only [assignPs]
@[simp] theorem ap_s (p : Pat) (ps : List Pat) (d : D) (ds : List D) (ρ : Env) : assignPs (p :: ps) (d :: ds) ρ = (assignP p d ρ).bind (assignPs ps ds) := by simp only [assignPs]
/-! ### ends -/
@[simp] theorem fin_rv (io : Bool) (v : Vl) (ρ : Env) : finish io (.ok (.ret v) ρ) = ending io v ρ := id rfl
@[simp] theorem fin_nx (io : Bool) (ρ : Env) : finish io (.ok .next ρ) = ending io (.val .non) ρ := id rfl
@[simp] theorem fin_ex (c : Nat) (as : List D) (ρ : Env) : finish false (.exc c as ρ) = .exc c as := id rfl
@[simp] theorem end_v (d : D) (ρ : Env) : ending false (.val d) ρ = .ok (.val d) none := id rfl
@[simp] theorem end_o (d : List D) (ρ : Env) : ending false (.own d) ρ = .ok (.own d) none := id rfl
@[simp] theorem end_iv (d : D) (ds : List D) (ρ : Env) : ending true (.val d) (some (.mut ds) :: ρ) = .ok (.val d) (some ds) := id rfl
@[simp] theorem end_iow (d : List D) (ds : List D) (ρ : Env) : ending true (.own d) (some (.mut ds) :: ρ) = .ok (.own d) (some ds) := id rfl
/-! ### small lengths -/
theorem le_LIM {n : Nat} (h : n ≤ 16777216) : n ≤ LIM := h
@[simp] theorem le_LIM_0 : (0 ≤ LIM) = True := eq_true (le_LIM (by omega))
@[simp] theorem le_LIM_1 : (1 ≤ LIM) = True := eq_true (le_LIM (by omega))
@[simp] theorem le_LIM_2 : (2 ≤ LIM) = True := eq_true (le_LIM (by omega))
@[simp] theorem le_LIM_3 : (3 ≤ LIM) = True := eq_true (le_LIM (by omega))
@[simp] theorem le_LIM_4 : (4 ≤ LIM) = True := eq_true (le_LIM (by omega))
@[simp] theorem le_LIM_5 : (5 ≤ LIM) = True := eq_true (le_LIM (by omega))
@[simp] theorem le_LIM_6 : (6 ≤ LIM) = True := eq_true (le_LIM (by omega))
@[simp] theorem le_LIM_7 : (7 ≤ LIM) = True := eq_true (le_LIM (by omega))
@[simp] theorem le_LIM_8 : (8 ≤ LIM) = True := eq_true (le_LIM (by omega))
@[simp] theorem le_LIM_9 : (9 ≤ LIM) = True := eq_true (le_LIM (by omega))
@[simp] theorem le_LIM_10 : (10 ≤ LIM) = True := eq_true (le_LIM (by omega))
@[simp] theorem le_LIM_11 : (11 ≤ LIM) = True := eq_true (le_LIM (by omega))
@[simp] theorem le_LIM_12 : (12 ≤ LIM) = True := eq_true (le_LIM (by omega))
@[simp] theorem le_LIM_13 : (13 ≤ LIM) = True := eq_true (le_LIM (by omega))
@[simp] theorem le_LIM_14 : (14 ≤ LIM) = True := eq_true (le_LIM (by omega))
@[simp] theorem le_LIM_15 : (15 ≤ LIM) = True := eq_true (le_LIM (by omega))
@[simp] theorem le_LIM_16 : (16 ≤ LIM) = True := eq_true (le_LIM (by omega))
@[simp] theorem le_LIM_17 : (17 ≤ LIM) = True := eq_true (le_LIM (by omega))
@[simp] theorem le_LIM_18 : (18 ≤ LIM) = True := eq_true (le_LIM (by omega))
@[simp] theorem le_LIM_19 : (19 ≤ LIM) = True := eq_true (le_LIM (by omega))
@[simp] theorem le_LIM_20 : (20 ≤ LIM) = True := eq_true (le_LIM (by omega))
@[simp] theorem le_LIM_21 : (21 ≤ LIM) = True := eq_true (le_LIM (by omega))
@[simp] theorem le_LIM_22 : (22 ≤ LIM) = True := eq_true (le_LIM (by omega))
@[simp] theorem le_LIM_23 : (23 ≤ LIM) = True := eq_true (le_LIM (by omega))
@[simp] theorem le_LIM_24 : (24 ≤ LIM) = True := eq_true (le_LIM (by omega))
@[simp] theorem le_LIM_25 : (25 ≤ LIM) = True := eq_true (le_LIM (by omega))
@[simp] theorem le_LIM_26 : (26 ≤ LIM) = True := eq_true (le_LIM (by omega))
@[simp] theorem le_LIM_27 : (27 ≤ LIM) = True := eq_true (le_LIM (by omega))
@[simp] theorem le_LIM_28 : (28 ≤ LIM) = True := eq_true (le_LIM (by omega))
@[simp] theorem le_LIM_29 : (29 ≤ LIM) = True := eq_true (le_LIM (by omega))
@[simp] theorem le_LIM_30 : (30 ≤ LIM) = True := eq_true (le_LIM (by omega))
@[simp] theorem le_LIM_31 : (31 ≤ LIM) = True := eq_true (le_LIM (by omega))
@[simp] theorem le_LIM_32 : (32 ≤ LIM) = True := eq_true (le_LIM (by omega))
@[simp] theorem le_LIM_33 : (33 ≤ LIM) = True := eq_true (le_LIM (by omega))
@[simp] theorem le_LIM_34 : (34 ≤ LIM) = True := eq_true (le_LIM (by omega))
@[simp] theorem le_LIM_35 : (35 ≤ LIM) = True := eq_true (le_LIM (by omega))
@[simp] theorem le_LIM_36 : (36 ≤ LIM) = True := eq_true (le_LIM (by omega))
@[simp] theorem le_LIM_37 : (37 ≤ LIM) = True := eq_true (le_LIM (by omega))
@[simp] theorem le_LIM_38 : (38 ≤ LIM) = True := eq_true (le_LIM (by omega))
@[simp] theorem le_LIM_39 : (39 ≤ LIM) = True := eq_true (le_LIM (by omega))
@[simp] theorem le_LIM_40 : (40 ≤ LIM) = True := eq_true (le_LIM (by omega))
/-! ### loops -/
theorem wipeE_length (ρ : Env) : ∀ vs : List Nat, (wipeE ρ vs).length = ρ.length
  | [] => rfl
  | v :: vs => by unfold wipeE; rw [List.length_set, wipeE_length ρ vs]
theorem restore_wipe {ρ : Env} : ∀ {vs : List Nat}, noMut ρ vs = true → restoreE ρ (wipeE ρ vs) vs = ρ := by
  have g : ∀ (σ : Env) (vs : List Nat), σ.length = ρ.length → (∀ j, j ∉ vs → σ[j]? = ρ[j]?) → (∀ j ∈ vs, j < ρ.length) → restoreE ρ σ vs = ρ := by
    intro σ vs
    induction vs generalizing σ with
    | nil => intro hl h _; exact List.ext_getElem? fun j => h j (by simp)
    | cons v vs ih =>
      intro hl h hb
      unfold restoreE
      have hr : restoreE ρ σ vs = σ ∨ True := .inr trivial
      apply List.ext_getElem?
      intro j
      have lenr : ∀ ws : List Nat, (restoreE ρ σ ws).length = σ.length := by
        intro ws
        induction ws with
        | nil => rfl
        | cons w ws ih => unfold restoreE; rw [List.length_set, ih]
      have getr : ∀ (ws : List Nat) (j : Nat), (restoreE ρ σ ws)[j]? = if j ∈ ws ∧ j < σ.length then some (ρ.getD j none) else σ[j]? := by
        intro ws j
        induction ws with
        | nil => simp [restoreE]
        | cons w ws ih =>
          unfold restoreE
          by_cases hw : w = j
          · subst hw
            by_cases hl2 : w < σ.length
            · rw [List.getElem?_set_self (by rw [lenr]; exact hl2), if_pos ⟨by simp, hl2⟩]
            · rw [if_neg (fun z => hl2 z.2), List.getElem?_eq_none (by rw [List.length_set, lenr]; omega), List.getElem?_eq_none (by omega)]
          · rw [List.getElem?_set_ne hw, ih]
            have : (j ∈ w :: ws) ↔ j ∈ ws := by simp [Ne.symm hw]
            simp only [this]
      have e := getr (v :: vs) j
      unfold restoreE at e
      rw [e]
      by_cases hj : j ∈ v :: vs
      · have hjl := hb j hj
        rw [if_pos ⟨hj, by rw [hl]; exact hjl⟩, List.getD_eq_getElem?_getD, List.getElem?_eq_getElem hjl]
        rfl
      · rw [if_neg (fun z => hj z.1)]
        exact h j hj
  intro vs hn
  have wg : ∀ (vs : List Nat) (j : Nat), j ∉ vs → (wipeE ρ vs)[j]? = ρ[j]? := by
    intro vs
    induction vs with
    | nil => intro j _; rfl
    | cons v vs ih =>
      intro j hj
      simp only [List.mem_cons, not_or] at hj
      unfold wipeE
      rw [List.getElem?_set_ne (Ne.symm hj.1), ih j hj.2]
  refine g _ vs (wipeE_length ρ vs) (wg vs) fun j hj => ?_
  have := List.all_eq_true.mp hn j hj
  rcases Nat.lt_or_ge j ρ.length with hl | hl
  · exact hl
  · rw [List.getElem?_eq_none hl] at this
    cases this
/-- a comprehension whose turns leave the slots alone -/
theorem comp_map {α : Type} {ev : Env → Res Vl} {te : Env → Res Bool} {p : Pat} {vs : List Nat} {ρ : Env} (l : List α) (f : α → D) (g : α → Option D) (hn : noMut ρ vs = true) (hl : l.length ≤ LIM)
    (h : ∀ x ∈ l, compStep (fun ρ => (ev ρ).quiet) (fun ρ => (te ρ).quiet) p vs (f x) (wipeE ρ vs) = .ok (g x) (wipeE ρ vs)) : compRun ev te p vs (l.map f) ρ = .ok (.own (l.filterMap g)) ρ := by
  unfold compRun
  rw [if_pos hn]
  generalize compStep (fun ρ => (ev ρ).quiet) (fun ρ => (te ρ).quiet) p vs = step at h ⊢
  have key : ∀ (l : List α) (acc : List D), acc.length + l.length ≤ LIM → (∀ x ∈ l, step (f x) (wipeE ρ vs) = .ok (g x) (wipeE ρ vs)) → compLoop step (l.map f) acc (wipeE ρ vs) = .ok (acc ++ l.filterMap g) (wipeE ρ vs) := by
    intro l
    induction l with
    | nil => intro acc _ _; simp [compLoop]
    | cons x l ih =>
      intro acc ha hh
      rw [List.map_cons]
      unfold compLoop
      rw [hh x List.mem_cons_self]
      simp only [x_bok]
      simp only [List.length_cons] at ha
      cases hg : g x with
      | none =>
        simp only [List.filterMap_cons, hg]
        exact ih acc (by omega) fun y hy => hh y (List.mem_cons_of_mem _ hy)
      | some d =>
        simp only [List.filterMap_cons, hg]
        rw [if_pos (by omega), ih (acc ++ [d]) (by rw [List.length_append, List.length_singleton]; omega) fun y hy => hh y (List.mem_cons_of_mem _ hy)]
        simp
  rw [key l [] (by simpa using hl) h]
  simp only [x_bok, List.nil_append]
  rw [restore_wipe hn]
theorem comp_all {α : Type} {ev : Env → Res Vl} {te : Env → Res Bool} {p : Pat} {vs : List Nat} {ρ : Env} (l : List α) (f : α → D) (g : α → D) (hn : noMut ρ vs = true) (hl : l.length ≤ LIM)
    (h : ∀ x ∈ l, compStep (fun ρ => (ev ρ).quiet) (fun ρ => (te ρ).quiet) p vs (f x) (wipeE ρ vs) = .ok (some (g x)) (wipeE ρ vs)) : compRun ev te p vs (l.map f) ρ = .ok (.own (l.map g)) ρ := by
  rw [comp_map l f (fun x => some (g x)) hn hl h, List.filterMap_eq_map']
/-- a for whose turns go on -/
theorem for_inv {α : Type} {b : D → Env → Res Fl} (f : α → D) (I : Nat → Env → Prop) : ∀ (l : List α) (k : Nat) (ρ : Env), I k ρ → (∀ i x ρ, l[i]? = some x → I (k + i) ρ → ∃ ρ', b (f x) ρ = .ok .next ρ' ∧ I (k + i + 1) ρ') → ∃ ρ', forLoop b (l.map f) ρ = .ok .next ρ' ∧ I (k + l.length) ρ'
  | [], k, ρ, h, _ => ⟨ρ, rfl, h⟩
  | x :: l, k, ρ, h, hs => by
    obtain ⟨ρ1, e1, h1⟩ := hs 0 x ρ rfl h
    obtain ⟨ρ2, e2, h2⟩ := for_inv f I l (k + 1) ρ1 h1 fun i y ρ hy hI => by
      have := hs (i + 1) y ρ (by simpa using hy) (by rw [show k + (i + 1) = k + 1 + i by omega]; exact hI)
      rw [show k + (i + 1) + 1 = k + 1 + i + 1 by omega] at this
      exact this
    refine ⟨ρ2, ?_, by rw [List.length_cons, show k + (l.length + 1) = k + 1 + l.length by omega]; exact h2⟩
    rw [List.map_cons]
    show (b (f x) ρ).bind _ = _
    rw [e1]
    exact e2
/-- a for whose turns go on, by a function of its state -/
theorem for_fold {α S : Type} {b : D → Env → Res Fl} (f : α → D) (R : S → Env) (step : S → α → S) (Inv : S → Prop) : ∀ (l : List α) (s : S), Inv s → (∀ s x, x ∈ l → Inv s → b (f x) (R s) = .ok .next (R (step s x)) ∧ Inv (step s x)) →
    forLoop b (l.map f) (R s) = .ok .next (R (l.foldl step s)) ∧ Inv (l.foldl step s)
  | [], s, h, _ => ⟨rfl, h⟩
  | x :: l, s, h, hs => by
    obtain ⟨e1, h1⟩ := hs s x List.mem_cons_self h
    obtain ⟨e2, h2⟩ := for_fold f R step Inv l (step s x) h1 fun s y hy hI => hs s y (List.mem_cons_of_mem _ hy) hI
    refine ⟨?_, h2⟩
    rw [List.map_cons]
    show (b (f x) (R s)).bind _ = _
    rw [e1]
    exact e2
/-- a comprehension whose turns may change the slots -/
theorem comp_ex {α : Type} {ev : Env → Res Vl} {te : Env → Res Bool} {p : Pat} {vs : List Nat} {ρ : Env} (l : List α) (f : α → D) (I : Nat → List D → Env → Prop) (hn : noMut ρ vs = true) (hl : l.length ≤ LIM) (h0 : I 0 [] (wipeE ρ vs))
    (h : ∀ k x acc ρ, l[k]? = some x → acc.length ≤ k → I k acc ρ → ∃ o ρ', compStep (fun ρ => (ev ρ).quiet) (fun ρ => (te ρ).quiet) p vs (f x) ρ = .ok o ρ' ∧ I (k + 1) (acc ++ o.toList) ρ') :
    ∃ acc ρ', compRun ev te p vs (l.map f) ρ = .ok (.own acc) (restoreE ρ ρ' vs) ∧ I l.length acc ρ' := by
  unfold compRun
  rw [if_pos hn]
  generalize compStep (fun ρ => (ev ρ).quiet) (fun ρ => (te ρ).quiet) p vs = step at h ⊢
  have key : ∀ (m : List α) (k : Nat) (acc : List D) (ρ1 : Env), k + m.length = l.length → acc.length ≤ k → (∀ j, m[j]? = l[k + j]?) → I k acc ρ1 → ∃ acc' ρ', compLoop step (m.map f) acc ρ1 = .ok acc' ρ' ∧ I l.length acc' ρ' := by
    intro m
    induction m with
    | nil => intro k acc ρ1 hk ha _ hI; exact ⟨acc, ρ1, rfl, by rw [← hk]; exact hI⟩
    | cons x m ih =>
      intro k acc ρ1 hk ha hm hI
      have hx : l[k]? = some x := by rw [← Nat.add_zero k, ← hm 0]; rfl
      obtain ⟨o, ρ2, e, hI2⟩ := h k x acc ρ1 hx ha hI
      rw [List.map_cons]
      unfold compLoop
      rw [e]
      simp only [x_bok]
      simp only [List.length_cons] at hk
      have hm' : ∀ j, m[j]? = l[k + 1 + j]? := fun j => by rw [show k + 1 + j = k + (j + 1) by omega, ← hm (j + 1), List.getElem?_cons_succ]
      cases o with
      | none => exact ih (k + 1) acc ρ2 (by omega) (by omega) hm' (by simpa using hI2)
      | some d =>
        dsimp only
        rw [if_pos (by omega)]
        exact ih (k + 1) (acc ++ [d]) ρ2 (by omega) (by rw [List.length_append, List.length_singleton]; omega) hm' (by simpa using hI2)
  obtain ⟨acc, ρ', e, hI⟩ := key l 0 [] (wipeE ρ vs) (by simp) (Nat.le_refl _) (fun j => by rw [Nat.zero_add]) h0
  exact ⟨acc, ρ', by rw [e]; rfl, hI⟩
/-! ### whole numbers in lists -/
def intsD (l : List Int) : List D := l.map .int
@[simp] theorem ints_len (l : List Int) : (intsD l).length = l.length := by simp [intsD]
theorem ints_nil : intsD [] = [] := rfl
@[simp] theorem ints_cons (x : Int) (l : List Int) : intsD (x :: l) = .int x :: intsD l := id rfl
theorem ints_app (l m : List Int) : intsD (l ++ m) = intsD l ++ intsD m := by simp [intsD]
theorem zip_ints (xs ys : List Int) : zipL (intsD xs) (intsD ys) = (List.zip xs ys).map fun p => .tup [.int p.1, .int p.2] := by
  induction xs generalizing ys with
  | nil => cases ys <;> rfl
  | cons x xs ih => cases ys with
    | nil => rfl
    | cons y ys => simp [zipL, ih ys]
theorem zip_maps {α β : Type} (f : α → D) (g : β → D) (xs : List α) (ys : List β) : zipL (xs.map f) (ys.map g) = (List.zip xs ys).map fun p => .tup [f p.1, g p.2] := by
  induction xs generalizing ys with
  | nil => cases ys <;> rfl
  | cons x xs ih => cases ys with
    | nil => rfl
    | cons y ys => simp [zipL, ih ys]
theorem zip_self (xs : List D) : zipL xs xs = xs.map fun d => .tup [d, d] := by
  induction xs with
  | nil => rfl
  | cons x xs ih => simp [zipL, ih]
@[simp] theorem intsOf_ints (l : List Int) : intsOf (intsD l) = some l := by
  induction l with
  | nil => rfl
  | cons x l ih => simp [intsOf, ih]
theorem ints_inj {a b : List Int} (h : intsD a = intsD b) : a = b := by
  induction a generalizing b with
  | nil => cases b with
    | nil => rfl
    | cons _ _ => cases h
  | cons x a ih => cases b with
    | nil => cases h
    | cons y b =>
      simp only [ints_cons, List.cons.injEq, D.int.injEq] at h
      rw [h.1, ih h.2]
theorem eqvs_ints (a b : List Int) : D.eqvs (intsD a) (intsD b) = decide (a = b) := by
  induction a generalizing b with
  | nil => cases b <;> simp [intsD, D.eqvs]
  | cons x a ih => cases b with
    | nil => simp [intsD, D.eqvs]
    | cons y b =>
      simp only [ints_cons, D.eqvs, o_eqI, ih, List.cons.injEq]
      by_cases h : x = y
      · simp [h]
      · simp [h]
@[simp] theorem depths_ints (l : List Int) : D.depths (intsD l) = 0 := by
  induction l with
  | nil => rfl
  | cons x l ih => simp [D.depths, D.depth, ih]
@[simp] theorem soks_ints (l : List Int) : D.soks (intsD l) = true := by
  induction l with
  | nil => rfl
  | cons x l ih => simp [D.soks, D.sok, ih]
theorem atD_ints (l : List Int) (i : Nat) : atD (intsD l) (i : Int) = (l[i]?).map .int := by
  unfold atD
  rw [if_pos (by omega)]
  simp [intsD]
theorem bls_map {α : Type} (l : List α) (f : α → Bool) : blsOf (l.map fun x => .bl (f x)) = some (l.map f) := by
  induction l with
  | nil => rfl
  | cons x l ih => simp [blsOf, ih]
mutual
/-- a value that can be compared and walked whole -/
def D.fit : D → Bool
  | .str s => s.cps.all (· < 0x110000)
  | .tup xs => decide (xs.length ≤ LIM) && D.fits xs
  | .lst xs => decide (xs.length ≤ LIM) && D.fits xs
  | _ => true
def D.fits : List D → Bool
  | [] => true
  | x :: xs => D.fit x && D.fits xs
end
theorem fits_mem {xs : List D} (h : D.fits xs = true) {d : D} (hd : d ∈ xs) : D.fit d = true := by
  induction xs with
  | nil => cases hd
  | cons x xs ih =>
    simp only [D.fits, Bool.and_eq_true] at h
    rcases List.mem_cons.mp hd with e | e
    · rw [e]; exact h.1
    · exact ih h.2 e
theorem depth_mem {xs : List D} {d : D} (hd : d ∈ xs) : D.depth d ≤ D.depths xs := by
  induction xs with
  | nil => cases hd
  | cons x xs ih =>
    simp only [D.depths]
    rcases List.mem_cons.mp hd with e | e
    · rw [e]; exact Nat.le_max_left _ _
    · exact Nat.le_trans (ih e) (Nat.le_max_right _ _)
@[simp] theorem fits_ints (l : List Int) : D.fits (intsD l) = true := by
  induction l with
  | nil => rfl
  | cons x l ih => simp [D.fits, D.fit, ih]
theorem fits_map {α : Type} (l : List α) (f : α → D) (h : ∀ x ∈ l, D.fit (f x) = true) : D.fits (l.map f) = true := by
  induction l with
  | nil => rfl
  | cons x l ih => simp [D.fits, h x List.mem_cons_self, ih fun y hy => h y (List.mem_cons_of_mem _ hy)]
theorem depths_le {l : List D} {n : Nat} (h : ∀ x ∈ l, D.depth x ≤ n) : D.depths l ≤ n := by
  induction l with
  | nil => exact Nat.zero_le _
  | cons x l ih =>
    simp only [D.depths]
    exact Nat.max_le.mpr ⟨h x List.mem_cons_self, ih fun y hy => h y (List.mem_cons_of_mem _ hy)⟩
theorem soks_all {l : List D} (h : ∀ x ∈ l, D.sok x = true) : D.soks l = true := by
  induction l with
  | nil => rfl
  | cons x l ih => simp [D.soks, h x List.mem_cons_self, ih fun y hy => h y (List.mem_cons_of_mem _ hy)]
end DL

end
section
set_option maxRecDepth 100000
set_option maxHeartbeats 400000
/-! DL, part 20: reckoning by simp alone: comprehensions, ranges, comparisons of typed data; no program in sight. -/
namespace DL
open PySem (Str)
abbrev iD (l : List Int) : List D := l.map D.int
abbrev rowD (l : List Int) : D := .tup (l.map D.int)
abbrev vI (i : Int) : Option Sl := some (.val (.int i))
abbrev vD (d : D) : Option Sl := some (.val d)
abbrev mD (l : List D) : Option Sl := some (.mut l)
/-! ### ifs -/
@[simp] theorem if_okB {c : Prop} [Decidable c] (a b : Bool) (ρ : Env) : (if c then Res.ok a ρ else Res.ok b ρ) = Res.ok (if c then a else b) ρ := by split <;> rfl
@[simp] theorem if_okV {c : Prop} [Decidable c] (a b : D) (ρ : Env) : (if c then Res.ok (Vl.val a) ρ else Res.ok (Vl.val b) ρ) = Res.ok (Vl.val (if c then a else b)) ρ := by split <;> rfl
@[simp] theorem if_okO {c : Prop} [Decidable c] (a b : List D) (ρ : Env) : (if c then Res.ok (Vl.own a) ρ else Res.ok (Vl.own b) ρ) = Res.ok (Vl.own (if c then a else b)) ρ := by split <;> rfl
@[simp] theorem if_okD {c : Prop} [Decidable c] (a b : D) (ρ : Env) : (if c then Res.ok a ρ else Res.ok b ρ) = Res.ok (if c then a else b) ρ := by split <;> rfl
@[simp] theorem if_okS {c : Prop} [Decidable c] (a b : D) (ρ : Env) : (if c then Res.ok (some a) ρ else Res.ok (some b) ρ) = Res.ok (some (if c then a else b)) ρ := by split <;> rfl
@[simp] theorem if_int {c : Prop} [Decidable c] (a b : Int) : (if c then D.int a else D.int b) = D.int (if c then a else b) := by split <;> rfl
@[simp] theorem if_bl {c : Prop} [Decidable c] (a b : Bool) : (if c then D.bl a else D.bl b) = D.bl (if c then a else b) := by split <;> rfl
@[simp] theorem if_bind {α β : Type} {c : Prop} [Decidable c] (a b : Res α) (f : α → Env → Res β) : (if c then a else b).bind f = if c then a.bind f else b.bind f := by split <;> rfl
@[simp] theorem if_quiet {α : Type} {c : Prop} [Decidable c] (a b : Res α) : (if c then a else b).quiet = if c then a.quiet else b.quiet := by split <;> rfl
@[simp] theorem if_lft {α : Type} {c : Prop} [Decidable c] (a b : Option α) (ρ : Env) : lft ρ (if c then a else b) = if c then lft ρ a else lft ρ b := by split <;> rfl
@[simp] theorem if_finish {c : Prop} [Decidable c] (io : Bool) (a b : Res Fl) : finish io (if c then a else b) = if c then finish io a else finish io b := by split <;> rfl
@[simp] theorem if_afterCall {c : Prop} [Decidable c] (ρ : Env) (a b : CR) : afterCall ρ (if c then a else b) = if c then afterCall ρ a else afterCall ρ b := by split <;> rfl
@[simp] theorem lft_none {α : Type} (ρ : Env) : lft ρ (none : Option α) = .stuck := id rfl
@[simp] theorem get_z {α : Type} (x : α) (l : List α) : (x :: l)[0]? = some x := id rfl
/-! ### typed lists -/
theorem map_len {α : Type} (f : α → D) (l : List α) : (l.map f).length = l.length := List.length_map f
@[simp] theorem zip_map2 {α β : Type} (f : α → D) (g : β → D) (xs : List α) (ys : List β) : zipL (xs.map f) (ys.map g) = (List.zip xs ys).map fun p => .tup [f p.1, g p.2] := zip_maps f g xs ys
@[simp] theorem enum_map {α : Type} (f : α → D) (l : List α) : ∀ k, enumL k (l.map f) = (l.zipIdx k).map fun q => D.tup [.int (q.2 : Nat), f q.1] := by
  induction l with
  | nil => intro k; rfl
  | cons x l ih => intro k; simp [enumL, ih (k + 1)]
@[simp] theorem enum_nil (k : Nat) : enumL k [] = [] := id rfl
theorem range0 (k : Int) (h0 : -1000000000 ≤ k) (h : k ≤ 1000000000) : rangeop [.int k] = some ((List.range k.toNat).map fun j => D.int ((j : Nat) : Int)) := by
  have h : in62 k = true := by unfold in62; rw [Bool.and_eq_true, decide_eq_true_eq, decide_eq_true_eq]; omega
  simp only [rangeop, h, if_true]
  unfold rangeL
  congr 1
  refine List.map_congr_left fun k _ => ?_
  rw [Int.zero_add]
theorem range2 (i k : Int) (h0 : -1000000000 ≤ k) (h : k ≤ 1000000000) (h0' : -1000000000 ≤ i) (h' : i ≤ 1000000000) : rangeop [.int i, .int k] = some ((List.range (k - i).toNat).map fun j => D.int (i + ((j : Nat) : Int))) := by
  have h : in62 k = true := by unfold in62; rw [Bool.and_eq_true, decide_eq_true_eq, decide_eq_true_eq]; omega
  have h' : in62 i = true := by unfold in62; rw [Bool.and_eq_true, decide_eq_true_eq, decide_eq_true_eq]; omega
  simp only [rangeop, h, h', Bool.and_self, if_true]
  rfl
@[simp] theorem atD0 (x : D) (l : List D) : atD (x :: l) 0 = some x := id rfl
@[simp] theorem atD1 (x y : D) (l : List D) : atD (x :: y :: l) 1 = some y := id rfl
@[simp] theorem atD2 (x y z : D) (l : List D) : atD (x :: y :: z :: l) 2 = some z := id rfl
@[simp] theorem atD3 (x y z w : D) (l : List D) : atD (x :: y :: z :: w :: l) 3 = some w := id rfl
theorem atDn {α : Type} (f : α → D) (l : List α) (i : Int) (h : 0 ≤ i) : atD (l.map f) i = (l[i.toNat]?).map f := by
  unfold atD
  rw [if_pos h]
  simp
theorem atD_nat {α : Type} (f : α → D) (l : List α) (i : Nat) : atD (l.map f) (i : Int) = (l[i]?).map f := by
  rw [atDn f l _ (by omega)]
  simp
theorem atD_last {α : Type} (f : α → D) (l : List α) (h : l ≠ []) : atD (l.map f) (-1) = some (f (l.getLast h)) := by
  unfold atD
  have : 0 < l.length := List.length_pos_iff.mpr h
  rw [if_neg (by decide), if_pos (by rw [List.length_map]; omega), List.length_map, show (-1 + (l.length : Int)).toNat = l.length - 1 by omega, List.getElem?_map, List.getElem?_eq_getElem (by omega), List.getLast_eq_getElem]
  rfl
@[simp] theorem cut_map {α : Type} (f : α → D) (l : List α) (a b : Nat) : cut (l.map f) a b = (cut l a b).map f := by simp [cut]
/-! ### comparisons -/
/-- typed data: == is =, they can be compared -/
class DT {α : Type} (f : α → D) (n : outParam Nat) : Prop where
  inj : ∀ x y, D.eqv (f x) (f y) = true ↔ x = y
  dep : ∀ x, D.depth (f x) ≤ n
  sok : ∀ x, D.sok (f x) = true
theorem DT.eqb {α : Type} (f : α → D) {n : Nat} [h : DT f n] [DecidableEq α] (x y : α) : D.eqv (f x) (f y) = decide (x = y) := by
  by_cases e : x = y
  · rw [decide_eq_true e, h.inj]; exact e
  · rw [decide_eq_false e]
    cases hh : D.eqv (f x) (f y) with
    | false => rfl
    | true => exact absurd ((h.inj x y).mp hh) e
instance : DT D.int 0 := ⟨fun x y => by simp [o_eqI], fun x => Nat.le_refl _, fun x => rfl⟩
instance : DT (fun x : Int => D.int x) 0 := ⟨fun x y => by simp [o_eqI], fun x => Nat.le_refl _, fun x => rfl⟩
instance : DT (fun x : Nat => D.int (x : Int)) 0 := ⟨fun x y => by simp only [o_eqI, beq_iff_eq]; omega, fun x => Nat.le_refl _, fun x => rfl⟩
instance : DT D.bl 0 := ⟨fun x y => by simp [o_eqB], fun x => Nat.le_refl _, fun x => rfl⟩
instance : DT (fun x : Bool => D.bl x) 0 := ⟨fun x y => by simp [o_eqB], fun x => Nat.le_refl _, fun x => rfl⟩
theorem eqvs_inj {α : Type} (f : α → D) {n : Nat} [h : DT f n] : ∀ xs ys : List α, D.eqvs (xs.map f) (ys.map f) = true ↔ xs = ys
  | [], [] => by simp [D.eqvs]
  | [], _ :: _ => by simp [D.eqvs]
  | _ :: _, [] => by simp [D.eqvs]
  | x :: xs, y :: ys => by
    simp only [List.map_cons, D.eqvs, Bool.and_eq_true, h.inj, List.cons.injEq, eqvs_inj f xs ys]
theorem depths_map {α : Type} (f : α → D) {n : Nat} [h : DT f n] (xs : List α) : D.depths (xs.map f) ≤ n := depths_le fun x hx => by
  obtain ⟨y, _, rfl⟩ := List.mem_map.mp hx
  exact h.dep y
@[simp] theorem soks_map {α : Type} (f : α → D) {n : Nat} [h : DT f n] (xs : List α) : D.soks (xs.map f) = true := soks_all fun x hx => by
  obtain ⟨y, _, rfl⟩ := List.mem_map.mp hx
  exact h.sok y
instance {α : Type} (f : α → D) {n : Nat} [h : DT f n] : DT (fun l : List α => D.tup (l.map f)) (n + 1) := ⟨fun x y => by rw [D.eqv]; exact eqvs_inj f x y, fun x => Nat.succ_le_succ (depths_map f x), fun x => by rw [D.sok]; exact soks_map f x⟩
instance {α : Type} (f : α → D) {n : Nat} [h : DT f n] : DT (fun l : List α => D.lst (l.map f)) (n + 1) := ⟨fun x y => by rw [D.eqv]; exact eqvs_inj f x y, fun x => Nat.succ_le_succ (depths_map f x), fun x => by rw [D.sok]; exact soks_map f x⟩
/-- two things side by side -/
instance {α β : Type} (f : α → D) (g : β → D) {n m : Nat} [h : DT f n] [k : DT g m] : DT (fun q : α × β => D.tup [f q.1, g q.2]) (Nat.max n m + 1) := ⟨fun x y => by
    obtain ⟨a, b⟩ := x
    obtain ⟨c, d⟩ := y
    simp [D.eqv, D.eqvs, h.inj, k.inj], fun x => by
    have h1 := h.dep x.1
    have h2 := k.dep x.2
    simp only [D.depth, D.depths]
    have : Nat.max (D.depth (g x.2)) 0 = D.depth (g x.2) := Nat.max_eq_left (Nat.zero_le _)
    rw [this]
    exact Nat.succ_le_succ (Nat.max_le.mpr ⟨Nat.le_trans h1 (Nat.le_max_left _ _), Nat.le_trans h2 (Nat.le_max_right _ _)⟩), fun x => by simp [D.sok, D.soks, h.sok, k.sok]⟩
@[simp] theorem eqvs_map {α : Type} [DecidableEq α] (f : α → D) {n : Nat} [h : DT f n] (xs ys : List α) : D.eqvs (xs.map f) (ys.map f) = decide (xs = ys) := by
  by_cases e : xs = ys
  · rw [decide_eq_true e, eqvs_inj]; exact e
  · rw [decide_eq_false e]
    cases hh : D.eqvs (xs.map f) (ys.map f) with
    | false => rfl
    | true => exact absurd ((eqvs_inj f xs ys).mp hh) e
@[simp] theorem eqv_tt (xs ys : List D) : D.eqv (.tup xs) (.tup ys) = D.eqvs xs ys := by rw [D.eqv]
@[simp] theorem eqv_ll (xs ys : List D) : D.eqv (.lst xs) (.lst ys) = D.eqvs xs ys := by rw [D.eqv]
@[simp] theorem eqvs_nn : D.eqvs [] [] = true := by rw [D.eqvs]
@[simp] theorem eqvs_cn (x : D) (xs : List D) : D.eqvs (x :: xs) [] = false := by rw [D.eqvs] <;> simp
@[simp] theorem eqvs_nc (x : D) (xs : List D) : D.eqvs [] (x :: xs) = false := by rw [D.eqvs] <;> simp
@[simp] theorem eqvs_cc (x y : D) (xs ys : List D) : D.eqvs (x :: xs) (y :: ys) = (D.eqv x y && D.eqvs xs ys) := by rw [D.eqvs]
@[simp] theorem eqvs_mn {α : Type} (f : α → D) (xs : List α) : D.eqvs (xs.map f) [] = xs.isEmpty := by cases xs <;> simp
@[simp] theorem eqvs_nm {α : Type} (f : α → D) (xs : List α) : D.eqvs [] (xs.map f) = xs.isEmpty := by cases xs <;> simp
@[simp] theorem sok_int (i : Int) : D.sok (.int i) = true := id rfl
@[simp] theorem sok_bl (i : Bool) : D.sok (.bl i) = true := id rfl
@[simp] theorem sok_non : D.sok .non = true := id rfl
@[simp] theorem sok_tup (l : List D) : D.sok (.tup l) = D.soks l := by rw [D.sok]
@[simp] theorem sok_lst (l : List D) : D.sok (.lst l) = D.soks l := by rw [D.sok]
@[simp] theorem soks_nil : D.soks [] = true := by rw [D.soks]
@[simp] theorem soks_cons (x : D) (l : List D) : D.soks (x :: l) = (D.sok x && D.soks l) := by rw [D.soks]
@[simp] theorem soks_app (l m : List D) : D.soks (l ++ m) = (D.soks l && D.soks m) := by
  induction l with
  | nil => simp
  | cons x l ih => simp [ih, Bool.and_assoc]
/-- a bound of the depth -/
def shal (n : Nat) (d : D) : Bool := decide (D.depth d ≤ n)
def shals (n : Nat) (l : List D) : Bool := decide (D.depths l ≤ n)
theorem depth_shal (d : D) : decide (D.depth d ≤ 60) = shal 60 d := rfl
@[simp] theorem shal_int (n : Nat) (i : Int) : shal n (.int i) = true := decide_eq_true (Nat.zero_le _)
@[simp] theorem shal_bl (n : Nat) (i : Bool) : shal n (.bl i) = true := decide_eq_true (Nat.zero_le _)
@[simp] theorem shal_str (n : Nat) (i : Str) : shal n (.str i) = true := decide_eq_true (Nat.zero_le _)
@[simp] theorem shal_non (n : Nat) : shal n .non = true := decide_eq_true (Nat.zero_le _)
@[simp] theorem shal_tup (n : Nat) (l : List D) : shal (n + 1) (.tup l) = shals n l := by
  unfold shal shals; rw [D.depth]; exact decide_eq_decide.mpr ⟨Nat.le_of_succ_le_succ, Nat.succ_le_succ⟩
@[simp] theorem shal_lst (n : Nat) (l : List D) : shal (n + 1) (.lst l) = shals n l := by
  unfold shal shals; rw [D.depth]; exact decide_eq_decide.mpr ⟨Nat.le_of_succ_le_succ, Nat.succ_le_succ⟩
@[simp] theorem shals_nil (n : Nat) : shals n [] = true := decide_eq_true (Nat.zero_le _)
@[simp] theorem shals_cons (n : Nat) (x : D) (l : List D) : shals n (x :: l) = (shal n x && shals n l) := by
  unfold shal shals; rw [D.depths, Bool.eq_iff_iff, Bool.and_eq_true]; simp only [decide_eq_true_eq]; exact Nat.max_le
@[simp] theorem shals_app (n : Nat) (l m : List D) : shals n (l ++ m) = (shals n l && shals n m) := by
  induction l with
  | nil => simp
  | cons x l ih => simp [ih, Bool.and_assoc]
@[simp] theorem shals_map {α : Type} (f : α → D) {n k : Nat} [h : DT f n] (xs : List α) (hk : n ≤ k) : shals k (xs.map f) = true := decide_eq_true (Nat.le_trans (depths_map f xs) hk)
@[simp] theorem cmpable_eq (x y : D) : cmpable x y = ((shal 60 x || shal 60 y) && D.sok x && D.sok y) := rfl
@[simp] theorem eqvI (i j : Int) : D.eqv (.int i) (.int j) = decide (i = j) := by rw [o_eqI]; by_cases h : i = j <;> simp [h]
@[simp] theorem LIM_le {n : Nat} (h : n ≤ 1000000) : (n ≤ LIM) = True := eq_true (le_LIM (by omega))
@[simp] theorem LIM_lt {n : Nat} (h : n ≤ 1000000) : (n < LIM) = True := eq_true (Nat.lt_of_le_of_lt h (by decide : 1000000 < LIM))
theorem mul_okL {i j : Int} (h1 : -1000000000 ≤ i) (h2 : i ≤ 1000000000) : mulOk i j = true := by
  unfold mulOk
  rw [decide_eq_true (by omega : -(2 ^ 64) < i), decide_eq_true (by omega : i < 2 ^ 64)]
  rfl
theorem mul_okR {i j : Int} (h1 : -1000000000 ≤ j) (h2 : j ≤ 1000000000) : mulOk i j = true := by
  unfold mulOk
  rw [decide_eq_true (by omega : -(2 ^ 64) < j), decide_eq_true (by omega : j < 2 ^ 64)]
  simp
@[simp] theorem eqvB (i j : Bool) : D.eqv (.bl i) (.bl j) = decide (i = j) := by rw [o_eqB]; cases i <;> cases j <;> rfl
@[simp] theorem in_t (x : D) (ys : List D) : isinD x (.tup ys) = if cmpable (.tup ys) x then some (ys.any fun y => D.eqv y x) else none := id rfl
@[simp] theorem in_l (x : D) (ys : List D) : isinD x (.lst ys) = if cmpable (.lst ys) x then some (ys.any fun y => D.eqv y x) else none := id rfl
/-! ### comprehensions -/
@[irreducible] def compFB (ev : Env → Res Vl) (te : Env → Res Bool) (p : Pat) (vs : List Nat) (xs : List D) (ρ : Env) : Res Vl := compRun ev te p vs xs ρ
def optOf : Res (Option D) → Option D
  | .ok o _ => o
  | _ => none
open Classical in
noncomputable def compG {α : Type} (ρ0 ρ : Env) (l : List α) (F : α → Res (Option D)) (fb : Res Vl) : Res Vl :=
  if ∀ x ∈ l, ∃ o, F x = .ok o ρ0 then .ok (.own (l.filterMap fun x => optOf (F x))) ρ else fb
open Classical in
@[simp] theorem comp_G {α : Type} {ev : Env → Res Vl} {te : Env → Res Bool} {p : Pat} {vs : List Nat} {ρ : Env} (l : List α) (f : α → D) :
    compRun ev te p vs (l.map f) ρ = if noMut ρ vs = true ∧ l.length ≤ LIM then compG (wipeE ρ vs) ρ l (fun x => if x ∈ l then compStep (fun ρ => (ev ρ).quiet) (fun ρ => (te ρ).quiet) p vs (f x) (wipeE ρ vs) else .stuck) (compFB ev te p vs (l.map f) ρ) else compFB ev te p vs (l.map f) ρ := by
  by_cases hc : noMut ρ vs = true ∧ l.length ≤ LIM
  · rw [if_pos hc]
    unfold compG
    split
    · next h =>
      rw [comp_map l f _ hc.1 hc.2 fun x hx => ?_]
      obtain ⟨o, e⟩ := h x hx
      dsimp only at e ⊢
      rw [if_pos hx] at e ⊢
      rw [e]
      rfl
    · unfold compFB; rfl
  · rw [if_neg hc]
    unfold compFB; rfl
@[simp] theorem wipe_nil (ρ : Env) : wipeE ρ [] = ρ := id rfl
@[simp] theorem wipe_cons (ρ : Env) (v : Nat) (vs : List Nat) : wipeE ρ (v :: vs) = (wipeE ρ vs).set v none := id rfl
@[simp] theorem compStep_def (ev : Env → Res Vl) (te : Env → Res Bool) (p : Pat) (vs : List Nat) (d : D) (ρ : Env) : compStep ev te p vs d ρ = match assignP p d ρ with
  | none => .stuck
  | some ρ1 => (te ρ1).bind fun b ρ2 => if b then (ev ρ2).bind fun v ρ3 => (freeze v ρ3).bind fun x ρ4 => .ok (some x) (wipeE ρ4 vs) else .ok none (wipeE ρ2 vs) := id rfl
open Classical in
@[simp] theorem compG_all {α : Type} {ρ0 ρ : Env} {l : List α} {c : α → Prop} [i : ∀ x, Decidable (c x)] {g : α → D} {fb : Res Vl} : compG ρ0 ρ l (fun x => if c x then .ok (some (g x)) ρ0 else .stuck) fb = if ∀ x ∈ l, c x then .ok (.own (l.map g)) ρ else fb := by
  unfold compG
  by_cases h : ∀ x ∈ l, c x
  · rw [if_pos fun x hx => ⟨some (g x), by dsimp only; rw [if_pos (h x hx)]⟩, if_pos h]
    congr 2
    have : ∀ m : List α, (∀ x ∈ m, c x) → m.filterMap (fun x => optOf (if c x then .ok (some (g x)) ρ0 else .stuck)) = m.map g := by
      intro m
      induction m with
      | nil => intro _; rfl
      | cons x m ih =>
        intro hm
        rw [List.filterMap_cons, if_pos (hm x List.mem_cons_self), ih fun y hy => hm y (List.mem_cons_of_mem _ hy)]
        rfl
    exact this l h
  · rw [if_neg h, if_neg]
    intro z
    apply h
    intro x hx
    obtain ⟨o, e⟩ := z x hx
    by_cases hc : c x
    · exact hc
    · dsimp only at e
      rw [if_neg hc] at e
      cases e
open Classical in
theorem compG_fm {α : Type} {ρ0 ρ : Env} {l : List α} {c : α → Prop} [i : ∀ x, Decidable (c x)] {g : α → Option D} {fb : Res Vl} : compG ρ0 ρ l (fun x => if c x then .ok (g x) ρ0 else .stuck) fb = if ∀ x ∈ l, c x then .ok (.own (l.filterMap g)) ρ else fb := by
  unfold compG
  by_cases h : ∀ x ∈ l, c x
  · rw [if_pos fun x hx => ⟨g x, by dsimp only; rw [if_pos (h x hx)]⟩, if_pos h]
    congr 2
    have : ∀ m : List α, (∀ x ∈ m, c x) → m.filterMap (fun x => optOf (if c x then .ok (g x) ρ0 else .stuck)) = m.filterMap g := by
      intro m
      induction m with
      | nil => intro _; rfl
      | cons x m ih =>
        intro hm
        rw [List.filterMap_cons, if_pos (hm x List.mem_cons_self), ih fun y hy => hm y (List.mem_cons_of_mem _ hy), List.filterMap_cons]
        rfl
    exact this l h
  · rw [if_neg h, if_neg]
    intro z
    apply h
    intro x hx
    obtain ⟨o, e⟩ := z x hx
    by_cases hc : c x
    · exact hc
    · dsimp only at e
      rw [if_neg hc] at e
      cases e
open Classical in
@[simp] theorem compG_filter {α : Type} {ρ0 ρ : Env} {l : List α} {d c : α → Prop} [i : ∀ x, Decidable (c x)] [j : ∀ x, Decidable (d x)] {g : α → D} {fb : Res Vl} : compG ρ0 ρ l (fun x => if d x then (if c x then .ok (some (g x)) ρ0 else .ok none ρ0) else .stuck) fb = if ∀ x ∈ l, d x then .ok (.own ((l.filter fun x => decide (c x)).map g)) ρ else fb := by
  have e : (fun x => if d x then (if c x then .ok (some (g x)) ρ0 else .ok none ρ0) else .stuck : α → Res (Option D)) = fun x => if d x then .ok (if c x then some (g x) else none) ρ0 else .stuck := by
    funext x
    by_cases hc : c x <;> simp [hc]
  rw [e, compG_fm]
  congr 3
  have : ∀ m : List α, m.filterMap (fun x => if c x then some (g x) else none) = (m.filter fun x => decide (c x)).map g := by
    intro m
    induction m with
    | nil => rfl
    | cons x m ih => by_cases hc : c x <;> simp [hc, ih]
  exact this l
open Classical in
@[simp] theorem compG_filterN {α : Type} {ρ0 ρ : Env} {l : List α} {d c : α → Prop} [i : ∀ x, Decidable (c x)] [j : ∀ x, Decidable (d x)] {g : α → D} {fb : Res Vl} : compG ρ0 ρ l (fun x => if d x then (if c x then .ok none ρ0 else .ok (some (g x)) ρ0) else .stuck) fb = if ∀ x ∈ l, d x then .ok (.own ((l.filter fun x => !decide (c x)).map g)) ρ else fb := by
  have e : (fun x => if d x then (if c x then .ok none ρ0 else .ok (some (g x)) ρ0) else .stuck : α → Res (Option D)) = fun x => if d x then .ok (if c x then none else some (g x)) ρ0 else .stuck := by
    funext x
    by_cases hc : c x <;> simp [hc]
  rw [e, compG_fm]
  congr 3
  have : ∀ m : List α, m.filterMap (fun x => if c x then none else some (g x)) = (m.filter fun x => !decide (c x)).map g := by
    intro m
    induction m with
    | nil => rfl
    | cons x m ih => by_cases hc : c x <;> simp [hc, ih]
  exact this l
@[simp] theorem intsOf_map (l : List Int) : intsOf (l.map D.int) = some l := intsOf_ints l
@[simp] theorem intsOf_mapf {α : Type} (l : List α) (f : α → Int) : intsOf (l.map fun x => D.int (f x)) = some (l.map f) := by
  rw [show l.map (fun x => D.int (f x)) = intsD (l.map f) by simp [intsD]]; exact intsOf_ints _
@[simp] theorem blsOf_mapf {α : Type} (l : List α) (f : α → Bool) : blsOf (l.map fun x => D.bl (f x)) = some (l.map f) := bls_map l f
@[simp] theorem blsOf_mapi {α : Type} (l : List α) (f : α → Int) : blsOf (l.map fun x => D.int (f x)) = some (l.map fun x => f x != 0) := by
  induction l with
  | nil => rfl
  | cons x l ih => simp [blsOf, ih]
@[simp] theorem blsOf_map (l : List Int) : blsOf (l.map D.int) = some (l.map (· != 0)) := blsOf_mapi l id
@[simp] theorem noMut_nil (ρ : Env) : noMut ρ [] = true := id rfl
@[simp] theorem noMut_cons (ρ : Env) (v : Nat) (vs : List Nat) : noMut ρ (v :: vs) = ((match ρ[v]? with
  | some (some (.mut _)) => false
  | some _ => true
  | none => false) && noMut ρ vs) := id rfl
/-! ### more -/
@[simp] theorem fdiv_nat (a b : Nat) : Int.fdiv (a : Int) (b : Int) = ((a / b : Nat) : Int) := by rw [Int.fdiv_eq_ediv_of_nonneg _ (by omega)]; rfl
@[simp] theorem fmod_nat (a b : Nat) : Int.fmod (a : Int) (b : Int) = ((a % b : Nat) : Int) := by rw [Int.fmod_eq_emod_of_nonneg _ (by omega)]; rfl
theorem fdiv_nn {a b : Int} (h : 0 ≤ b) : Int.fdiv a b = a / b := Int.fdiv_eq_ediv_of_nonneg a h
theorem fmod_nn {a b : Int} (h : 0 ≤ b) : Int.fmod a b = a % b := Int.fmod_eq_emod_of_nonneg a h
@[simp] theorem all_dec2 {α : Type} (l : List α) (a b : α → Prop) [∀ x, Decidable (a x)] [∀ x, Decidable (b x)] : (l.all fun x => decide (a x) && decide (b x)) = decide (∀ x ∈ l, a x ∧ b x) := by
  rw [Bool.eq_iff_iff]; simp
@[simp] theorem all_dec1 {α : Type} (l : List α) (a : α → Prop) [∀ x, Decidable (a x)] : (l.all fun x => decide (a x)) = decide (∀ x ∈ l, a x) := by
  rw [Bool.eq_iff_iff]; simp
/-- the item at a place, for places that are there -/
def nth {α : Type} [Inhabited α] (l : List α) (i : Nat) : α := l.getD i default
theorem nth_eq {α : Type} [Inhabited α] {l : List α} {i : Nat} (h : i < l.length) : nth l i = l[i] := by
  unfold nth; rw [List.getD_eq_getElem?_getD, List.getElem?_eq_getElem h]; rfl
theorem nth_some {α : Type} [Inhabited α] {l : List α} {i : Nat} (h : i < l.length) : l[i]? = some (nth l i) := by rw [nth_eq h, List.getElem?_eq_getElem h]
theorem nth_out {α : Type} [Inhabited α] {l : List α} {i : Nat} (h : l.length ≤ i) : nth l i = default := by
  unfold nth; rw [List.getD_eq_getElem?_getD, List.getElem?_eq_none h]; rfl
theorem nth_mem {α : Type} [Inhabited α] {l : List α} {i : Nat} (h : i < l.length) : nth l i ∈ l := by rw [nth_eq h]; exact List.getElem_mem h
@[simp] theorem nth_zero {α : Type} [Inhabited α] (x : α) (l : List α) : nth (x :: l) 0 = x := id rfl
@[simp] theorem nth_succ {α : Type} [Inhabited α] (x : α) (l : List α) (i : Nat) : nth (x :: l) (i + 1) = nth l i := by unfold nth; simp
theorem nth_map {α β : Type} [Inhabited α] [Inhabited β] (f : α → β) {l : List α} {i : Nat} (h : i < l.length) : nth (l.map f) i = f (nth l i) := by rw [nth_eq (by simpa using h), nth_eq h]; simp
theorem nth_range {n i : Nat} (h : i < n) : nth (List.range n) i = i := by rw [nth_eq (by simpa using h)]; simp
theorem nth_ext {α : Type} [Inhabited α] {l m : List α} (h : l.length = m.length) (h2 : ∀ i, i < l.length → nth l i = nth m i) : l = m := by
  refine List.ext_getElem h fun i h1 h3 => ?_
  rw [← nth_eq h1, ← nth_eq h3]
  exact h2 i h1
theorem atD_nth {α : Type} [Inhabited α] (f : α → D) (l : List α) (i : Int) (h0 : 0 ≤ i) (h1 : i < l.length) : atD (l.map f) i = some (f (nth l i.toNat)) := by
  rw [atDn f l i h0, nth_some (by omega), Option.map_some]
@[simp] theorem toNat_div (a b : Nat) : ((a : Int) / (b : Int)).toNat = a / b := by rw [← Int.natCast_ediv, Int.toNat_natCast]
@[simp] theorem toNat_mod (a b : Nat) : ((a : Int) % (b : Int)).toNat = a % b := by rw [← Int.natCast_emod, Int.toNat_natCast]
theorem o_mulL {i j : Int} (h1 : -1000000000 ≤ i) (h2 : i ≤ 1000000000) : binop .mul (.int i) (.int j) = some (.val (.int (i * j))) := by rw [o_mulI, mul_okL h1 h2]; rfl
theorem o_mulR {i j : Int} (h1 : -1000000000 ≤ j) (h2 : j ≤ 1000000000) : binop .mul (.int i) (.int j) = some (.val (.int (i * j))) := by rw [o_mulI, mul_okR h1 h2]; rfl
theorem o_div {i j : Int} (h1 : 0 < j) (h2 : j ≤ 1000000000) : binop .fdiv (.int i) (.int j) = some (.val (.int (i / j))) := by
  rw [o_divI, if_pos ⟨by omega, by omega⟩, fdiv_nn (by omega)]
theorem o_mod {i j : Int} (h1 : 0 < j) : binop .mod (.int i) (.int j) = some (.val (.int (i % j))) := by
  rw [o_modI, if_pos (by omega), fmod_nn (by omega)]
theorem o_divN (a b : Nat) (h1 : 0 < b) (h2 : b ≤ 1000000000) : binop .fdiv (.int (a : Int)) (.int (b : Int)) = some (.val (.int ((a / b : Nat) : Int))) := by
  rw [o_divI, if_pos ⟨by omega, by omega⟩, fdiv_nat]
theorem o_modN (a b : Nat) (h1 : 0 < b) : binop .mod (.int (a : Int)) (.int (b : Int)) = some (.val (.int ((a % b : Nat) : Int))) := by
  rw [o_modI, if_pos (by omega), fmod_nat]
theorem if_at {α β : Type} [Inhabited α] {c : Prop} [Decidable c] {f : α → D} {l : List α} {i : Int} {ρ : Env} {R : Res β} {k : Vl → Env → Res β} (h0 : c → 0 ≤ i) (h1 : c → i < l.length) :
    (if c then (lft ρ ((atD (l.map f) i).map Vl.val)).bind k else R) = if c then k (.val (f (nth l i.toNat))) ρ else R := by
  by_cases h : c
  · rw [if_pos h, if_pos h, atD_nth f l i (h0 h) (h1 h)]; rfl
  · rw [if_neg h, if_neg h]
@[simp] theorem part_non (n d : Nat) : part n d .non = some d := id rfl
theorem part_int (n d : Nat) (i : Int) (h : 0 ≤ i) : part n d (.int i) = some (min i.toNat n) := by simp [part, cutAt, h]
@[simp] theorem part_nat (n d k : Nat) : part n d (.int (k : Int)) = some (min k n) := by rw [part_int _ _ _ (Int.natCast_nonneg k), Int.toNat_natCast]
@[simp] theorem cut_zero {α : Type} (l : List α) (k : Nat) : cut l 0 (min k l.length) = l.take k := by
  unfold cut
  rw [List.drop_zero, Nat.sub_zero]
  by_cases h : k ≤ l.length
  · rw [Nat.min_eq_left h]
  · rw [Nat.min_eq_right (by omega), List.take_of_length_le (Nat.le_refl _), List.take_of_length_le (by omega)]
@[simp] theorem cut_end {α : Type} (l : List α) (k : Nat) : cut l (min k l.length) l.length = l.drop k := by
  unfold cut
  rw [List.take_of_length_le (by rw [List.length_drop]; omega)]
  by_cases h : k ≤ l.length
  · rw [Nat.min_eq_left h]
  · rw [Nat.min_eq_right (by omega), List.drop_of_length_le (Nat.le_refl _), List.drop_of_length_le (by omega)]
@[simp] theorem cut_all {α : Type} (l : List α) : cut l 0 l.length = l := by
  unfold cut
  rw [List.drop_zero, List.take_of_length_le (by omega)]
theorem cut_mid {α : Type} (l : List α) (a b : Nat) : cut l (min a l.length) (min b l.length) = (l.drop a).take (b - a) := by
  unfold cut
  rcases Nat.le_total a l.length with h | h
  · rw [Nat.min_eq_left h]
    rcases Nat.le_total b l.length with h2 | h2
    · rw [Nat.min_eq_left h2]
    · rw [Nat.min_eq_right h2, List.take_of_length_le (by rw [List.length_drop]; omega), List.take_of_length_le (by rw [List.length_drop]; omega)]
  · rw [Nat.min_eq_right h, List.drop_of_length_le (Nat.le_refl _), List.drop_of_length_le h, List.take_nil, List.take_nil]
@[simp] theorem partV_t : partV true (.val .non) = some .non := id rfl
@[simp] theorem partV_f (i : Int) : partV false (.val (.int i)) = some (.int i) := id rfl
@[simp] theorem isNone_n : E.isNone .non = true := id rfl
@[simp] theorem isNone_i (i : Int) : E.isNone (.int i) = false := id rfl
@[simp] theorem isNone_v (i : Nat) : E.isNone (.var i) = false := id rfl
@[simp] theorem isNone_b (o : Bop) (a b : E) : E.isNone (.bin o a b) = false := id rfl
@[simp] theorem isNone_bi (o : Bi) (a : Es) : E.isNone (.bi o a) = false := id rfl
@[simp] theorem isNone_ix (a b : E) : E.isNone (.ix a b) = false := id rfl
@[simp] theorem isNone_neg (a : E) : E.isNone (.neg a) = false := id rfl
@[simp] theorem isNone_call (f : Nat) (a : Es) : E.isNone (.call f a) = false := id rfl
theorem slice_t (xs : List D) (l h : D) : sliceop (.tup xs) l h = match part xs.length 0 l, part xs.length xs.length h with
    | some a, some b => some (.val (.tup (cut xs a b)))
    | _, _ => none := id rfl
theorem slice_l (xs : List D) (l h : D) : sliceop (.lst xs) l h = match part xs.length 0 l, part xs.length xs.length h with
    | some a, some b => some (.own (cut xs a b))
    | _, _ => none := id rfl
theorem rangeMul (a b : Nat) (h : a * b ≤ 1000000000) : rangeop [.int ((a : Int) * (b : Int))] = some ((List.range (a * b)).map fun j => D.int ((j : Nat) : Int)) := by
  rw [← Int.natCast_mul, range0 _ (by omega) (by omega), Int.toNat_natCast]
/-! ### fit values -/
@[simp] theorem fit_int (i : Int) : D.fit (.int i) = true := by rw [D.fit] <;> simp
@[simp] theorem fit_bl (i : Bool) : D.fit (.bl i) = true := by rw [D.fit] <;> simp
@[simp] theorem fit_non : D.fit .non = true := by rw [D.fit] <;> simp
@[simp] theorem fit_tup (l : List D) : D.fit (.tup l) = (decide (l.length ≤ LIM) && D.fits l) := by rw [D.fit]
@[simp] theorem fit_lst' (l : List D) : D.fit (.lst l) = (decide (l.length ≤ LIM) && D.fits l) := by rw [D.fit]
@[simp] theorem fits_nil : D.fits [] = true := by rw [D.fits]
@[simp] theorem fits_cons (x : D) (l : List D) : D.fits (x :: l) = (D.fit x && D.fits l) := by rw [D.fits]
@[simp] theorem fits_app (l m : List D) : D.fits (l ++ m) = (D.fits l && D.fits m) := by
  induction l with
  | nil => simp
  | cons x l ih => simp [ih, Bool.and_assoc]
theorem fits_map' {α : Type} (l : List α) (f : α → D) (h : ∀ x ∈ l, D.fit (f x) = true) : D.fits (l.map f) = true := fits_map l f h
@[simp] theorem fits_mapI (l : List Int) : D.fits (l.map D.int) = true := fits_map l _ fun _ _ => by simp
@[simp] theorem fits_mapi {α : Type} (l : List α) (f : α → Int) : D.fits (l.map fun x => D.int (f x)) = true := fits_map l _ fun _ _ => by simp
@[simp] theorem fits_mapb {α : Type} (l : List α) (f : α → Bool) : D.fits (l.map fun x => D.bl (f x)) = true := fits_map l _ fun _ _ => by simp
theorem fit_row {l : List Int} (h : l.length ≤ 1000000) : D.fit (rowD l) = true := by simp [h]
theorem fits_rows {ls : List (List Int)} (h : ∀ l ∈ ls, l.length ≤ 1000000) : D.fits (ls.map rowD) = true := fits_map _ _ fun x hx => fit_row (h x hx)
theorem shal_mono {n m : Nat} {d : D} (h : shal n d = true) (hm : n ≤ m) : shal m d = true := decide_eq_true (Nat.le_trans (of_decide_eq_true h) hm)
mutual
/-- lists become tuples at every depth -/
def tupD : D → D
  | .tup xs => .tup (tupDs xs)
  | .lst xs => .tup (tupDs xs)
  | d => d
def tupDs : List D → List D
  | [] => []
  | x :: xs => tupD x :: tupDs xs
end
theorem tupDs_map (l : List D) : tupDs l = l.map tupD := by
  induction l with
  | nil => rw [tupDs]; rfl
  | cons x l ih => rw [tupDs, ih]; rfl
@[simp] theorem tupD_int (i : Int) : tupD (.int i) = .int i := by rw [tupD] <;> simp
@[simp] theorem tupD_bl (i : Bool) : tupD (.bl i) = .bl i := by rw [tupD] <;> simp
@[simp] theorem tupD_non : tupD .non = .non := by rw [tupD] <;> simp
@[simp] theorem tupD_str (s : Str) : tupD (.str s) = .str s := by rw [tupD] <;> simp
@[simp] theorem tupD_tup (l : List D) : tupD (.tup l) = .tup (tupDs l) := by rw [tupD]
@[simp] theorem tupD_lst (l : List D) : tupD (.lst l) = .tup (tupDs l) := by rw [tupD]
@[simp] theorem tupDs_nil : tupDs [] = [] := by rw [tupDs]
@[simp] theorem tupDs_cons (x : D) (l : List D) : tupDs (x :: l) = tupD x :: tupDs l := by rw [tupDs]
@[simp] theorem tupDs_mapf {α : Type} (f : α → D) (l : List α) : tupDs (l.map f) = l.map fun x => tupD (f x) := by rw [tupDs_map, List.map_map]; rfl
mutual
/-- tuples become lists at every depth -/
def lstD : D → D
  | .tup xs => .lst (lstDs xs)
  | .lst xs => .lst (lstDs xs)
  | d => d
def lstDs : List D → List D
  | [] => []
  | x :: xs => lstD x :: lstDs xs
end
theorem lstDs_map (l : List D) : lstDs l = l.map lstD := by
  induction l with
  | nil => rw [lstDs]; rfl
  | cons x l ih => rw [lstDs, ih]; rfl
@[simp] theorem lstD_int (i : Int) : lstD (.int i) = .int i := by rw [lstD] <;> simp
@[simp] theorem lstD_bl (i : Bool) : lstD (.bl i) = .bl i := by rw [lstD] <;> simp
@[simp] theorem lstD_non : lstD .non = .non := by rw [lstD] <;> simp
@[simp] theorem lstD_str (s : Str) : lstD (.str s) = .str s := by rw [lstD] <;> simp
@[simp] theorem lstD_tup (l : List D) : lstD (.tup l) = .lst (lstDs l) := by rw [lstD]
@[simp] theorem lstD_lst (l : List D) : lstD (.lst l) = .lst (lstDs l) := by rw [lstD]
@[simp] theorem lstDs_nil : lstDs [] = [] := by rw [lstDs]
@[simp] theorem lstDs_cons (x : D) (l : List D) : lstDs (x :: l) = lstD x :: lstDs l := by rw [lstDs]
@[simp] theorem lstDs_mapf {α : Type} (f : α → D) (l : List α) : lstDs (l.map f) = l.map fun x => lstD (f x) := by rw [lstDs_map, List.map_map]; rfl
theorem tup_lst (d : D) : ∀ n, D.depth d < n → tupD (lstD d) = tupD d := by
  intro n
  induction n generalizing d with
  | zero => intro h; exact absurd h (Nat.not_lt_zero _)
  | succ n ih =>
    intro h
    have key : ∀ l : List D, D.depths l < n → tupDs (lstDs l) = tupDs l := fun l hl => by
      rw [lstDs_map, tupDs_map, tupDs_map, List.map_map]
      exact List.map_congr_left fun x hx => ih x (Nat.lt_of_le_of_lt (depth_mem hx) hl)
    cases d with
    | tup l => simp only [lstD_tup, tupD_lst, tupD_tup, D.tup.injEq]; exact key l (by simp only [D.depth] at h; omega)
    | lst l => simp only [lstD_lst, tupD_lst, D.tup.injEq]; exact key l (by simp only [D.depth] at h; omega)
    | non => simp
    | bl b => simp
    | int i => simp
    | str s => simp
/-! ### maps stay outside -/
@[simp] theorem take_map' {α : Type} (f : α → D) (l : List α) (k : Nat) : (l.map f).take k = (l.take k).map f := (List.map_take).symm
@[simp] theorem drop_map' {α : Type} (f : α → D) (l : List α) (k : Nat) : (l.map f).drop k = (l.drop k).map f := (List.map_drop).symm
@[simp] theorem rev_map' {α : Type} (f : α → D) (l : List α) : (l.map f).reverse = l.reverse.map f := (List.map_reverse).symm
@[simp] theorem app_map' {α : Type} (f : α → D) (l m : List α) : l.map f ++ m.map f = (l ++ m).map f := (List.map_append).symm
@[simp] theorem set_map' (l : List Int) (i : Nat) (x : Int) : (l.map D.int).set i (.int x) = (l.set i x).map .int := (List.map_set).symm
theorem rows_of {α : Type} (g : α → List Int) (l : List α) : l.map (fun x => D.tup ((g x).map D.int)) = (l.map g).map rowD := by rw [List.map_map]; rfl
theorem ints_of {α : Type} (g : α → Int) (l : List α) : l.map (fun x => D.int (g x)) = (l.map g).map D.int := by rw [List.map_map]; rfl
/-! ### slices -/
theorem slT_to (xs : List D) (k : Int) (h : 0 ≤ k) : sliceop (.tup xs) .non (.int k) = some (.val (.tup (xs.take k.toNat))) := by rw [slice_t, part_non, part_int _ _ _ h]; dsimp only; rw [cut_zero]
theorem slL_to (xs : List D) (k : Int) (h : 0 ≤ k) : sliceop (.lst xs) .non (.int k) = some (.own (xs.take k.toNat)) := by rw [slice_l, part_non, part_int _ _ _ h]; dsimp only; rw [cut_zero]
theorem slT_from (xs : List D) (k : Int) (h : 0 ≤ k) : sliceop (.tup xs) (.int k) .non = some (.val (.tup (xs.drop k.toNat))) := by rw [slice_t, part_non, part_int _ _ _ h]; dsimp only; rw [cut_end]
theorem slL_from (xs : List D) (k : Int) (h : 0 ≤ k) : sliceop (.lst xs) (.int k) .non = some (.own (xs.drop k.toNat)) := by rw [slice_l, part_non, part_int _ _ _ h]; dsimp only; rw [cut_end]
theorem slT_mid (xs : List D) (a b : Int) (h : 0 ≤ a) (h2 : 0 ≤ b) : sliceop (.tup xs) (.int a) (.int b) = some (.val (.tup ((xs.drop a.toNat).take (b.toNat - a.toNat)))) := by rw [slice_t, part_int _ _ _ h, part_int _ _ _ h2]; dsimp only; rw [cut_mid]
theorem slL_mid (xs : List D) (a b : Int) (h : 0 ≤ a) (h2 : 0 ≤ b) : sliceop (.lst xs) (.int a) (.int b) = some (.own ((xs.drop a.toNat).take (b.toNat - a.toNat))) := by rw [slice_l, part_int _ _ _ h, part_int _ _ _ h2]; dsimp only; rw [cut_mid]
@[simp] theorem slT_toN (xs : List D) (k : Nat) : sliceop (.tup xs) .non (.int (k : Int)) = some (.val (.tup (xs.take k))) := by rw [slT_to _ _ (Int.natCast_nonneg k), Int.toNat_natCast]
@[simp] theorem slL_toN (xs : List D) (k : Nat) : sliceop (.lst xs) .non (.int (k : Int)) = some (.own (xs.take k)) := by rw [slL_to _ _ (Int.natCast_nonneg k), Int.toNat_natCast]
@[simp] theorem slT_fromN (xs : List D) (k : Nat) : sliceop (.tup xs) (.int (k : Int)) .non = some (.val (.tup (xs.drop k))) := by rw [slT_from _ _ (Int.natCast_nonneg k), Int.toNat_natCast]
@[simp] theorem slL_fromN (xs : List D) (k : Nat) : sliceop (.lst xs) (.int (k : Int)) .non = some (.own (xs.drop k)) := by rw [slL_from _ _ (Int.natCast_nonneg k), Int.toNat_natCast]
@[simp] theorem slT_one (xs : List D) : sliceop (.tup xs) (.int 1) .non = some (.val (.tup (xs.drop 1))) := slT_from xs 1 (by decide)
@[simp] theorem slL_one (xs : List D) : sliceop (.lst xs) (.int 1) .non = some (.own (xs.drop 1)) := slL_from xs 1 (by decide)
@[simp] theorem slT_first (xs : List D) : sliceop (.tup xs) .non (.int 1) = some (.val (.tup (xs.take 1))) := slT_to xs 1 (by decide)
theorem part_neg1 (n d : Nat) : part n d (.int (-1)) = some (n - 1) := by show some (cutAt n (-1)) = _; unfold cutAt; rw [if_neg (by decide)]; congr 1; omega
theorem cut_dl {α : Type} (l : List α) : cut l 0 (l.length - 1) = l.dropLast := by unfold cut; rw [List.drop_zero, List.dropLast_eq_take]; rfl
@[simp] theorem slT_dl (xs : List D) : sliceop (.tup xs) .non (.int (-1)) = some (.val (.tup xs.dropLast)) := by rw [slice_t, part_non, part_neg1]; dsimp only; rw [cut_dl]
@[simp] theorem slL_dl (xs : List D) : sliceop (.lst xs) .non (.int (-1)) = some (.own xs.dropLast) := by rw [slice_l, part_non, part_neg1]; dsimp only; rw [cut_dl]
@[simp] theorem dl_map' {α : Type} (f : α → D) (l : List α) : (l.map f).dropLast = l.dropLast.map f := (List.map_dropLast).symm
/-! ### loops by what is gone through -/
theorem for_pre {α X : Type} {b : D → Env → Res Fl} (f : α → D) (R : List α → X → Env) (I : List α → X → Prop) (l : List α) (σ0 : X) (h0 : I [] σ0)
    (h : ∀ pre x post σ, l = pre ++ x :: post → I pre σ → ∃ σ', b (f x) (R pre σ) = .ok .next (R (pre ++ [x]) σ') ∧ I (pre ++ [x]) σ') : ∃ σ', forLoop b (l.map f) (R [] σ0) = .ok .next (R l σ') ∧ I l σ' := by
  have key : ∀ (m pre : List α) (σ : X), l = pre ++ m → I pre σ → ∃ σ', forLoop b (m.map f) (R pre σ) = .ok .next (R l σ') ∧ I l σ' := by
    intro m
    induction m with
    | nil =>
      intro pre σ e hI
      rw [List.append_nil] at e
      subst e
      exact ⟨σ, rfl, hI⟩
    | cons x m ih =>
      intro pre σ e hI
      obtain ⟨σ1, e1, h1⟩ := h pre x m σ e hI
      obtain ⟨σ2, e2, h2⟩ := ih (pre ++ [x]) σ1 (by rw [e, List.append_assoc]; rfl) h1
      refine ⟨σ2, ?_, h2⟩
      rw [List.map_cons]
      show (b (f x) (R pre σ)).bind _ = _
      rw [e1]
      exact e2
  exact key l [] σ0 rfl h0
/-- the same without a claim -/
theorem for_pre' {α X : Type} {b : D → Env → Res Fl} (f : α → D) (R : List α → X → Env) (l : List α) (σ0 : X)
    (h : ∀ pre x post σ, l = pre ++ x :: post → ∃ σ', b (f x) (R pre σ) = .ok .next (R (pre ++ [x]) σ')) : ∃ σ', forLoop b (l.map f) (R [] σ0) = .ok .next (R l σ') := by
  obtain ⟨σ', e, _⟩ := for_pre (b := b) f R (fun _ _ => True) l σ0 trivial fun pre x post σ e _ => by
    obtain ⟨σ', e'⟩ := h pre x post σ e
    exact ⟨σ', e', trivial⟩
  exact ⟨σ', e⟩
theorem pre_len {α : Type} {l pre post : List α} {x : α} (h : l = pre ++ x :: post) : pre.length < l.length := by rw [h, List.length_append, List.length_cons]; omega
theorem pre_mem {α : Type} {l pre post : List α} {x : α} (h : l = pre ++ x :: post) : x ∈ l := by rw [h]; simp
theorem pre_nth {α : Type} [Inhabited α] {l pre post : List α} {x : α} (h : l = pre ++ x :: post) : nth l pre.length = x := by
  rw [nth_eq (pre_len h)]; simp [h]
theorem pre_take {α : Type} {l pre post : List α} {x : α} (h : l = pre ++ x :: post) : l.take pre.length = pre := by simp [h]
theorem pre_range {n : Nat} {pre post : List Nat} {x : Nat} (h : List.range n = pre ++ x :: post) : pre = List.range x ∧ x < n := by
  have h1 := pre_len h
  rw [List.length_range] at h1
  have h2 := pre_nth h
  rw [nth_range h1] at h2
  have h3 := pre_take h
  rw [List.take_range, Nat.min_eq_left (by omega)] at h3
  rw [← h3, h2]
  exact ⟨rfl, by omega⟩
/-- a comprehension whose turns change the slots -/
theorem comp_pre {α X : Type} {ev : Env → Res Vl} {te : Env → Res Bool} {p : Pat} {vs : List Nat} (f : α → D) (R : X → Env) (I : List α → List D → X → Prop) (l : List α) (σ0 : X) (hn : noMut (R σ0) vs = true) (hw : ∀ σ, wipeE (R σ) vs = R σ) (hr : ∀ σ, restoreE (R σ0) (R σ) vs = R σ) (hl : l.length ≤ LIM) (h0 : I [] [] σ0)
    (h : ∀ pre x post acc σ, l = pre ++ x :: post → acc.length ≤ pre.length → I pre acc σ → ∃ o σ', compStep (fun ρ => (ev ρ).quiet) (fun ρ => (te ρ).quiet) p vs (f x) (R σ) = .ok o (R σ') ∧ I (pre ++ [x]) (acc ++ o.toList) σ') :
    ∃ acc σ', compRun ev te p vs (l.map f) (R σ0) = .ok (.own acc) (R σ') ∧ I l acc σ' := by
  obtain ⟨acc, ρ', e, σ', h1, h2, h3⟩ := comp_ex (ev := ev) (te := te) (p := p) (ρ := R σ0) l f (fun k acc ρ => ∃ σ, ρ = R σ ∧ acc.length ≤ k ∧ I (l.take k) acc σ) hn hl ⟨σ0, hw σ0, Nat.le_refl _, by rw [List.take_zero]; exact h0⟩
    fun k x acc ρ hx ha ⟨σ, e1, e2, e3⟩ => by
      subst e1
      have hk : k < l.length := (List.getElem?_eq_some_iff.mp hx).1
      have hs : l = l.take k ++ x :: l.drop (k + 1) := by
        rw [← (List.getElem?_eq_some_iff.mp hx).2, List.getElem_cons_drop, List.take_append_drop]
      obtain ⟨o, σ', e4, e5⟩ := h _ x _ acc σ hs (by rw [List.length_take]; omega) e3
      refine ⟨o, _, e4, σ', rfl, ?_, ?_⟩
      · rw [List.length_append]
        have : o.toList.length ≤ 1 := by cases o <;> simp
        omega
      · have : l.take (k + 1) = l.take k ++ [x] := by rw [List.take_succ, hx]; rfl
        rw [this]; exact e5
  refine ⟨acc, σ', ?_, by rw [List.take_length] at h3; exact h3⟩
  rw [e, h1, hr]
/-- a comprehension whose first turn freezes a list -/
theorem comp_frz {α : Type} {ev : Env → Res Vl} {te : Env → Res Bool} {p : Pat} {vs : List Nat} {ρ : Env} (ρ2 : Env) (l : List α) (f : α → D) (g : α → Option D) (hn : noMut ρ vs = true) (hl : l.length ≤ LIM) (hne : l ≠ [])
    (h1 : ∀ x ∈ l, compStep (fun ρ => (ev ρ).quiet) (fun ρ => (te ρ).quiet) p vs (f x) (wipeE ρ vs) = .ok (g x) ρ2)
    (h2 : ∀ x ∈ l, compStep (fun ρ => (ev ρ).quiet) (fun ρ => (te ρ).quiet) p vs (f x) ρ2 = .ok (g x) ρ2) : compRun ev te p vs (l.map f) ρ = .ok (.own (l.filterMap g)) (restoreE ρ ρ2 vs) := by
  unfold compRun
  rw [if_pos hn]
  generalize compStep (fun ρ => (ev ρ).quiet) (fun ρ => (te ρ).quiet) p vs = step at h1 h2 ⊢
  have key : ∀ (l : List α) (acc : List D), acc.length + l.length ≤ LIM → (∀ x ∈ l, step (f x) ρ2 = .ok (g x) ρ2) → compLoop step (l.map f) acc ρ2 = .ok (acc ++ l.filterMap g) ρ2 := by
    intro l
    induction l with
    | nil => intro acc _ _; simp [compLoop]
    | cons x l ih =>
      intro acc ha hh
      rw [List.map_cons]
      unfold compLoop
      rw [hh x List.mem_cons_self]
      simp only [x_bok]
      simp only [List.length_cons] at ha
      cases hg : g x with
      | none =>
        simp only [List.filterMap_cons, hg]
        exact ih acc (by omega) fun y hy => hh y (List.mem_cons_of_mem _ hy)
      | some d =>
        simp only [List.filterMap_cons, hg]
        rw [if_pos (by omega), ih (acc ++ [d]) (by rw [List.length_append, List.length_singleton]; omega) fun y hy => hh y (List.mem_cons_of_mem _ hy)]
        simp
  cases l with
  | nil => exact absurd rfl hne
  | cons x l =>
    rw [List.map_cons]
    unfold compLoop
    rw [h1 x List.mem_cons_self]
    simp only [x_bok]
    simp only [List.length_cons] at hl
    have hh : ∀ y ∈ l, step (f y) ρ2 = .ok (g y) ρ2 := fun y hy => h2 y (List.mem_cons_of_mem _ hy)
    cases hg : g x with
    | none =>
      simp only [List.filterMap_cons, hg]
      rw [key l [] (by simp; omega) hh]
      rfl
    | some d =>
      simp only [List.filterMap_cons, hg]
      rw [if_pos (by simp)]
      rw [List.nil_append, key l [d] (by simp; omega) hh]
      rfl
theorem fm_some {α β : Type} (l : List α) (g : α → β) : l.filterMap (fun x => some (g x)) = l.map g := by rw [List.filterMap_eq_map']
theorem fm_filter {α : Type} (l : List α) (c : α → Bool) (g : α → D) : l.filterMap (fun x => if c x = true then some (g x) else none) = (l.filter c).map g := by
  induction l with
  | nil => rfl
  | cons x l ih => by_cases h : c x = true <;> simp [h, ih]
@[simp] theorem s_never' {call : Nat → Option (List D) → List D → CR} {ρ : Env} : execS call .never ρ = .stuck := by rw [execS]
/-- the greatest of some -/
def maxL : List Int → Int
  | [] => 0
  | n :: ns => ns.foldl (fun a b => if a < b then b else a) n
def minL : List Int → Int
  | [] => 0
  | n :: ns => ns.foldl (fun a b => if b < a then b else a) n
theorem max_t (l : List Int) (h : 0 < l.length) : biop .max [.tup (l.map D.int)] = some (.val (.int (maxL l))) := by
  cases l with
  | nil => cases h
  | cons x l => simp [biop, maxL, intsOf]
theorem max_l (l : List Int) (h : 0 < l.length) : biop .max [.lst (l.map D.int)] = some (.val (.int (maxL l))) := by
  cases l with
  | nil => cases h
  | cons x l => simp [biop, maxL, intsOf]
theorem min_t (l : List Int) (h : 0 < l.length) : biop .min [.tup (l.map D.int)] = some (.val (.int (minL l))) := by
  cases l with
  | nil => cases h
  | cons x l => simp [biop, minL, intsOf]
theorem min_l (l : List Int) (h : 0 < l.length) : biop .min [.lst (l.map D.int)] = some (.val (.int (minL l))) := by
  cases l with
  | nil => cases h
  | cons x l => simp [biop, minL, intsOf]
@[simp] theorem o_max2 (i j : Int) : biop .max [.int i, .int j] = some (.val (.int (max i j))) := by
  simp only [biop]
  congr 3
  split <;> omega
@[simp] theorem o_min2 (i j : Int) : biop .min [.int i, .int j] = some (.val (.int (min i j))) := by
  simp only [biop]
  congr 3
  split <;> omega
abbrev natsD (l : List Nat) : List D := l.map fun k : Nat => D.int (k : Int)
theorem nats_int (l : List Nat) : natsD l = (l.map fun k : Nat => (k : Int)).map D.int := by rw [List.map_map]; rfl
theorem max_tN (l : List Nat) (h : 0 < l.length) : biop .max [.tup (natsD l)] = some (.val (.int (maxL (l.map fun k : Nat => (k : Int))))) := by
  rw [nats_int, max_t _ (by simpa using h)]
theorem max_lN (l : List Nat) (h : 0 < l.length) : biop .max [.lst (natsD l)] = some (.val (.int (maxL (l.map fun k : Nat => (k : Int))))) := by
  rw [nats_int, max_l _ (by simpa using h)]
@[simp] theorem nat_inj (a b : Nat) : ((a : Int) = (b : Int)) = (a = b) := propext Int.natCast_inj
theorem snoc_map {α β : Type} (f : α → β) (l : List α) (x : α) : l.map f ++ [f x] = (l ++ [x]).map f := by rw [List.map_append]; rfl
theorem nc_add (a b : Nat) : (a : Int) + (b : Int) = ((a + b : Nat) : Int) := (Int.natCast_add a b).symm
theorem nc_mul (a b : Nat) : (a : Int) * (b : Int) = ((a * b : Nat) : Int) := (Int.natCast_mul a b).symm
theorem nc_add1 (a : Nat) : (a : Int) + 1 = ((a + 1 : Nat) : Int) := rfl
theorem nc_add2 (a : Nat) : (a : Int) + 2 = ((a + 2 : Nat) : Int) := rfl
theorem nc_1add (a : Nat) : 1 + (a : Int) = ((1 + a : Nat) : Int) := rfl
/-- a loop that may hand something back on its way -/
theorem for_find {α X : Type} {b : D → Env → Res Fl} (f : α → D) (R : List α → X → Env) (bad : α → Bool) (v : Vl) (l : List α) (σ0 : X)
    (hb : ∀ pre x post σ, l = pre ++ x :: post → bad x = true → ∃ ρ', b (f x) (R pre σ) = .ok (.ret v) ρ')
    (hg : ∀ pre x post σ, l = pre ++ x :: post → bad x = false → ∃ σ', b (f x) (R pre σ) = .ok .next (R (pre ++ [x]) σ')) :
    (l.any bad = true ∧ ∃ ρ', forLoop b (l.map f) (R [] σ0) = .ok (.ret v) ρ') ∨ (l.any bad = false ∧ ∃ σ', forLoop b (l.map f) (R [] σ0) = .ok .next (R l σ')) := by
  have key : ∀ (m pre : List α) (σ : X), l = pre ++ m → (m.any bad = true ∧ ∃ ρ', forLoop b (m.map f) (R pre σ) = .ok (.ret v) ρ') ∨ (m.any bad = false ∧ ∃ σ', forLoop b (m.map f) (R pre σ) = .ok .next (R l σ')) := by
    intro m
    induction m with
    | nil =>
      intro pre σ e
      rw [List.append_nil] at e
      subst e
      exact .inr ⟨rfl, σ, rfl⟩
    | cons x m ih =>
      intro pre σ e
      cases hx : bad x with
      | true =>
        obtain ⟨ρ', e1⟩ := hb pre x m σ e hx
        refine .inl ⟨by simp [hx], ρ', ?_⟩
        rw [List.map_cons]
        show (b (f x) (R pre σ)).bind _ = _
        rw [e1]
        rfl
      | false =>
        obtain ⟨σ1, e1⟩ := hg pre x m σ e hx
        have e2 : forLoop b ((x :: m).map f) (R pre σ) = forLoop b (m.map f) (R (pre ++ [x]) σ1) := by
          rw [List.map_cons]
          show (b (f x) (R pre σ)).bind _ = _
          rw [e1]
          rfl
        rw [e2, List.any_cons, hx, Bool.false_or]
        exact ih (pre ++ [x]) σ1 (by rw [e, List.append_assoc]; rfl)
  exact key l [] σ0 rfl
theorem sset_l (l : List Int) (h : l.length < 64) : ssetop (.lst (l.map D.int)) = some (.own ((setI l).map .int)) := by
  simp only [ssetop, intsOf_map, h, if_true]
theorem max_lF {α : Type} (f : α → Int) (l : List α) (h : 0 < l.length) : biop .max [.lst (l.map fun x => D.int (f x))] = some (.val (.int (maxL (l.map f)))) := by rw [ints_of, max_l _ (by simpa using h)]
theorem max_tF {α : Type} (f : α → Int) (l : List α) (h : 0 < l.length) : biop .max [.tup (l.map fun x => D.int (f x))] = some (.val (.int (maxL (l.map f)))) := by rw [ints_of, max_t _ (by simpa using h)]
theorem min_lF {α : Type} (f : α → Int) (l : List α) (h : 0 < l.length) : biop .min [.lst (l.map fun x => D.int (f x))] = some (.val (.int (minL (l.map f)))) := by rw [ints_of, min_l _ (by simpa using h)]
theorem sset_lF {α : Type} (f : α → Int) (l : List α) (h : l.length < 64) : ssetop (.lst (l.map fun x => D.int (f x))) = some (.own ((setI (l.map f)).map .int)) := by rw [ints_of, sset_l _ (by simpa using h)]
@[simp] theorem shals_mapi {α : Type} (n : Nat) (l : List α) (f : α → Int) : shals n (l.map fun x => D.int (f x)) = true := by
  induction l with
  | nil => simp
  | cons x l ih => simp [ih]
@[simp] theorem shals_mapb {α : Type} (n : Nat) (l : List α) (f : α → Bool) : shals n (l.map fun x => D.bl (f x)) = true := by
  induction l with
  | nil => simp
  | cons x l ih => simp [ih]
theorem shals_map' {α : Type} (n : Nat) (l : List α) (f : α → D) (h : ∀ x ∈ l, shal n (f x) = true) : shals n (l.map f) = true := by
  induction l with
  | nil => simp
  | cons x l ih => simp [ih fun y hy => h y (List.mem_cons_of_mem _ hy), h x List.mem_cons_self]
end DL

end
section
set_option maxRecDepth 100000
set_option maxHeartbeats 400000
/-! DL, part 21: whole numbers, sums, lists; no program in sight. -/
namespace DL
/-- the sum of the first values of a function -/
def dSum : Nat → (Nat → Int) → Int
  | 0, _ => 0
  | n + 1, f => dSum n f + f n
theorem dSum_congr {n : Nat} {f g : Nat → Int} (h : ∀ i, i < n → f i = g i) : dSum n f = dSum n g := by
  induction n with
  | zero => rfl
  | succ n ih => simp only [dSum]; rw [ih fun i hi => h i (by omega), h n (by omega)]
theorem dSum_zero {n : Nat} {f : Nat → Int} (h : ∀ i, i < n → f i = 0) : dSum n f = 0 := by
  induction n with
  | zero => rfl
  | succ n ih => simp only [dSum]; rw [ih fun i hi => h i (by omega), h n (by omega)]; rfl
theorem dSum_add (n : Nat) (f g : Nat → Int) : dSum n (fun i => f i + g i) = dSum n f + dSum n g := by
  induction n with
  | zero => rfl
  | succ n ih => simp only [dSum]; rw [ih]; omega
theorem dSum_mul (n : Nat) (c : Int) (f : Nat → Int) : dSum n (fun i => c * f i) = c * dSum n f := by
  induction n with
  | zero => simp [dSum]
  | succ n ih => simp only [dSum]; rw [ih, Int.mul_add]
theorem dSum_comm (n m : Nat) (f : Nat → Nat → Int) : dSum n (fun i => dSum m (fun j => f i j)) = dSum m (fun j => dSum n (fun i => f i j)) := by
  induction n with
  | zero => simp only [dSum]; rw [dSum_zero fun _ _ => rfl]
  | succ n ih => simp only [dSum]; rw [ih, dSum_add]
theorem dSum_split (n m : Nat) (f : Nat → Int) : dSum (n + m) f = dSum n f + dSum m (fun i => f (n + i)) := by
  induction m with
  | zero => simp [dSum]
  | succ m ih => rw [← Nat.add_assoc]; simp only [dSum]; rw [ih]; omega
theorem dSum_prod (a b : Nat) (f : Nat → Int) : dSum (a * b) f = dSum a (fun i => dSum b (fun j => f (i * b + j))) := by
  induction a with
  | zero => simp [dSum]
  | succ a ih => rw [Nat.add_mul, Nat.one_mul, dSum_split, ih]; rfl
theorem dSum_succ' (n : Nat) (f : Nat → Int) : dSum (n + 1) f = f 0 + dSum n (fun i => f (i + 1)) := by
  have := dSum_split 1 n f
  rw [Nat.add_comm 1 n] at this
  rw [this]
  simp only [dSum, Nat.add_comm 1]
  omega
theorem sum_map {α : Type} [Inhabited α] (l : List α) (f : α → Int) : (l.map f).sum = dSum l.length (fun i => f (nth l i)) := by
  induction l with
  | nil => rfl
  | cons x l ih => rw [List.map_cons, List.sum_cons, ih, List.length_cons, dSum_succ']; simp
theorem sum_zip {α β : Type} [Inhabited α] [Inhabited β] (l : List α) (m : List β) (h : l.length = m.length) (f : α → β → Int) : ((l.zip m).map fun q => f q.1 q.2).sum = dSum l.length (fun i => f (nth l i) (nth m i)) := by
  induction l generalizing m with
  | nil => rfl
  | cons x l ih => cases m with
    | nil => simp at h
    | cons y m =>
      rw [List.zip_cons_cons, List.map_cons, List.sum_cons, ih m (by simpa using h), List.length_cons, dSum_succ']; simp
theorem nth_app {α : Type} [Inhabited α] (l : List α) (x : α) (i : Nat) : nth (l ++ [x]) i = if i = l.length then x else nth l i := by
  rcases Nat.lt_trichotomy i l.length with h | h | h
  · rw [if_neg (by omega), nth_eq (by simp; omega), nth_eq h, List.getElem_append_left h]
  · subst h; rw [if_pos rfl, nth_eq (by simp)]; simp
  · rw [if_neg (by omega), nth_out (by simp; omega), nth_out (by omega)]
theorem set_range {α : Type} (m i : Nat) (g : Nat → α) (x : α) : ((List.range m).map g).set i x = (List.range m).map fun t => if t = i then x else g t := by
  refine List.ext_getElem (by simp) fun k h1 h2 => ?_
  rw [List.getElem_set]
  simp only [List.getElem_map, List.getElem_range]
  by_cases h : i = k
  · rw [if_pos h, if_pos h.symm]
  · rw [if_neg h, if_neg (fun z => h z.symm)]
theorem range_map_congr {α : Type} {m : Nat} {f g : Nat → α} (h : ∀ t, t < m → f t = g t) : (List.range m).map f = (List.range m).map g := List.map_congr_left fun t ht => h t (List.mem_range.mp ht)
theorem nth_rmap {α : Type} [Inhabited α] {m i : Nat} (g : Nat → α) (h : i < m) : nth ((List.range m).map g) i = g i := by rw [nth_map g (by simpa using h), nth_range h]
/-! ### ascending lists -/
theorem ss_ext {a b : List Int} (ha : a.Pairwise (· < ·)) (hb : b.Pairwise (· < ·)) (h : ∀ x, x ∈ a ↔ x ∈ b) : a = b := by
  induction a generalizing b with
  | nil => cases b with
    | nil => rfl
    | cons y b => exact absurd ((h y).mpr List.mem_cons_self) (by simp)
  | cons x a ih => cases b with
    | nil => exact absurd ((h x).mp List.mem_cons_self) (by simp)
    | cons y b =>
      have h1 := List.pairwise_cons.mp ha
      have h2 := List.pairwise_cons.mp hb
      have hx : x = y := by
        have p1 := (h x).mp List.mem_cons_self
        have p2 := (h y).mpr List.mem_cons_self
        rcases List.mem_cons.mp p1 with e | e
        · exact e
        · rcases List.mem_cons.mp p2 with e2 | e2
          · exact e2.symm
          · have q1 := h2.1 x e
            have q2 := h1.1 y e2
            omega
      subst hx
      rw [ih h1.2 h2.2 fun z => ?_]
      constructor
      · intro hz
        rcases List.mem_cons.mp ((h z).mp (List.mem_cons_of_mem _ hz)) with e | e
        · have := h1.1 z hz; omega
        · exact e
      · intro hz
        rcases List.mem_cons.mp ((h z).mpr (List.mem_cons_of_mem _ hz)) with e | e
        · have := h2.1 z hz; omega
        · exact e
theorem mem_insU (x y : Int) (l : List Int) : y ∈ insU x l ↔ y = x ∨ y ∈ l := by
  induction l with
  | nil => simp [insU]
  | cons z l ih =>
    unfold insU
    split
    · simp
    · split
      · next h => subst h; simp
      · simp only [List.mem_cons, ih]
        constructor
        · rintro (h | h | h)
          · exact .inr (.inl h)
          · exact .inl h
          · exact .inr (.inr h)
        · rintro (h | h | h)
          · exact .inr (.inl h)
          · exact .inl h
          · exact .inr (.inr h)
theorem mem_setI (y : Int) (l : List Int) : y ∈ setI l ↔ y ∈ l := by
  induction l with
  | nil => simp [setI]
  | cons x l ih => unfold setI; rw [mem_insU, ih, List.mem_cons]
theorem ss_insU (x : Int) {l : List Int} (h : l.Pairwise (· < ·)) : (insU x l).Pairwise (· < ·) := by
  induction l with
  | nil => simp [insU]
  | cons z l ih =>
    have h1 := List.pairwise_cons.mp h
    unfold insU
    split
    · next hx =>
      refine List.pairwise_cons.mpr ⟨fun y hy => ?_, h⟩
      rcases List.mem_cons.mp hy with e | e
      · omega
      · have := h1.1 y e; omega
    · split
      · exact h
      · next hx hne =>
        refine List.pairwise_cons.mpr ⟨fun y hy => ?_, ih h1.2⟩
        rcases (mem_insU x y l).mp hy with e | e
        · omega
        · exact h1.1 y e
theorem ss_setI (l : List Int) : (setI l).Pairwise (· < ·) := by
  induction l with
  | nil => simp [setI]
  | cons x l ih => exact ss_insU x ih
theorem ss_range (n : Nat) : ((List.range n).map fun k : Nat => (k : Int)).Pairwise (· < ·) := by
  rw [List.pairwise_map]
  exact List.pairwise_lt_range.imp fun {a b} h => by omega
theorem ss_filter_range (n : Nat) (c : Nat → Bool) : (((List.range n).filter c).map fun k : Nat => (k : Int)).Pairwise (· < ·) := by
  rw [List.pairwise_map]
  exact (List.pairwise_lt_range.filter c).imp fun {a b} h => by omega
end DL

end
section
set_option maxRecDepth 100000
set_option maxHeartbeats 400000
namespace K79
open PySem DL
abbrev f_tupled : Nat := 0
abbrev f_is_number : Nat := 1
abbrev f_is_count : Nat := 2
abbrev f_is_from_one : Nat := 3
abbrev f_is_below : Nat := 4
abbrev f_is_tuple_of : Nat := 5
abbrev f_is_prime : Nat := 6
abbrev f_is_row : Nat := 7
abbrev f_are_rows_of : Nat := 8
abbrev f_is_band : Nat := 9
abbrev f_band_column : Nat := 10
abbrev f_key_of_band : Nat := 11
abbrev f_band_key : Nat := 12
abbrev f_band_for : Nat := 13
abbrev f_read_in : Nat := 14
abbrev f_reading_of_rests : Nat := 15
abbrev f_row_spans : Nat := 16
abbrev f_open_between : Nat := 17
abbrev f_widths : Nat := 18
abbrev f_widest : Nat := 19
abbrev f_sure_cell_of : Nat := 20
abbrev f_closing_rows : Nat := 21
abbrev f__law_box : Nat := 22
abbrev f__law_take : Nat := 23
abbrev f__law_cells : Nat := 24
abbrev f__law_same : Nat := 25
abbrev f__law_of : Nat := 26
abbrev f__law_lists : Nat := 27
abbrev f__law_great_row : Nat := 28
abbrev f__law_spans_of : Nat := 29
abbrev f__law_open_at : Nat := 30
abbrev f__law_columns_so : Nat := 31
abbrev f__law_slid_sum : Nat := 32
abbrev f__law_heard : Nat := 33
abbrev f__law_cut_block : Nat := 34
abbrev f__law_band_right : Nat := 35
abbrev f__law_none_right : Nat := 36
abbrev f_law : Nat := 37
/- tupled: 0:thing 1:part -/
def b_tupled : Ss := (.cons (.ret (.ite (.isi (.var 0) [.list, .tuple] true) (.bi .tuple (.cons (.comp (.call f_tupled (.cons (.var 1) .nil)) (.name 1) (.plain (.var 0)) (.bl true) [(PySem.Str.ofString "part", 1)]) .nil)) (.var 0))) .nil)
def d_tupled : Df := ⟨1, false, 2, b_tupled⟩
/- is_number: 0:thing -/
def b_is_number : Ss := (.cons (.ret (.and (.isi (.var 0) [.int] false) (.one (.not (.isi (.var 0) [.bool] false))))) .nil)
def d_is_number : Df := ⟨1, false, 1, b_is_number⟩
/- is_count: 0:thing -/
def b_is_count : Ss := (.cons (.ret (.and (.call f_is_number (.cons (.var 0) .nil)) (.one (.cmp .ge (.var 0) (.int 0))))) .nil)
def d_is_count : Df := ⟨1, false, 1, b_is_count⟩
/- is_from_one: 0:thing -/
def b_is_from_one : Ss := (.cons (.ret (.and (.call f_is_number (.cons (.var 0) .nil)) (.one (.cmp .ge (.var 0) (.int 1))))) .nil)
def d_is_from_one : Df := ⟨1, false, 1, b_is_from_one⟩
/- is_below: 0:thing 1:many -/
def b_is_below : Ss := (.cons (.ret (.and (.call f_is_count (.cons (.var 0) .nil)) (.one (.cmp .lt (.var 0) (.var 1))))) .nil)
def d_is_below : Df := ⟨2, false, 2, b_is_below⟩
/- is_tuple_of: 0:thing 1:size -/
def b_is_tuple_of : Ss := (.cons (.ret (.and (.isi (.var 0) [.tuple] false) (.one (.cmp .eq (.bi .len (.cons (.var 0) .nil)) (.var 1))))) .nil)
def d_is_tuple_of : Df := ⟨2, false, 2, b_is_tuple_of⟩
/- is_prime: 0:thing -/
def b_is_prime : Ss := (.cons (.ret (.and (.call f_is_number (.cons (.var 0) .nil)) (.one (.cmp .isin (.var 0) (.glob (PySem.Str.ofString "PRIMES") (.tup [.int 2, .int 3, .int 5])))))) .nil)
def d_is_prime : Df := ⟨1, false, 1, b_is_prime⟩
/- is_row: 0:p 1:thing 2:own -/
def b_is_row : Ss := (.cons (.ret (.and (.isi (.var 1) [.tuple] false) (.one (.bi .all (.cons (.comp (.call f_is_below (.cons (.var 2) (.cons (.var 0) .nil))) (.name 2) (.plain (.var 1)) (.bl true) [(PySem.Str.ofString "own", 2)]) .nil))))) .nil)
def d_is_row : Df := ⟨2, false, 3, b_is_row⟩
/- are_rows_of: 0:p 1:many 2:thing 3:own -/
def b_are_rows_of : Ss := (.cons (.ret (.and (.isi (.var 2) [.tuple] false) (.and (.cmp .ne (.var 2) (.tup .nil)) (.one (.bi .all (.cons (.comp (.and (.call f_is_row (.cons (.var 0) (.cons (.var 3) .nil))) (.one (.cmp .eq (.bi .len (.cons (.var 3) .nil)) (.var 1)))) (.name 3) (.plain (.var 2)) (.bl true) [(PySem.Str.ofString "own", 3)]) .nil)))))) .nil)
def d_are_rows_of : Df := ⟨3, false, 4, b_are_rows_of⟩
/- is_band: 0:thing 1:block -/
def b_is_band : Ss := (.cons (.ite (.or (.not (.call f_is_tuple_of (.cons (.var 0) (.cons (.int 3) .nil)))) (.or (.not (.call f_is_prime (.cons (.ix (.var 0) (.int 0)) .nil))) (.one (.not (.call f_is_from_one (.cons (.ix (.var 0) (.int 1)) .nil)))))) (.cons (.ret (.bl false)) .nil) .nil) (.cons (.set 1 (.ix (.var 0) (.int 2))) (.cons (.ite (.or (.not (.isi (.var 1) [.tuple] false)) (.or (.cmp .eq (.var 1) (.tup .nil)) (.or (.not (.isi (.ix (.var 1) (.int 0)) [.tuple] false)) (.one (.cmp .eq (.ix (.var 1) (.int 0)) (.tup .nil)))))) (.cons (.ret (.bl false)) .nil) .nil) (.cons (.ret (.call f_are_rows_of (.cons (.ix (.var 0) (.int 0)) (.cons (.bi .len (.cons (.ix (.var 1) (.int 0)) .nil)) (.cons (.var 1) .nil))))) .nil))))
def d_is_band : Df := ⟨1, false, 2, b_is_band⟩
/- band_column: 0:many 1:block 2:number 3:begin 4:row 5:place -/
def b_band_column : Ss := (.cons (.asg (.tup [(.name 3), (.name 4)]) (.tup (.cons (.bin .fdiv (.var 2) (.bi .len (.cons (.var 1) .nil))) (.cons (.ix (.var 1) (.bin .mod (.var 2) (.bi .len (.cons (.var 1) .nil)))) .nil)))) (.cons (.ret (.bi .tuple (.cons (.comp (.ite (.chain .le .lt (.int 0) (.bin .sub (.var 5) (.var 3)) (.bi .len (.cons (.var 4) .nil))) (.ix (.var 4) (.bin .sub (.var 5) (.var 3))) (.int 0)) (.name 5) (.range (.cons (.var 0) .nil)) (.bl true) [(PySem.Str.ofString "place", 5)]) .nil))) .nil))
def d_band_column : Df := ⟨3, false, 6, b_band_column⟩
/- key_of_band: 0:p 1:many 2:block 3:number -/
def b_key_of_band : Ss := (.cons (.ret (.tup (.cons (.var 0) (.cons (.var 1) (.cons (.bi .tuple (.cons (.comp (.call f_band_column (.cons (.var 1) (.cons (.var 2) (.cons (.var 3) .nil)))) (.name 3) (.range (.cons (.bin .mul (.var 1) (.bi .len (.cons (.var 2) .nil))) .nil)) (.bl true) [(PySem.Str.ofString "number", 3)]) .nil)) .nil))))) .nil)
def d_key_of_band : Df := ⟨3, false, 4, b_key_of_band⟩
/- band_key: 0:band 1:p 2:many 3:block -/
def b_band_key : Ss := (.cons (.asg (.tup [(.name 1), (.name 2), (.name 3)]) (.call f_tupled (.cons (.var 0) .nil))) (.cons (.ret (.call f_key_of_band (.cons (.var 1) (.cons (.var 2) (.cons (.var 3) .nil))))) .nil))
def d_band_key : Df := ⟨1, false, 4, b_band_key⟩
/- band_for: 0:key 1:length 2:p 3:many 4:columns 5:rows 6:own -/
def b_band_for : Ss := (.cons (.asg (.tup [(.name 2), (.name 3), (.name 4)]) (.call f_tupled (.cons (.var 0) .nil))) (.cons (.ite (.or (.cmp .eq (.var 3) (.int 0)) (.one (.cmp .ne (.bin .mod (.bi .len (.cons (.var 4) .nil)) (.var 3)) (.int 0)))) (.cons (.raise 1 .nil) .nil) .nil) (.cons (.set 5 (.comp (.bin .add (.slice (.var 6) .non (.var 1)) (.bin .mul (.tup (.cons (.int 0) .nil)) (.bin .sub (.var 1) (.var 3)))) (.name 6) (.plain (.slice (.var 4) .non (.bin .fdiv (.bi .len (.cons (.var 4) .nil)) (.var 3)))) (.bl true) [(PySem.Str.ofString "own", 6)])) (.cons (.ite (.cmp .ne (.call f_key_of_band (.cons (.var 2) (.cons (.var 3) (.cons (.bi .tuple (.cons (.var 5) .nil)) .nil)))) (.tup (.cons (.var 2) (.cons (.var 3) (.cons (.var 4) .nil))))) (.cons (.raise 1 .nil) .nil) .nil) (.cons (.ret (.tup (.cons (.var 2) (.cons (.var 3) (.cons (.bi .tuple (.cons (.var 5) .nil)) .nil))))) .nil)))))
def d_band_for : Df := ⟨2, false, 7, b_band_for⟩
/- read_in: 0:key 1:tones 2:place 3:tone 4:own -/
def b_read_in : Ss := (.cons (.ret (.bi .tuple (.cons (.comp (.bin .mod (.bi .sum (.cons (.comp (.bin .mul (.var 3) (.ix (.var 4) (.var 2))) (.tup [(.name 3), (.name 4)]) (.zip (.var 1) (.ix (.var 0) (.int 2))) (.bl true) [(PySem.Str.ofString "tone", 3), (PySem.Str.ofString "own", 4)]) .nil)) (.ix (.var 0) (.int 0))) (.name 2) (.range (.cons (.ix (.var 0) (.int 1)) .nil)) (.bl true) [(PySem.Str.ofString "place", 2)]) .nil))) .nil)
def d_read_in : Df := ⟨2, false, 5, b_read_in⟩
/- reading_of_rests: 0:key 1:digits 2:own 3:row 4:part -/
def b_reading_of_rests : Ss := (.cons (.asg (.tup [(.name 2), (.name 3)]) (.tup (.cons (.call f_tupled (.cons (.var 0) .nil)) (.cons (.call f_tupled (.cons (.var 1) .nil)) .nil)))) (.cons (.ite (.or (.not (.call f_is_tuple_of (.cons (.var 3) (.cons (.bi .len (.cons (.ix (.var 2) (.int 2)) .nil)) .nil)))) (.one (.not (.bi .all (.cons (.comp (.call f_is_below (.cons (.var 4) (.cons (.ix (.var 2) (.int 0)) .nil))) (.name 4) (.plain (.var 3)) (.bl true) [(PySem.Str.ofString "part", 4)]) .nil))))) (.cons (.raise 0 .nil) .nil) .nil) (.cons (.ret (.call f_read_in (.cons (.var 2) (.cons (.var 3) .nil)))) .nil)))
def d_reading_of_rests : Df := ⟨2, false, 5, b_reading_of_rests⟩
/- row_spans: 0:key 1:found 2:row 3:there 4:cell 5:column -/
def L_row_spans_0 : Ss := (.cons (.set 3 (.comp (.var 4) (.tup [(.name 4), (.name 5)]) (.enum (.ix (.var 0) (.int 2))) (.cmp .ne (.ix (.var 5) (.var 2)) (.int 0)) [(PySem.Str.ofString "cell", 4), (PySem.Str.ofString "column", 5)])) (.cons (.expr (.append 1 (.ite (.cmp .ne (.var 3) (.lst .nil)) (.tup (.cons (.ix (.var 3) (.int 0)) (.cons (.ix (.var 3) (.neg (.int 1))) .nil))) .non))) .nil))
def b_row_spans : Ss := (.cons (.set 1 (.lst .nil)) (.cons (.fors (.name 2) (.range (.cons (.ix (.var 0) (.int 1)) .nil)) L_row_spans_0) (.cons (.ret (.var 1)) .nil)))
def d_row_spans : Df := ⟨1, false, 6, b_row_spans⟩
/- open_between: 0:spans 1:place 2:row 3:span -/
def b_open_between : Ss := (.cons (.ret (.bi .tuple (.cons (.comp (.var 2) (.tup [(.name 2), (.name 3)]) (.enum (.var 0)) (.and (.isN true (.var 3)) (.one (.chain .lt .le (.ix (.var 3) (.int 0)) (.var 1) (.ix (.var 3) (.int 1))))) [(PySem.Str.ofString "row", 2), (PySem.Str.ofString "span", 3)]) .nil))) .nil)
def d_open_between : Df := ⟨2, false, 4, b_open_between⟩
/- widths: 0:key 1:own 2:spans 3:place -/
def b_widths : Ss := (.cons (.set 1 (.call f_tupled (.cons (.var 0) .nil))) (.cons (.set 2 (.call f_row_spans (.cons (.var 1) .nil))) (.cons (.ret (.bi .tuple (.cons (.comp (.bi .len (.cons (.call f_open_between (.cons (.var 2) (.cons (.var 3) .nil))) .nil)) (.name 3) (.range (.cons (.bin .add (.bi .len (.cons (.ix (.var 1) (.int 2)) .nil)) (.int 1)) .nil)) (.bl true) [(PySem.Str.ofString "place", 3)]) .nil))) .nil)))
def d_widths : Df := ⟨1, false, 4, b_widths⟩
/- widest: 0:key -/
def b_widest : Ss := (.cons (.ret (.bi .max (.cons (.call f_widths (.cons (.var 0) .nil)) .nil))) .nil)
def d_widest : Df := ⟨1, false, 1, b_widest⟩
/- sure_cell_of: 0:key 1:cell -/
def b_sure_cell_of : Ss := (.cons (.ite (.not (.call f_is_below (.cons (.var 1) (.cons (.bi .len (.cons (.ix (.var 0) (.int 2)) .nil)) .nil)))) (.cons .never .nil) .nil) .nil)
def d_sure_cell_of : Df := ⟨2, false, 2, b_sure_cell_of⟩
/- closing_rows: 0:key 1:cell 2:own 3:row 4:span -/
def b_closing_rows : Ss := (.cons (.set 2 (.call f_tupled (.cons (.var 0) .nil))) (.cons (.expr (.call f_sure_cell_of (.cons (.var 2) (.cons (.var 1) .nil)))) (.cons (.ret (.bi .tuple (.cons (.comp (.var 3) (.tup [(.name 3), (.name 4)]) (.enum (.call f_row_spans (.cons (.var 2) .nil))) (.and (.isN true (.var 4)) (.one (.cmp .eq (.ix (.var 4) (.int 1)) (.var 1)))) [(PySem.Str.ofString "row", 3), (PySem.Str.ofString "span", 4)]) .nil))) .nil)))
def d_closing_rows : Df := ⟨2, false, 5, b_closing_rows⟩
/- _law_box: 0:script 1:k 2:cell_so -/
def b__law_box : Ss := (.cons (.set 2 (.ite (.cmp .lt (.var 1) (.bi .len (.cons (.var 0) .nil))) (.ix (.var 0) (.var 1)) (.int 0))) (.cons (.ret (.lst (.cons (.bin .mul (.bi .abs (.cons (.var 2) .nil)) (.bi .int (.cons (.cmp .ge (.bi .abs (.cons (.var 2) .nil)) (.bin .pow (.int 10) (.int 18))) .nil))) (.cons (.bin .add (.bin .add (.bin .mod (.bi .int (.cons (.var 2) .nil)) (.int 2305843009213693951)) (.bin .mul (.int 39373) (.var 1))) (.int 1318701)) (.cons (.int 0) .nil))))) .nil))
def d__law_box : Df := ⟨2, false, 3, b__law_box⟩
/- _law_take: 0:tin 1:below_so 2:drawn 3:once_so 4:wide_so 5:twice_so -/
def b__law_take : Ss := (.cons (.ite (.cmp .gt (.ix (.var 0) (.int 0)) (.int 0)) (.cons (.set 2 (.bin .mod (.bi .int (.cons (.ix (.var 0) (.int 0)) .nil)) (.var 1))) (.cons (.setix 0 (.int 0) (.bin .fdiv (.ix (.var 0) (.int 0)) (.var 1))) (.cons (.ret (.var 2)) .nil))) .nil) (.cons (.setix 0 (.int 2) (.bin .add (.ix (.var 0) (.int 2)) (.int 1))) (.cons (.set 3 (.bin .mod (.bi .int (.cons (.bin .mul (.bin .add (.ix (.var 0) (.int 1)) (.bin .mul (.int 48271) (.ix (.var 0) (.int 2)))) (.bin .add (.int 39373) (.ix (.var 0) (.int 2)))) .nil)) (.int 2147483647))) (.cons (.set 4 (.bin .add (.bin .mod (.bi .int (.cons (.var 3) .nil)) (.int 40009)) (.int 7))) (.cons (.set 5 (.bin .mod (.bi .int (.cons (.bin .mul (.bin .add (.bin .add (.var 3) (.ix (.var 0) (.int 2))) (.bin .fdiv (.ix (.var 0) (.int 1)) (.int 1000003))) (.var 4)) .nil)) (.int 2147483629))) (.cons (.ret (.bin .mod (.bi .int (.cons (.bin .fdiv (.bin .mod (.bi .int (.cons (.bin .add (.bin .mul (.var 5) (.int 48271)) (.var 3)) .nil)) (.int 2147483587)) (.int 64)) .nil)) (.var 1))) .nil))))))
def d__law_take : Df := ⟨2, true, 6, b__law_take⟩
/- _law_cells: 0:script 1:most_so 2:cells_so 3:k 4:cell_so 5:at_so -/
def L__law_cells_0 : Ss := (.cons (.set 5 (.bin .mod (.bi .int (.cons (.var 3) .nil)) (.var 1))) (.cons (.setix 2 (.var 5) (.bin .add (.ix (.var 2) (.var 5)) (.bin .mul (.var 4) (.bin .add (.var 3) (.int 2))))) .nil))
def b__law_cells : Ss := (.cons (.set 2 (.or (.bi .list (.cons (.slice (.var 0) .non (.var 1)) .nil)) (.one (.lst (.cons (.int 0) .nil))))) (.cons (.fors (.tup [(.name 3), (.name 4)]) (.enum (.slice (.var 0) (.var 1) (.int 63))) L__law_cells_0) (.cons (.ret (.var 2)) .nil)))
def d__law_cells : Df := ⟨2, false, 6, b__law_cells⟩
/- _law_same: 0:got 1:due 2:mine 3:its -/
def b__law_same : Ss := (.cons (.ite (.isi (.var 1) [.list, .tuple] true) (.cons (.ite (.or (.cmp .ne (.isi (.var 0) [.list] false) (.isi (.var 1) [.list] false)) (.one (.cmp .ne (.isi (.var 0) [.tuple] false) (.isi (.var 1) [.tuple] false)))) (.cons (.ret (.bl false)) .nil) .nil) (.cons (.ret (.and (.cmp .eq (.bi .len (.cons (.var 0) .nil)) (.bi .len (.cons (.var 1) .nil))) (.one (.bi .all (.cons (.comp (.call f__law_same (.cons (.var 2) (.cons (.var 3) .nil))) (.tup [(.name 2), (.name 3)]) (.zip (.var 0) (.var 1)) (.bl true) [(PySem.Str.ofString "mine", 2), (PySem.Str.ofString "its", 3)]) .nil))))) .nil)) .nil) (.cons (.ite (.or (.isN false (.var 1)) (.one (.isi (.var 1) [.bool, .str] true))) (.cons (.ret (.and (.cmp .eq (.var 0) (.var 1)) (.and (.cmp .eq (.isi (.var 0) [.bool] false) (.isi (.var 1) [.bool] false)) (.one (.cmp .eq (.isN false (.var 0)) (.isN false (.var 1))))))) .nil) .nil) (.cons (.ret (.and (.isi (.var 0) [.int] false) (.and (.not (.isi (.var 0) [.bool] false)) (.one (.cmp .eq (.var 0) (.var 1)))))) .nil)))
def d__law_same : Df := ⟨2, false, 4, b__law_same⟩
/- _law_of: 0:tin 1:goods_so -/
def b__law_of : Ss := (.cons (.ret (.ix (.var 1) (.callIO f__law_take 0 (.cons (.bi .len (.cons (.var 1) .nil)) .nil)))) .nil)
def d__law_of : Df := ⟨2, true, 2, b__law_of⟩
/- _law_lists: 0:matter 1:bit -/
def b__law_lists : Ss := (.cons (.ret (.ite (.isi (.var 0) [.list, .tuple] true) (.comp (.call f__law_lists (.cons (.var 1) .nil)) (.name 1) (.plain (.var 0)) (.bl true) [(PySem.Str.ofString "bit", 1)]) (.var 0))) .nil)
def d__law_lists : Df := ⟨1, false, 2, b__law_lists⟩
/- _law_great_row: 0:tin 1:p_so 2:many_so 3:found 4:lap 5:number_so 6:k -/
def L__law_great_row_0 : Ss := (.cons (.expr (.append 3 (.bin .mod (.var 5) (.var 1)))) (.cons (.set 5 (.bin .fdiv (.var 5) (.var 1))) .nil))
def L__law_great_row_1 : Ss := (.cons (.set 5 (.callIO f__law_take 0 (.cons (.int 15625) .nil))) (.cons (.fors (.name 6) (.range (.cons (.int 6) .nil)) L__law_great_row_0) .nil))
def b__law_great_row : Ss := (.cons (.set 3 (.lst .nil)) (.cons (.fors (.name 4) (.range (.cons (.int 2) .nil)) L__law_great_row_1) (.cons (.ret (.bi .tuple (.cons (.slice (.var 3) .non (.var 2)) .nil))) .nil)))
def d__law_great_row : Df := ⟨3, true, 7, b__law_great_row⟩
/- _law_spans_of: 0:key_so 1:found 2:row_so 3:cells_so 4:k 5:own -/
def L__law_spans_of_0 : Ss := (.cons (.set 3 (.comp (.var 4) (.tup [(.name 4), (.name 5)]) (.enum (.ix (.var 0) (.int 2))) (.cmp .ne (.ix (.var 5) (.var 2)) (.int 0)) [(PySem.Str.ofString "k", 4), (PySem.Str.ofString "own", 5)])) (.cons (.expr (.append 1 (.ite (.cmp .ne (.var 3) (.lst .nil)) (.tup (.cons (.ix (.var 3) (.int 0)) (.cons (.ix (.var 3) (.neg (.int 1))) .nil))) .non))) .nil))
def b__law_spans_of : Ss := (.cons (.set 1 (.lst .nil)) (.cons (.fors (.name 2) (.range (.cons (.ix (.var 0) (.int 1)) .nil)) L__law_spans_of_0) (.cons (.ret (.var 1)) .nil)))
def d__law_spans_of : Df := ⟨1, false, 6, b__law_spans_of⟩
/- _law_open_at: 0:key_so 1:place_so 2:spans_so 3:k 4:own -/
def b__law_open_at : Ss := (.cons (.set 2 (.call f__law_spans_of (.cons (.var 0) .nil))) (.cons (.ret (.comp (.var 3) (.tup [(.name 3), (.name 4)]) (.enum (.var 2)) (.and (.isN true (.var 4)) (.one (.chain .lt .le (.ix (.var 4) (.int 0)) (.var 1) (.ix (.var 4) (.int 1))))) [(PySem.Str.ofString "k", 3), (PySem.Str.ofString "own", 4)])) .nil))
def d__law_open_at : Df := ⟨2, false, 5, b__law_open_at⟩
/- _law_columns_so: 0:band_so 1:p 2:many 3:block_so 4:found 5:j 6:own 7:i 8:digit_so -/
def L__law_columns_so_0 : Ss := (.cons (.ite (.cmp .lt (.bin .add (.bin .fdiv (.var 5) (.bi .len (.cons (.var 3) .nil))) (.var 7)) (.var 2)) (.cons (.setix 6 (.bin .add (.bin .fdiv (.var 5) (.bi .len (.cons (.var 3) .nil))) (.var 7)) (.var 8)) .nil) .nil) .nil)
def L__law_columns_so_1 : Ss := (.cons (.set 6 (.bin .mul (.lst (.cons (.int 0) .nil)) (.var 2))) (.cons (.fors (.tup [(.name 7), (.name 8)]) (.enum (.ix (.var 3) (.bin .mod (.var 5) (.bi .len (.cons (.var 3) .nil))))) L__law_columns_so_0) (.cons (.expr (.append 4 (.bi .tuple (.cons (.var 6) .nil)))) .nil)))
def b__law_columns_so : Ss := (.cons (.asg (.tup [(.name 1), (.name 2), (.name 3)]) (.var 0)) (.cons (.set 4 (.lst .nil)) (.cons (.fors (.name 5) (.range (.cons (.bin .mul (.var 2) (.bi .len (.cons (.var 3) .nil))) .nil)) L__law_columns_so_1) (.cons (.ret (.bi .tuple (.cons (.var 4) .nil))) .nil))))
def d__law_columns_so : Df := ⟨1, false, 9, b__law_columns_so⟩
/- _law_slid_sum: 0:band_so 1:rests_so 2:p 3:many 4:block_so 5:found 6:k 7:own 8:place_so 9:i 10:digit_so -/
def L__law_slid_sum_0 : Ss := (.cons (.ite (.cmp .lt (.bin .add (.var 8) (.var 9)) (.var 3)) (.cons (.setix 5 (.bin .add (.var 8) (.var 9)) (.bin .mod (.bin .add (.ix (.var 5) (.bin .add (.var 8) (.var 9))) (.bin .mul (.var 10) (.ix (.var 1) (.bin .add (.bin .mul (.var 8) (.bi .len (.cons (.var 4) .nil))) (.var 6))))) (.var 2))) .nil) .nil) .nil)
def L__law_slid_sum_1 : Ss := (.cons (.fors (.tup [(.name 9), (.name 10)]) (.enum (.var 7)) L__law_slid_sum_0) .nil)
def L__law_slid_sum_2 : Ss := (.cons (.fors (.name 8) (.range (.cons (.var 3) .nil)) L__law_slid_sum_1) .nil)
def b__law_slid_sum : Ss := (.cons (.asg (.tup [(.name 2), (.name 3), (.name 4)]) (.var 0)) (.cons (.set 5 (.bin .mul (.lst (.cons (.int 0) .nil)) (.var 3))) (.cons (.fors (.tup [(.name 6), (.name 7)]) (.enum (.var 4)) L__law_slid_sum_2) (.cons (.ret (.bi .tuple (.cons (.var 5) .nil))) .nil))))
def d__law_slid_sum : Df := ⟨2, false, 11, b__law_slid_sum⟩
/- _law_heard: 0:key_so 1:size_so 2:told -/
def b__law_heard : Ss := (.cons (.tryx (.cons (.set 2 (.call f_band_for (.cons (.var 0) (.cons (.var 1) .nil)))) .nil) (PySem.Str.ofString "NoPaper") [1] [0] (.cons (.ret (.lst .nil)) .nil)) (.cons (.ret (.lst (.cons (.var 2) .nil))) .nil))
def d__law_heard : Df := ⟨2, false, 3, b__law_heard⟩
/- _law_cut_block: 0:band_so 1:size_so 2:p 3:many 4:block_so 5:rows_so 6:own 7:row_so 8:i 9:digit_so -/
def L__law_cut_block_0 : Ss := (.cons (.set 7 (.comp (.ite (.cmp .lt (.var 8) (.var 3)) (.var 9) (.int 0)) (.tup [(.name 8), (.name 9)]) (.enum (.var 6)) (.bl true) [(PySem.Str.ofString "i", 8), (PySem.Str.ofString "digit_so", 9)])) (.cons (.ite (.bi .any (.cons (.slice (.var 7) (.var 1) .non) .nil)) (.cons (.ret .non) .nil) .nil) (.cons (.expr (.append 5 (.bi .tuple (.cons (.slice (.bin .add (.var 7) (.bin .mul (.lst (.cons (.int 0) .nil)) (.var 1))) .non (.var 1)) .nil)))) .nil)))
def b__law_cut_block : Ss := (.cons (.asg (.tup [(.name 2), (.name 3), (.name 4)]) (.var 0)) (.cons (.set 5 (.lst .nil)) (.cons (.fors (.name 6) (.plain (.var 4)) L__law_cut_block_0) (.cons (.ret (.tup (.cons (.var 2) (.cons (.var 3) (.cons (.bi .tuple (.cons (.var 5) .nil)) .nil))))) .nil))))
def d__law_cut_block : Df := ⟨2, false, 10, b__law_cut_block⟩
/- _law_band_right: 0:tin 1:band_so 2:p 3:many 4:block_so 5:wide_so 6:size_so 7:key_so 8:rests_so 9:own 10:due 11:opened_so 12:ends_so 13:spans_so 14:k -/
def L__law_band_right_0 : Ss := (.cons (.set 10 (.call f__law_cut_block (.cons (.var 1) (.cons (.var 9) .nil)))) (.cons (.ite (.not (.call f__law_same (.cons (.call f__law_heard (.cons (.var 7) (.cons (.var 9) .nil))) (.cons (.ite (.isN true (.var 10)) (.lst (.cons (.var 10) .nil)) (.lst .nil)) .nil)))) (.cons (.ret (.bl false)) .nil) .nil) .nil))
def b__law_band_right : Ss := (.cons (.asg (.tup [(.name 2), (.name 3), (.name 4)]) (.var 1)) (.cons (.par 5 6 (.bi .len (.cons (.var 4) .nil)) (.bi .len (.cons (.ix (.var 4) (.int 0)) .nil))) (.cons (.set 7 (.tup (.cons (.var 2) (.cons (.var 3) (.cons (.call f__law_columns_so (.cons (.var 1) .nil)) .nil))))) (.cons (.ite (.not (.call f__law_same (.cons (.lst (.cons (.call f_band_key (.cons (.var 1) .nil)) (.cons (.call f_band_key (.cons (.call f__law_lists (.cons (.var 1) .nil)) .nil)) (.cons (.call f_is_band (.cons (.var 1) .nil)) .nil)))) (.cons (.lst (.cons (.var 7) (.cons (.var 7) (.cons (.bl true) .nil)))) .nil)))) (.cons (.ret (.bl false)) .nil) .nil) (.cons (.set 8 (.bi .tuple (.cons (.comp (.callIO f__law_take 0 (.cons (.var 2) .nil)) (.name 14) (.range (.cons (.bin .mul (.var 3) (.var 5)) .nil)) (.bl true) [(PySem.Str.ofString "k", 14)]) .nil))) (.cons (.ite (.not (.call f__law_same (.cons (.call f_reading_of_rests (.cons (.var 7) (.cons (.var 8) .nil))) (.cons (.call f__law_slid_sum (.cons (.var 1) (.cons (.var 8) .nil))) .nil)))) (.cons (.ret (.bl false)) .nil) .nil) (.cons (.fors (.name 9) (.plain (.tup (.cons (.var 6) (.cons (.bi .min (.cons (.int 5) (.cons (.bin .add (.var 6) (.int 1)) .nil))) (.cons (.bi .max (.cons (.int 1) (.cons (.bin .sub (.var 6) (.int 1)) .nil))) (.cons (.int 1) (.cons (.int 5) .nil))))))) L__law_band_right_0) (.cons (.set 11 (.comp (.bi .len (.cons (.var 9) .nil)) (.name 9) (.plain (.comp (.call f__law_open_at (.cons (.var 7) (.cons (.var 14) .nil))) (.name 14) (.range (.cons (.bin .add (.bin .mul (.var 3) (.var 5)) (.int 1)) .nil)) (.bl true) [(PySem.Str.ofString "k", 14)])) (.bl true) [(PySem.Str.ofString "own", 9)])) (.cons (.set 12 (.comp (.var 14) (.name 14) (.range (.cons (.bin .mul (.var 3) (.var 5)) .nil)) (.cmp .ne (.call f_closing_rows (.cons (.var 7) (.cons (.var 14) .nil))) (.tup .nil)) [(PySem.Str.ofString "k", 14)])) (.cons (.set 13 (.comp (.var 9) (.name 9) (.plain (.call f__law_spans_of (.cons (.var 7) .nil))) (.isN true (.var 9)) [(PySem.Str.ofString "own", 9)])) (.cons (.ret (.call f__law_same (.cons (.lst (.cons (.call f_widths (.cons (.var 7) .nil)) (.cons (.call f_widest (.cons (.var 7) .nil)) (.cons (.var 12) .nil)))) (.cons (.lst (.cons (.bi .tuple (.cons (.var 11) .nil)) (.cons (.bi .max (.cons (.var 11) .nil)) (.cons (.sset (.comp (.ix (.var 9) (.int 1)) (.name 9) (.plain (.var 13)) (.bl true) [(PySem.Str.ofString "own", 9)])) .nil)))) .nil)))) .nil)))))))))))
def d__law_band_right : Df := ⟨2, true, 15, b__law_band_right⟩
/- _law_none_right: 0:tin 1:band_so 2:p 3:many 4:block_so 5:columns_so 6:wide_so 7:got 8:bent_so -/
def b__law_none_right : Ss := (.cons (.asg (.tup [(.name 2), (.name 3), (.name 4)]) (.var 1)) (.cons (.par 5 6 (.call f__law_columns_so (.cons (.var 1) .nil)) (.bi .len (.cons (.var 4) .nil))) (.cons (.set 7 (.bin .add (.lst (.cons (.call f__law_heard (.cons (.tup (.cons (.var 2) (.cons (.int 0) (.cons (.bin .mul (.tup (.cons (.tup .nil) .nil)) (.int 3)) .nil)))) (.cons (.int 2) .nil))) .nil)) (.ite (.cmp .ne (.bin .mod (.bin .add (.bi .len (.cons (.var 5) .nil)) (.int 1)) (.var 3)) (.int 0)) (.lst (.cons (.call f__law_heard (.cons (.tup (.cons (.var 2) (.cons (.var 3) (.cons (.bin .add (.var 5) (.slice (.var 5) .non (.int 1))) .nil)))) (.cons (.bi .len (.cons (.ix (.var 4) (.int 0)) .nil)) .nil))) .nil)) (.lst .nil)))) (.cons (.ite (.cmp .gt (.var 3) (.int 1)) (.cons (.set 8 (.bin .add (.slice (.var 5) .non (.neg (.int 1))) (.tup (.cons (.bin .add (.tup (.cons (.int 1) .nil)) (.slice (.ix (.var 5) (.neg (.int 1))) (.int 1) .non)) .nil)))) (.cons (.expr (.append 7 (.call f__law_heard (.cons (.tup (.cons (.var 2) (.cons (.var 3) (.cons (.var 8) .nil)))) (.cons (.bi .len (.cons (.ix (.var 4) (.int 0)) .nil)) .nil))))) .nil)) .nil) (.cons (.ret (.call f__law_same (.cons (.var 7) (.cons (.bin .mul (.lst (.cons (.lst .nil) .nil)) (.bi .len (.cons (.var 7) .nil))) .nil)))) .nil)))))
def d__law_none_right : Df := ⟨2, true, 9, b__law_none_right⟩
/- law: 0:script 1:tin 2:lap 3:p 4:many 5:wide_so 6:size_so 7:band_so 8:k -/
def L_law_0 : Ss := (.cons (.asg (.tup [(.name 3), (.name 4), (.name 5), (.name 6)]) (.tup (.cons (.callIO f__law_of 1 (.cons (.lst (.cons (.int 2) (.cons (.int 3) (.cons (.int 5) .nil)))) .nil)) (.cons (.bin .add (.int 1) (.callIO f__law_take 1 (.cons (.int 12) .nil))) (.cons (.bin .add (.int 1) (.callIO f__law_take 1 (.cons (.int 8) .nil))) (.cons (.bin .add (.int 1) (.callIO f__law_take 1 (.cons (.int 5) .nil))) .nil)))))) (.cons (.set 5 (.bi .min (.cons (.var 5) (.cons (.bin .fdiv (.int 60) (.var 4)) .nil)))) (.cons (.set 7 (.tup (.cons (.var 3) (.cons (.var 4) (.cons (.bi .tuple (.cons (.comp (.callIO f__law_great_row 1 (.cons (.var 3) (.cons (.var 6) .nil))) (.name 8) (.range (.cons (.bi .max (.cons (.int 1) (.cons (.var 5) .nil))) .nil)) (.bl true) [(PySem.Str.ofString "k", 8)]) .nil)) .nil))))) (.cons (.ite (.or (.not (.callIO f__law_band_right 1 (.cons (.var 7) .nil))) (.one (.not (.callIO f__law_none_right 1 (.cons (.var 7) .nil))))) (.cons (.ret (.bl false)) .nil) .nil) .nil))))
def b_law : Ss := (.cons (.set 1 (.call f__law_box (.cons (.call f__law_cells (.cons (.var 0) (.cons (.int 2) .nil))) (.cons (.int 0) .nil)))) (.cons (.fors (.name 2) (.range (.cons (.int 4) .nil)) L_law_0) (.cons (.ret (.bl true)) .nil)))
def d_law : Df := ⟨1, false, 9, b_law⟩
def Delta : List Df := [d_tupled, d_is_number, d_is_count, d_is_from_one, d_is_below, d_is_tuple_of, d_is_prime, d_is_row, d_are_rows_of, d_is_band, d_band_column, d_key_of_band, d_band_key, d_band_for, d_read_in, d_reading_of_rests, d_row_spans, d_open_between, d_widths, d_widest, d_sure_cell_of, d_closing_rows, d__law_box, d__law_take, d__law_cells, d__law_same, d__law_of, d__law_lists, d__law_great_row, d__law_spans_of, d__law_open_at, d__law_columns_so, d__law_slid_sum, d__law_heard, d__law_cut_block, d__law_band_right, d__law_none_right, d_law]
theorem r_tupled (n : Nat) (a0 : D) : run Delta (n + 1) f_tupled none [a0] = finish false (execSs (run Delta n) b_tupled [some (.val a0), none]) := rfl
theorem r_is_number (n : Nat) (a0 : D) : run Delta (n + 1) f_is_number none [a0] = finish false (execSs (run Delta n) b_is_number [some (.val a0)]) := rfl
theorem r_is_count (n : Nat) (a0 : D) : run Delta (n + 1) f_is_count none [a0] = finish false (execSs (run Delta n) b_is_count [some (.val a0)]) := rfl
theorem r_is_from_one (n : Nat) (a0 : D) : run Delta (n + 1) f_is_from_one none [a0] = finish false (execSs (run Delta n) b_is_from_one [some (.val a0)]) := rfl
theorem r_is_below (n : Nat) (a0 a1 : D) : run Delta (n + 1) f_is_below none [a0, a1] = finish false (execSs (run Delta n) b_is_below [some (.val a0), some (.val a1)]) := rfl
theorem r_is_tuple_of (n : Nat) (a0 a1 : D) : run Delta (n + 1) f_is_tuple_of none [a0, a1] = finish false (execSs (run Delta n) b_is_tuple_of [some (.val a0), some (.val a1)]) := rfl
theorem r_is_prime (n : Nat) (a0 : D) : run Delta (n + 1) f_is_prime none [a0] = finish false (execSs (run Delta n) b_is_prime [some (.val a0)]) := rfl
theorem r_is_row (n : Nat) (a0 a1 : D) : run Delta (n + 1) f_is_row none [a0, a1] = finish false (execSs (run Delta n) b_is_row [some (.val a0), some (.val a1), none]) := rfl
theorem r_are_rows_of (n : Nat) (a0 a1 a2 : D) : run Delta (n + 1) f_are_rows_of none [a0, a1, a2] = finish false (execSs (run Delta n) b_are_rows_of [some (.val a0), some (.val a1), some (.val a2), none]) := rfl
theorem r_is_band (n : Nat) (a0 : D) : run Delta (n + 1) f_is_band none [a0] = finish false (execSs (run Delta n) b_is_band [some (.val a0), none]) := rfl
theorem r_band_column (n : Nat) (a0 a1 a2 : D) : run Delta (n + 1) f_band_column none [a0, a1, a2] = finish false (execSs (run Delta n) b_band_column [some (.val a0), some (.val a1), some (.val a2), none, none, none]) := rfl
theorem r_key_of_band (n : Nat) (a0 a1 a2 : D) : run Delta (n + 1) f_key_of_band none [a0, a1, a2] = finish false (execSs (run Delta n) b_key_of_band [some (.val a0), some (.val a1), some (.val a2), none]) := rfl
theorem r_band_key (n : Nat) (a0 : D) : run Delta (n + 1) f_band_key none [a0] = finish false (execSs (run Delta n) b_band_key [some (.val a0), none, none, none]) := rfl
theorem r_band_for (n : Nat) (a0 a1 : D) : run Delta (n + 1) f_band_for none [a0, a1] = finish false (execSs (run Delta n) b_band_for [some (.val a0), some (.val a1), none, none, none, none, none]) := rfl
theorem r_read_in (n : Nat) (a0 a1 : D) : run Delta (n + 1) f_read_in none [a0, a1] = finish false (execSs (run Delta n) b_read_in [some (.val a0), some (.val a1), none, none, none]) := rfl
theorem r_reading_of_rests (n : Nat) (a0 a1 : D) : run Delta (n + 1) f_reading_of_rests none [a0, a1] = finish false (execSs (run Delta n) b_reading_of_rests [some (.val a0), some (.val a1), none, none, none]) := rfl
theorem r_row_spans (n : Nat) (a0 : D) : run Delta (n + 1) f_row_spans none [a0] = finish false (execSs (run Delta n) b_row_spans [some (.val a0), none, none, none, none, none]) := rfl
theorem r_open_between (n : Nat) (a0 a1 : D) : run Delta (n + 1) f_open_between none [a0, a1] = finish false (execSs (run Delta n) b_open_between [some (.val a0), some (.val a1), none, none]) := rfl
theorem r_widths (n : Nat) (a0 : D) : run Delta (n + 1) f_widths none [a0] = finish false (execSs (run Delta n) b_widths [some (.val a0), none, none, none]) := rfl
theorem r_widest (n : Nat) (a0 : D) : run Delta (n + 1) f_widest none [a0] = finish false (execSs (run Delta n) b_widest [some (.val a0)]) := rfl
theorem r_sure_cell_of (n : Nat) (a0 a1 : D) : run Delta (n + 1) f_sure_cell_of none [a0, a1] = finish false (execSs (run Delta n) b_sure_cell_of [some (.val a0), some (.val a1)]) := rfl
theorem r_closing_rows (n : Nat) (a0 a1 : D) : run Delta (n + 1) f_closing_rows none [a0, a1] = finish false (execSs (run Delta n) b_closing_rows [some (.val a0), some (.val a1), none, none, none]) := rfl
theorem r__law_box (n : Nat) (a0 a1 : D) : run Delta (n + 1) f__law_box none [a0, a1] = finish false (execSs (run Delta n) b__law_box [some (.val a0), some (.val a1), none]) := rfl
theorem r__law_take (n : Nat) (cs : List D) (a1 : D) : run Delta (n + 1) f__law_take (some cs) [a1] = finish true (execSs (run Delta n) b__law_take [some (.mut cs), some (.val a1), none, none, none, none]) := rfl
theorem r__law_cells (n : Nat) (a0 a1 : D) : run Delta (n + 1) f__law_cells none [a0, a1] = finish false (execSs (run Delta n) b__law_cells [some (.val a0), some (.val a1), none, none, none, none]) := rfl
theorem r__law_same (n : Nat) (a0 a1 : D) : run Delta (n + 1) f__law_same none [a0, a1] = finish false (execSs (run Delta n) b__law_same [some (.val a0), some (.val a1), none, none]) := rfl
theorem r__law_of (n : Nat) (cs : List D) (a1 : D) : run Delta (n + 1) f__law_of (some cs) [a1] = finish true (execSs (run Delta n) b__law_of [some (.mut cs), some (.val a1)]) := rfl
theorem r__law_lists (n : Nat) (a0 : D) : run Delta (n + 1) f__law_lists none [a0] = finish false (execSs (run Delta n) b__law_lists [some (.val a0), none]) := rfl
theorem r__law_great_row (n : Nat) (cs : List D) (a1 a2 : D) : run Delta (n + 1) f__law_great_row (some cs) [a1, a2] = finish true (execSs (run Delta n) b__law_great_row [some (.mut cs), some (.val a1), some (.val a2), none, none, none, none]) := rfl
theorem r__law_spans_of (n : Nat) (a0 : D) : run Delta (n + 1) f__law_spans_of none [a0] = finish false (execSs (run Delta n) b__law_spans_of [some (.val a0), none, none, none, none, none]) := rfl
theorem r__law_open_at (n : Nat) (a0 a1 : D) : run Delta (n + 1) f__law_open_at none [a0, a1] = finish false (execSs (run Delta n) b__law_open_at [some (.val a0), some (.val a1), none, none, none]) := rfl
theorem r__law_columns_so (n : Nat) (a0 : D) : run Delta (n + 1) f__law_columns_so none [a0] = finish false (execSs (run Delta n) b__law_columns_so [some (.val a0), none, none, none, none, none, none, none, none]) := rfl
theorem r__law_slid_sum (n : Nat) (a0 a1 : D) : run Delta (n + 1) f__law_slid_sum none [a0, a1] = finish false (execSs (run Delta n) b__law_slid_sum [some (.val a0), some (.val a1), none, none, none, none, none, none, none, none, none]) := rfl
theorem r__law_heard (n : Nat) (a0 a1 : D) : run Delta (n + 1) f__law_heard none [a0, a1] = finish false (execSs (run Delta n) b__law_heard [some (.val a0), some (.val a1), none]) := rfl
theorem r__law_cut_block (n : Nat) (a0 a1 : D) : run Delta (n + 1) f__law_cut_block none [a0, a1] = finish false (execSs (run Delta n) b__law_cut_block [some (.val a0), some (.val a1), none, none, none, none, none, none, none, none]) := rfl
theorem r__law_band_right (n : Nat) (cs : List D) (a1 : D) : run Delta (n + 1) f__law_band_right (some cs) [a1] = finish true (execSs (run Delta n) b__law_band_right [some (.mut cs), some (.val a1), none, none, none, none, none, none, none, none, none, none, none, none, none]) := rfl
theorem r__law_none_right (n : Nat) (cs : List D) (a1 : D) : run Delta (n + 1) f__law_none_right (some cs) [a1] = finish true (execSs (run Delta n) b__law_none_right [some (.mut cs), some (.val a1), none, none, none, none, none, none, none]) := rfl
theorem r_law (n : Nat) (a0 : D) : run Delta (n + 1) f_law none [a0] = finish false (execSs (run Delta n) b_law [some (.val a0), none, none, none, none, none, none, none, none]) := rfl
end K79

end
section
set_option maxRecDepth 100000
set_option maxHeartbeats 1000000
namespace K79
open DL PySem
theorem p_tupled : ∀ (n : Nat) (d : D), D.depth d < n → D.fit d = true → run Delta n f_tupled none [d] = .ok (.val (tupD d)) none
  | 0, d, h, _ => absurd h (Nat.not_lt_zero _)
  | n + 1, d, h, hf => by
    rw [r_tupled]
    have sq : ∀ xs : List D, D.depths xs < n → xs.length ≤ LIM → D.fits xs = true → ∀ w, compRun (evalE (run Delta n) (.call f_tupled (.cons (.var 1) .nil))) (testE (run Delta n) (.bl true)) (.name 1) [1] xs [some (.val w), none] = .ok (.own (tupDs xs)) [some (.val w), none] := fun xs h1 h2 h3 w => by
      have := comp_all (ρ := [some (.val w), none]) (vs := [1]) (ev := evalE (run Delta n) (.call f_tupled (.cons (.var 1) .nil))) (te := testE (run Delta n) (.bl true)) (p := .name 1) xs id tupD rfl h2 fun x hx => by
        have hd : D.depth x < n := Nat.lt_of_le_of_lt (depth_mem hx) h1
        simp [compStep, wipeE, p_tupled n x hd (fits_mem h3 hx)]
      rw [List.map_id] at this
      rw [this, tupDs_map]
    cases d with
    | tup xs =>
      simp only [D.fit, Bool.and_eq_true, decide_eq_true_eq] at hf
      simp [b_tupled, isTy, tupD]
      rw [sq xs (by simp only [D.depth] at h; omega) hf.1 hf.2]
      simp
    | lst xs =>
      simp only [D.fit, Bool.and_eq_true, decide_eq_true_eq] at hf
      simp [b_tupled, isTy, tupD]
      rw [sq xs (by simp only [D.depth] at h; omega) hf.1 hf.2]
      simp
    | _ => simp [b_tupled, isTy, tupD]
@[simp] theorem p_is_number (n : Nat) (i : Int) : run Delta (n + 1) f_is_number none [.int i] = .ok (.val (.bl true)) none := by
  rw [r_is_number]; simp [b_is_number, isTy]
@[simp] theorem p_is_count (n : Nat) (i : Int) : run Delta (n + 2) f_is_count none [.int i] = .ok (.val (.bl (decide (0 ≤ i)))) none := by
  rw [r_is_count]; simp [b_is_count]
@[simp] theorem p_is_from_one (n : Nat) (i : Int) : run Delta (n + 2) f_is_from_one none [.int i] = .ok (.val (.bl (decide (1 ≤ i)))) none := by
  rw [r_is_from_one]; simp [b_is_from_one]
@[simp] theorem p_is_below (n : Nat) (i j : Int) : run Delta (n + 3) f_is_below none [.int i, .int j] = .ok (.val (.bl (decide (0 ≤ i) && decide (i < j)))) none := by
  rw [r_is_below]; simp [b_is_below]
@[simp] theorem p_is_tuple_of (n : Nat) (l : List D) (j : Int) : run Delta (n + 1) f_is_tuple_of none [.tup l, .int j] = .ok (.val (.bl (decide ((l.length : Int) = j)))) none := by
  rw [r_is_tuple_of]; simp [b_is_tuple_of, isTy]
@[simp] theorem p_is_prime (n : Nat) (i : Int) : run Delta (n + 2) f_is_prime none [.int i] = .ok (.val (.bl (decide (2 = i) || (decide (3 = i) || decide (5 = i))))) none := by
  rw [r_is_prime]; simp [b_is_prime]

end K79
end
section
set_option maxRecDepth 100000
set_option maxHeartbeats 1000000
namespace K79
open DL PySem
/-! what the laws share: their sameness, their draws -/
theorem p_same : ∀ (n : Nat) (d : D), D.depth d < n → D.fit d = true → run Delta n f__law_same none [d, d] = .ok (.val (.bl true)) none
  | 0, d, h, _ => absurd h (Nat.not_lt_zero _)
  | n + 1, d, h, hf => by
    rw [r__law_same]
    have sq : ∀ xs : List D, D.depths xs < n → xs.length ≤ LIM → D.fits xs = true → ∀ w, compRun (evalE (run Delta n) (.call f__law_same (.cons (.var 2) (.cons (.var 3) .nil)))) (testE (run Delta n) (.bl true)) (.tup [.name 2, .name 3]) [2, 3] (xs.map fun d => .tup [d, d]) [some (.val w), some (.val w), none, none] = .ok (.own (xs.map fun _ => .bl true)) [some (.val w), some (.val w), none, none] := fun xs h1 h2 h3 w => by
      refine comp_all xs _ (fun _ => .bl true) rfl h2 fun x hx => ?_
      have hd : D.depth x < n := Nat.lt_of_le_of_lt (depth_mem hx) h1
      simp [compStep, assignP, assignPs, wipeE, p_same n x hd (fits_mem h3 hx)]
    cases d with
    | non => simp [b__law_same, isTy, D.isNon, D.eqv]
    | bl b => simp [b__law_same, isTy, D.isNon]
    | int i => simp [b__law_same, isTy, D.isNon]
    | str s =>
      have hs : s.cps.all (· < 0x110000) = true := hf
      simp [b__law_same, isTy, D.isNon, D.eqv, D.sok, hs]
    | tup xs =>
      simp only [D.fit, Bool.and_eq_true, decide_eq_true_eq] at hf
      have hb := bls_map xs fun _ => true
      simp [b__law_same, isTy, zip_self, -comp_G]
      rw [sq xs (by simp only [D.depth] at h; omega) hf.1 hf.2]
      simp
    | lst xs =>
      simp only [D.fit, Bool.and_eq_true, decide_eq_true_eq] at hf
      have hb := bls_map xs fun _ => true
      simp [b__law_same, isTy, zip_self, -comp_G]
      rw [sq xs (by simp only [D.depth] at h; omega) hf.1 hf.2]
      simp
theorem p_same' (n : Nat) (d e : D) (h : d = e) (hd : shal 20 d = true) (hf : D.fit d = true) : run Delta (n + 21) f__law_same none [d, e] = .ok (.val (.bl true)) none := by
  rw [← h]
  exact p_same (n + 21) d (by have := of_decide_eq_true hd; omega) hf
/-- so many draws are left -/
def TinOk (c : Nat) (tin : List D) : Prop := ∃ a b k : Int, tin = [.int a, .int b, .int k] ∧ 0 ≤ k ∧ k + c ≤ 900000000
theorem TinOk.mono {c c' : Nat} {tin : List D} (h : TinOk c tin) (hc : c' ≤ c) : TinOk c' tin := by
  obtain ⟨a, b, k, e, h1, h2⟩ := h
  exact ⟨a, b, k, e, h1, by omega⟩
theorem fmod_range {a m : Int} (h : 0 < m) : 0 ≤ a.fmod m ∧ a.fmod m < m := ⟨Int.fmod_nonneg_of_pos a h, Int.fmod_lt_of_pos a h⟩
theorem emod_range {a m : Int} (h : 0 < m) : 0 ≤ a % m ∧ a % m < m := ⟨Int.emod_nonneg a (by omega), Int.emod_lt_of_pos a h⟩
theorem p_take (n c : Nat) (tin : List D) (m : Int) (ht : TinOk (c + 1) tin) (hm : 0 < m) (hm2 : m ≤ 1000000000) :
    ∃ r tin', run Delta (n + 1) f__law_take (some tin) [.int m] = .ok (.val (.int r)) (some tin') ∧ TinOk c tin' ∧ 0 ≤ r ∧ r < m := by
  obtain ⟨a, b, k, rfl, hc, hc2⟩ := ht
  rw [r__law_take]
  by_cases h0 : 0 < a
  · refine ⟨a % m, [.int (a / m), .int b, .int k], ?_, ⟨_, _, _, rfl, hc, by omega⟩, emod_range hm⟩
    simp -implicitDefEqProofs (disch := first | omega | assumption) [-Int.natCast_ediv, -Int.natCast_emod, -List.map_take, -List.map_drop, -List.map_reverse, -List.map_append, -List.map_set, -List.map_replicate, -List.map_map, -List.map_dropLast, -Int.natCast_add, -Int.natCast_mul, snoc_map, nc_add, nc_mul, nc_add1, nc_add2, nc_1add, slT_to, slL_to, slT_from, slL_from, slT_mid, slL_mid, b__law_take, h0, o_mod, o_div]
  · have key : ∃ r : Int, finish true (execSs (DL.run Delta n) b__law_take [some (Sl.mut [D.int a, D.int b, D.int k]), some (Sl.val (D.int m)), none, none, none, none]) = .ok (.val (.int (r % m))) (some [.int a, .int b, .int (k + 1)]) := by
      have k3 : ∀ x y : Int, binop .mul (.int x) (.int (y % 40009 + 7)) = some (.val (.int (x * (y % 40009 + 7)))) := fun x y => by
        have := emod_range (a := y) (m := 40009) (by omega)
        exact o_mulR (by omega) (by omega)
      simp -implicitDefEqProofs (disch := first | omega | assumption) [-Int.natCast_ediv, -Int.natCast_emod, -List.map_take, -List.map_drop, -List.map_reverse, -List.map_append, -List.map_set, -List.map_replicate, -List.map_map, -List.map_dropLast, -Int.natCast_add, -Int.natCast_mul, snoc_map, nc_add, nc_mul, nc_add1, nc_add2, nc_1add, slT_to, slL_to, slT_from, slL_from, slT_mid, slL_mid, b__law_take, h0, o_mod, o_div, o_mulL, o_mulR, k3]
      exact ⟨_, rfl⟩
    obtain ⟨r, e⟩ := key
    exact ⟨r % m, _, e, ⟨_, _, _, rfl, by omega, by omega⟩, emod_range hm⟩
theorem p_box (n : Nat) (l : List Int) : ∃ tin, run Delta (n + 1) f__law_box none [.lst (l.map .int), .int 0] = .ok (.own tin) none ∧ TinOk 1000000 tin := by
  rw [r__law_box]
  have k3 : binop .pow (.int 10) (.int 18) = some (.val (.int (10 ^ 18))) := rfl
  have k4 : ∀ (x : Int) (c : Prop) [Decidable c], binop .mul (.int x) (.int (if c then 1 else 0)) = some (.val (.int (x * if c then 1 else 0))) := fun x c _ => by split <;> exact o_mulR (by decide) (by decide)
  have key : ∃ a b : Int, finish false (execSs (run Delta n) b__law_box [some (Sl.val (D.lst (l.map .int))), some (Sl.val (D.int 0)), none]) = .ok (.own [.int a, .int b, .int 0]) none := by
    cases l with
    | nil =>
      simp -implicitDefEqProofs (disch := first | omega | assumption) [-Int.natCast_ediv, -Int.natCast_emod, -List.map_take, -List.map_drop, -List.map_reverse, -List.map_append, -List.map_set, -List.map_replicate, -List.map_map, -List.map_dropLast, -Int.natCast_add, -Int.natCast_mul, snoc_map, nc_add, nc_mul, nc_add1, nc_add2, nc_1add, slT_to, slL_to, slT_from, slL_from, slT_mid, slL_mid, b__law_box, k3, k4, o_mod, o_mulR]
      first | done | exact ⟨_, _, rfl⟩ | exact ⟨_, _, rfl, rfl⟩
    | cons x l =>
      have h2 : (0 : Int) < (l.length : Int) + 1 := by omega
      simp -implicitDefEqProofs (disch := first | omega | assumption) [-Int.natCast_ediv, -Int.natCast_emod, -List.map_take, -List.map_drop, -List.map_reverse, -List.map_append, -List.map_set, -List.map_replicate, -List.map_map, -List.map_dropLast, -Int.natCast_add, -Int.natCast_mul, snoc_map, nc_add, nc_mul, nc_add1, nc_add2, nc_1add, slT_to, slL_to, slT_from, slL_from, slT_mid, slL_mid, b__law_box, k3, k4, o_mod, o_mulR, h2]
      first | done | exact ⟨_, _, rfl⟩ | exact ⟨_, _, rfl, rfl⟩
  obtain ⟨a, b, e⟩ := key
  exact ⟨_, e, a, b, 0, rfl, Int.le_refl 0, by omega⟩
theorem p_cells (n : Nat) (l : List Int) (hl : l.length ≤ 63) : ∃ m, run Delta (n + 1) f__law_cells none [.lst (l.map .int), .int 2] = .ok (.own (List.map D.int m)) none := by
  rw [r__law_cells]
  have first : ∃ m : List Int, (l.drop 2 ≠ [] → m.length = 2) ∧ (if l = [] then [D.int 0] else (l.take 2).map .int) = m.map .int := by
    match l with
    | [] => exact ⟨[0], by simp, rfl⟩
    | [x] => exact ⟨[x], by simp, rfl⟩
    | x :: y :: l => exact ⟨[x, y], by simp, rfl⟩
  obtain ⟨m, hm, e1⟩ := first
  have L : ∃ m' x y z, forLoop (forB (.tup [.name 3, .name 4]) (execSs (run Delta n) L__law_cells_0)) ((((l.drop 2).take 61).zipIdx 0).map fun q : Int × Nat => D.tup [.int (q.2 : Nat), .int q.1])
      [vD (.lst (l.map .int)), vI 2, mD (m.map .int), none, none, none] = .ok .next [vD (.lst (l.map .int)), vI 2, mD (List.map D.int m'), x, y, z] := by
    by_cases hz : l.drop 2 = []
    · rw [hz]
      exact ⟨m, none, none, none, rfl⟩
    · obtain ⟨σ, L⟩ := for_pre (b := forB (.tup [.name 3, .name 4]) (execSs (run Delta n) L__law_cells_0)) (fun q : Int × Nat => D.tup [.int (q.2 : Nat), .int q.1])
        (fun _ (σ : List Int × Option Sl × Option Sl × Option Sl) => [vD (.lst (l.map .int)), vI 2, mD (σ.1.map .int), σ.2.1, σ.2.2.1, σ.2.2.2]) (fun _ σ => σ.1.length = 2) (((l.drop 2).take 61).zipIdx 0) (m, none, none, none) (hm hz) fun pre q post σ hs hI => by
          have hq : q.2 < 61 := by
            have h1 := pre_mem hs
            have h2 := (List.mem_zipIdx (x := q.1) (i := q.2) h1).2.1
            rw [List.length_take] at h2
            omega
          obtain ⟨⟨⟩ | ⟨a, ⟨⟩ | ⟨b, ⟨⟩ | _⟩⟩, x, y, z⟩ := σ <;> simp at hI
          rcases (show ((q.2 : Nat) : Int) % 2 = 0 ∨ ((q.2 : Nat) : Int) % 2 = 1 by omega) with e | e
          · exact ⟨([_, _], _, _, _), by simp -implicitDefEqProofs (disch := first | omega | assumption) [-Int.natCast_ediv, -Int.natCast_emod, -List.map_take, -List.map_drop, -List.map_reverse, -List.map_append, -List.map_set, -List.map_replicate, -List.map_map, -List.map_dropLast, -Int.natCast_add, -Int.natCast_mul, snoc_map, nc_add, nc_mul, nc_add1, nc_add2, nc_1add, slT_to, slL_to, slT_from, slL_from, slT_mid, slL_mid, forB, L__law_cells_0, o_mod, e, o_mulR]; exact ⟨⟨rfl, rfl⟩, rfl, rfl, rfl⟩, rfl⟩
          · exact ⟨([_, _], _, _, _), by simp -implicitDefEqProofs (disch := first | omega | assumption) [-Int.natCast_ediv, -Int.natCast_emod, -List.map_take, -List.map_drop, -List.map_reverse, -List.map_append, -List.map_set, -List.map_replicate, -List.map_map, -List.map_dropLast, -Int.natCast_add, -Int.natCast_mul, snoc_map, nc_add, nc_mul, nc_add1, nc_add2, nc_1add, slT_to, slL_to, slT_from, slL_from, slT_mid, slL_mid, forB, L__law_cells_0, o_mod, e, o_mulR]; exact ⟨⟨rfl, rfl⟩, rfl, rfl, rfl⟩, rfl⟩
      exact ⟨_, _, _, _, L.1⟩
  obtain ⟨m', x, y, z, L⟩ := L
  refine ⟨m', ?_⟩
  simp -implicitDefEqProofs (disch := first | omega | assumption) [-Int.natCast_ediv, -Int.natCast_emod, -List.map_take, -List.map_drop, -List.map_reverse, -List.map_append, -List.map_set, -List.map_replicate, -List.map_map, -List.map_dropLast, -Int.natCast_add, -Int.natCast_mul, snoc_map, nc_add, nc_mul, nc_add1, nc_add2, nc_1add, slT_to, slL_to, slT_from, slL_from, slT_mid, slL_mid, b__law_cells, e1, L]

theorem p_of {α : Type} [Inhabited α] (n c : Nat) (tin : List D) (f : α → D) (l : List α) (ht : TinOk (c + 1) tin) (hl : 0 < l.length) (hl2 : l.length ≤ 1000000) :
    ∃ x tin', run Delta (n + 2) f__law_of (some tin) [.lst (l.map f)] = .ok (.val (f x)) (some tin') ∧ TinOk c tin' ∧ x ∈ l := by
  obtain ⟨r, tin', e, ht', h0, h1⟩ := p_take n c tin l.length ht (by omega) (by omega)
  refine ⟨nth l r.toNat, tin', ?_, ht', nth_mem (by omega)⟩
  rw [r__law_of]
  simp -implicitDefEqProofs (disch := first | omega | assumption) [-Int.natCast_ediv, -Int.natCast_emod, -List.map_take, -List.map_drop, -List.map_reverse, -List.map_append, -List.map_set, -List.map_replicate, -List.map_map, -List.map_dropLast, -Int.natCast_add, -Int.natCast_mul, snoc_map, nc_add, nc_mul, nc_add1, nc_add2, nc_1add, slT_to, slL_to, slT_from, slL_from, slT_mid, slL_mid, b__law_of, e, atD_nth]
theorem p_ofT {α : Type} [Inhabited α] (n c : Nat) (tin : List D) (f : α → D) (l : List α) (ht : TinOk (c + 1) tin) (hl : 0 < l.length) (hl2 : l.length ≤ 1000000) :
    ∃ x tin', run Delta (n + 2) f__law_of (some tin) [.tup (l.map f)] = .ok (.val (f x)) (some tin') ∧ TinOk c tin' ∧ x ∈ l := by
  obtain ⟨r, tin', e, ht', h0, h1⟩ := p_take n c tin l.length ht (by omega) (by omega)
  refine ⟨nth l r.toNat, tin', ?_, ht', nth_mem (by omega)⟩
  rw [r__law_of]
  simp -implicitDefEqProofs (disch := first | omega | assumption) [-Int.natCast_ediv, -Int.natCast_emod, -List.map_take, -List.map_drop, -List.map_reverse, -List.map_append, -List.map_set, -List.map_replicate, -List.map_map, -List.map_dropLast, -Int.natCast_add, -Int.natCast_mul, snoc_map, nc_add, nc_mul, nc_add1, nc_add2, nc_1add, slT_to, slL_to, slT_from, slL_from, slT_mid, slL_mid, b__law_of, e, atD_nth]

end K79
end
section
set_option maxRecDepth 100000
set_option maxHeartbeats 1000000
namespace K79
open DL PySem
def lstV : D → Vl
  | .tup xs => .own (lstDs xs)
  | .lst xs => .own (lstDs xs)
  | d => .val d
theorem lstV_frz (d : D) (ρ : DL.Env) : freeze (lstV d) ρ = .ok (lstD d) ρ := by cases d <;> simp [lstV]
theorem lstV_call (d : D) (ρ : DL.Env) : afterCall ρ (.ok (lstV d) none) = .ok (lstV d) ρ := by cases d <;> simp [lstV]
theorem p_lists : ∀ (n : Nat) (d : D), D.depth d < n → D.fit d = true → run Delta n f__law_lists none [d] = .ok (lstV d) none
  | 0, d, h, _ => absurd h (Nat.not_lt_zero _)
  | n + 1, d, h, hf => by
    rw [r__law_lists]
    have sq : ∀ xs : List D, D.depths xs < n → xs.length ≤ LIM → D.fits xs = true → ∀ w, compRun (evalE (run Delta n) (.call f__law_lists (.cons (.var 1) .nil))) (testE (run Delta n) (.bl true)) (.name 1) [1] xs [some (.val w), none] = .ok (.own (lstDs xs)) [some (.val w), none] := fun xs h1 h2 h3 w => by
      have := comp_all (ρ := [some (.val w), none]) (vs := [1]) (ev := evalE (run Delta n) (.call f__law_lists (.cons (.var 1) .nil))) (te := testE (run Delta n) (.bl true)) (p := .name 1) xs id lstD rfl h2 fun x hx => by
        have hd : D.depth x < n := Nat.lt_of_le_of_lt (depth_mem hx) h1
        simp [compStep, wipeE, p_lists n x hd (fits_mem h3 hx), lstV_frz, lstV_call]
      rw [List.map_id] at this
      rw [this, lstDs_map]
    cases d with
    | tup xs =>
      simp only [D.fit, Bool.and_eq_true, decide_eq_true_eq] at hf
      simp [b__law_lists, isTy]
      rw [sq xs (by simp only [D.depth] at h; omega) hf.1 hf.2]
      simp [lstV]
    | lst xs =>
      simp only [D.fit, Bool.and_eq_true, decide_eq_true_eq] at hf
      simp [b__law_lists, isTy]
      rw [sq xs (by simp only [D.depth] at h; omega) hf.1 hf.2]
      simp [lstV]
    | _ => simp [b__law_lists, isTy, lstV]
theorem p_lists_t (n : Nat) (xs : List D) (h : shal 19 (.tup xs) = true) (hf : D.fit (.tup xs) = true) : run Delta (n + 20) f__law_lists none [.tup xs] = .ok (.own (lstDs xs)) none :=
  p_lists (n + 20) (.tup xs) (Nat.lt_of_le_of_lt (of_decide_eq_true h) (by omega)) hf

end K79
end
section
set_option maxRecDepth 100000
set_option maxHeartbeats 1000000
namespace K79
open DL PySem
@[simp] theorem p_is_row (n : Nat) (p : Int) (l : List Int) (hl : l.length ≤ 1000000) : run Delta (n + 4) f_is_row none [.int p, .tup (l.map .int)] = .ok (.val (.bl (decide (∀ x ∈ l, 0 ≤ x ∧ x < p)))) none := by
  rw [r_is_row]; simp -implicitDefEqProofs (disch := first | omega | assumption) [-Int.natCast_ediv, -Int.natCast_emod, -List.map_take, -List.map_drop, -List.map_reverse, -List.map_append, -List.map_set, -List.map_replicate, -List.map_map, -List.map_dropLast, -Int.natCast_add, -Int.natCast_mul, snoc_map, nc_add, nc_mul, nc_add1, nc_add2, nc_1add, slT_to, slL_to, slT_from, slL_from, slT_mid, slL_mid, b_is_row, isTy]
@[simp] theorem p_are_rows_of (n : Nat) (p m : Int) (ls : List (List Int)) (hl : ls.length ≤ 1000000) (hh : ∀ l ∈ ls, l.length ≤ 1000000) : run Delta (n + 5) f_are_rows_of none [.int p, .int m, .tup (ls.map rowD)] = .ok (.val (.bl (decide (ls ≠ []) && decide (∀ l ∈ ls, (∀ x ∈ l, 0 ≤ x ∧ x < p) ∧ l.length = m)))) none := by
  rw [r_are_rows_of]; simp -implicitDefEqProofs (disch := first | omega | assumption | solve_by_elim) [-Int.natCast_ediv, -Int.natCast_emod, -List.map_take, -List.map_drop, -List.map_reverse, -List.map_append, -List.map_set, -List.map_replicate, -List.map_map, -List.map_dropLast, -Int.natCast_add, -Int.natCast_mul, snoc_map, nc_add, nc_mul, nc_add1, nc_add2, nc_1add, slT_to, slL_to, slT_from, slL_from, slT_mid, slL_mid, b_are_rows_of, isTy]
def bcol (m : Nat) (B : List (List Int)) (j : Nat) : List Int := (List.range m).map fun t => if j / B.length ≤ t then nth (nth B (j % B.length)) (t - j / B.length) else 0
def bcols (m : Nat) (B : List (List Int)) : List (List Int) := (List.range (m * B.length)).map (bcol m B)
theorem p_band_column (n m j : Nat) (B : List (List Int)) (hm : m ≤ 1000) (hB : 0 < B.length) (hB1 : B.length ≤ 1000) : run Delta (n + 1) f_band_column none [.int m, .tup (B.map rowD), .int j] = .ok (.val (rowD (bcol m B j))) none := by
  rw [r_band_column]
  have hj := Nat.mod_lt j hB
  simp -implicitDefEqProofs (disch := first | omega | assumption) [-Int.natCast_ediv, -Int.natCast_emod, -List.map_take, -List.map_drop, -List.map_reverse, -List.map_append, -List.map_set, -List.map_replicate, -List.map_map, -List.map_dropLast, -Int.natCast_add, -Int.natCast_mul, snoc_map, nc_add, nc_mul, nc_add1, nc_add2, nc_1add, slT_to, slL_to, slT_from, slL_from, slT_mid, slL_mid, b_band_column, isTy, range0, atD_nth, o_div, o_mod]
  simp only [bcol, List.map_map]
  refine List.map_congr_left fun t ht => ?_
  simp only [Function.comp, ← Int.natCast_ediv]
  congr 1
  by_cases h : j / B.length ≤ t
  · rw [if_pos h]
    by_cases h2 : t - j / B.length < (nth B (j % B.length)).length
    · rw [if_pos (by omega)]
      congr 1
      omega
    · rw [if_neg (by omega), nth_out (by omega)]
      rfl
  · rw [if_neg h, if_neg (by omega)]
abbrev keyD (p : Int) (m : Nat) (C : List (List Int)) : D := .tup [.int p, .int m, .tup (C.map rowD)]
theorem p_key_of_band (n m : Nat) (p : Int) (B : List (List Int)) (hm : m ≤ 1000) (hB : 0 < B.length) (hB1 : B.length ≤ 1000) : run Delta (n + 2) f_key_of_band none [.int p, .int m, .tup (B.map rowD)] = .ok (.val (keyD p m (bcols m B))) none := by
  rw [r_key_of_band]
  have h : m * B.length ≤ 1000 * 1000 := Nat.mul_le_mul hm hB1
  simp -implicitDefEqProofs (disch := first | omega | assumption) [-Int.natCast_ediv, -Int.natCast_emod, -List.map_take, -List.map_drop, -List.map_reverse, -List.map_append, -List.map_set, -List.map_replicate, -List.map_map, -List.map_dropLast, -Int.natCast_add, -Int.natCast_mul, snoc_map, nc_add, nc_mul, nc_add1, nc_add2, nc_1add, slT_to, slL_to, slT_from, slL_from, slT_mid, slL_mid, b_key_of_band, isTy, range0, o_mulL, p_band_column]
  simp [bcols]

end K79
end
section
set_option maxRecDepth 100000
set_option maxHeartbeats 1000000
namespace K79
open DL PySem
theorem tup_key (p : Int) (m : Nat) (C : List (List Int)) : tupD (keyD p m C) = keyD p m C := by
  simp
theorem dep_key (p : Int) (m : Nat) (C : List (List Int)) : D.depth (keyD p m C) < 4 := by
  have : shal 3 (keyD p m C) = true := by simp
  exact Nat.lt_succ_of_le (of_decide_eq_true this)
theorem fit_key (p : Int) (m : Nat) (C : List (List Int)) (hc : C.length ≤ 1000000) (hh : ∀ l ∈ C, l.length ≤ 1000000) : D.fit (keyD p m C) = true := by
  simp [hc, fits_rows hh]
theorem p_tupled_key (n : Nat) (p : Int) (m : Nat) (C : List (List Int)) (hc : C.length ≤ 1000000) (hh : ∀ l ∈ C, l.length ≤ 1000000) : run Delta (n + 4) f_tupled none [keyD p m C] = .ok (.val (keyD p m C)) none := by
  rw [p_tupled (n + 4) _ (Nat.lt_of_lt_of_le (dep_key p m C) (by omega)) (fit_key p m C hc hh), tup_key]
theorem p_band_key (n m : Nat) (p : Int) (B : List (List Int)) (hm : m ≤ 1000) (hB : 0 < B.length) (hB1 : B.length ≤ 1000) (hh : ∀ l ∈ B, l.length ≤ 1000000) : run Delta (n + 5) f_band_key none [keyD p m B] = .ok (.val (keyD p m (bcols m B))) none := by
  rw [r_band_key]
  simp -implicitDefEqProofs (disch := first | omega | assumption) [-Int.natCast_ediv, -Int.natCast_emod, -List.map_take, -List.map_drop, -List.map_reverse, -List.map_append, -List.map_set, -List.map_replicate, -List.map_map, -List.map_dropLast, -Int.natCast_add, -Int.natCast_mul, snoc_map, nc_add, nc_mul, nc_add1, nc_add2, nc_1add, slT_to, slL_to, slT_from, slL_from, slT_mid, slL_mid, b_band_key, p_tupled_key, p_key_of_band]
/-- the block's rows that band_for looks at -/
def cutRow (len m : Nat) (c : List Int) : List Int := c.take len ++ List.replicate (len - m) 0
theorem rep_zero (m : Nat) : DL.rep [D.int 0] m = (List.replicate m 0).map D.int := by
  induction m with
  | zero => rfl
  | succ m ih => simp [DL.rep, ih, List.replicate_succ]
theorem zrT (k : Int) (h0 : -1000000 ≤ k) (hm : k ≤ 1000000) : binop .mul (.tup [.int 0]) (.int k) = some (.val (.tup ((List.replicate k.toNat 0).map .int))) := by
  have h2 : [D.int 0].length * k.toNat ≤ LIM := by rw [List.length_singleton, Nat.one_mul]; exact le_LIM (by omega)
  simp only [binop]
  rw [if_pos ⟨by omega, h2, by omega⟩, rep_zero]
theorem zrL (k : Int) (h0 : -1000000 ≤ k) (hm : k ≤ 1000000) : binop .mul (.lst [.int 0]) (.int k) = some (.own ((List.replicate k.toNat 0).map .int)) := by
  have h2 : [D.int 0].length * k.toNat ≤ LIM := by rw [List.length_singleton, Nat.one_mul]; exact le_LIM (by omega)
  simp only [binop]
  rw [if_pos ⟨by omega, h2, by omega⟩, rep_zero]
def cutRows (len m : Nat) (C : List (List Int)) : List (List Int) := (C.take (C.length / m)).map (cutRow len m)
theorem p_band_for (n m len : Nat) (p : Int) (C : List (List Int)) (hm : m ≤ 1000) (hl : len ≤ 1000) (hC : C.length ≤ 1000) (hC0 : 0 < C.length) (hh : ∀ l ∈ C, l.length ≤ 1000000) :
   run Delta (n + 6) f_band_for none [keyD p m C, .int len] = if m = 0 ∨ C.length % m ≠ 0 then .exc 1 [] else
     if bcols m (cutRows len m C) = C then .ok (.val (keyD p m (cutRows len m C))) none else .exc 1 [] := by
  rw [r_band_for]
  by_cases h0 : m = 0
  · subst h0
    simp -implicitDefEqProofs (disch := first | omega | assumption) [-Int.natCast_ediv, -Int.natCast_emod, -List.map_take, -List.map_drop, -List.map_reverse, -List.map_append, -List.map_set, -List.map_replicate, -List.map_map, -List.map_dropLast, -Int.natCast_add, -Int.natCast_mul, snoc_map, nc_add, nc_mul, nc_add1, nc_add2, nc_1add, slT_to, slL_to, slT_from, slL_from, slT_mid, slL_mid, b_band_for, p_tupled_key]
  · have hb : 0 < m := by omega
    by_cases hd : C.length % m = 0
    · have hR : (C.take (C.length / m)).map (fun x => D.tup ((x.take len ++ List.replicate (len - m) 0).map .int)) = (cutRows len m C).map rowD := rows_of (cutRow len m) (C.take (C.length / m))
      have h1 : C.length / m ≤ C.length := Nat.div_le_self _ _
      have h3 : 0 < C.length / m := Nat.div_pos (Nat.le_of_dvd hC0 (Nat.dvd_of_mod_eq_zero hd)) hb
      have h2 : (cutRows len m C).length = C.length / m := by simp [cutRows]; omega
      simp -implicitDefEqProofs (disch := first | omega | assumption) [-Int.natCast_ediv, -Int.natCast_emod, -List.map_take, -List.map_drop, -List.map_reverse, -List.map_append, -List.map_set, -List.map_replicate, -List.map_map, -List.map_dropLast, -Int.natCast_add, -Int.natCast_mul, snoc_map, nc_add, nc_mul, nc_add1, nc_add2, nc_1add, slT_to, slL_to, slT_from, slL_from, slT_mid, slL_mid, b_band_for, p_tupled_key, o_modN, o_divN, part_int, zrT, h0, hR, p_key_of_band, hd]
      trace_state
    · simp -implicitDefEqProofs (disch := first | omega | assumption) [-Int.natCast_ediv, -Int.natCast_emod, -List.map_take, -List.map_drop, -List.map_reverse, -List.map_append, -List.map_set, -List.map_replicate, -List.map_map, -List.map_dropLast, -Int.natCast_add, -Int.natCast_mul, snoc_map, nc_add, nc_mul, nc_add1, nc_add2, nc_1add, slT_to, slL_to, slT_from, slL_from, slT_mid, slL_mid, b_band_for, p_tupled_key, o_modN, o_divN, part_int, zrT, h0, p_key_of_band, hd]

end K79
end
section
set_option maxRecDepth 100000
set_option maxHeartbeats 1000000
namespace K79
open DL PySem
def readIn (p : Int) (m : Nat) (C : List (List Int)) (ts : List Int) : List Int := (List.range m).map fun t => ((ts.zip C).map fun q => q.1 * nth q.2 t).sum % p
theorem p_read_in (n m : Nat) (p : Int) (C : List (List Int)) (ts : List Int) (hp : 0 < p) (hm : m ≤ 1000) (hC : C.length ≤ 1000) (hc : ∀ c ∈ C, c.length = m) (ht : ∀ x ∈ ts, -1000000 ≤ x ∧ x ≤ 1000000) :
    run Delta (n + 1) f_read_in none [keyD p m C, .tup (ts.map .int)] = .ok (.val (rowD (readIn p m C ts))) none := by
  rw [r_read_in]
  have h1 : ∀ q ∈ ts.zip C, -1000000000 ≤ q.1 := fun q hq => by have := ht _ (List.of_mem_zip (a := q.1) (b := q.2) hq).1; omega
  have h2 : ∀ q ∈ ts.zip C, q.1 ≤ 1000000000 := fun q hq => by have := ht _ (List.of_mem_zip (a := q.1) (b := q.2) hq).1; omega
  have h3 : ∀ q ∈ ts.zip C, ∀ t, t < m → (t : Int) < q.2.length := fun q hq t ht => by have := hc _ (List.of_mem_zip (a := q.1) (b := q.2) hq).2; omega
  have h4 : (ts.zip C).length ≤ 1000 := by rw [List.length_zip]; omega
  simp -implicitDefEqProofs (disch := first | omega | assumption | solve_by_elim) [-Int.natCast_ediv, -Int.natCast_emod, -List.map_take, -List.map_drop, -List.map_reverse, -List.map_append, -List.map_set, -List.map_replicate, -List.map_map, -List.map_dropLast, -Int.natCast_add, -Int.natCast_mul, snoc_map, nc_add, nc_mul, nc_add1, nc_add2, nc_1add, slT_to, slL_to, slT_from, slL_from, slT_mid, slL_mid, b_read_in, range0, atD_nth, o_mulL, o_mod]
  rw [ints_of]
  rfl
theorem readIn_len (p : Int) (m : Nat) (C : List (List Int)) (ts : List Int) : (readIn p m C ts).length = m := by simp [readIn]
theorem p_tupled_row (n : Nat) (l : List Int) (hl : l.length ≤ 1000000) : run Delta (n + 2) f_tupled none [rowD l] = .ok (.val (rowD l)) none := by
  have h0 : shal 1 (rowD l) = true := by simp
  rw [p_tupled (n + 2) _ (Nat.lt_of_le_of_lt (of_decide_eq_true h0) (by omega)) (fit_row hl)]
  simp
theorem p_reading_of_rests (n m : Nat) (p : Int) (C : List (List Int)) (ts : List Int) (hp : 0 < p) (hp2 : p ≤ 1000) (hm : m ≤ 1000) (hC : C.length ≤ 1000) (hc : ∀ c ∈ C, c.length = m) (hl : ts.length = C.length) (ht : ∀ x ∈ ts, 0 ≤ x ∧ x < p) :
    run Delta (n + 6) f_reading_of_rests none [keyD p m C, rowD ts] = .ok (.val (rowD (readIn p m C ts))) none := by
  rw [r_reading_of_rests]
  have hh : ∀ c ∈ C, c.length ≤ 1000000 := fun c h => by rw [hc c h]; omega
  have ht2 : ∀ x ∈ ts, -1000000 ≤ x ∧ x ≤ 1000000 := fun x h => by have := ht x h; omega
  simp -implicitDefEqProofs (disch := first | omega | assumption | solve_by_elim) [-Int.natCast_ediv, -Int.natCast_emod, -List.map_take, -List.map_drop, -List.map_reverse, -List.map_append, -List.map_set, -List.map_replicate, -List.map_map, -List.map_dropLast, -Int.natCast_add, -Int.natCast_mul, snoc_map, nc_add, nc_mul, nc_add1, nc_add2, nc_1add, slT_to, slL_to, slT_from, slL_from, slT_mid, slL_mid, b_reading_of_rests, p_tupled_key, p_tupled_row, hl, p_read_in, ht]

end K79
end
section
set_option maxRecDepth 100000
set_option maxHeartbeats 1000000
namespace K79
open DL PySem
def there (C : List (List Int)) (t : Nat) : List Nat := (C.zipIdx.filter fun q => !decide (nth q.1 t = 0)).map (·.2)
def spanOf : List Nat → Option (Nat × Nat)
  | [] => none
  | a :: l => some (a, (a :: l).getLast (by simp))
def spanAt (C : List (List Int)) (t : Nat) : Option (Nat × Nat) := spanOf (there C t)
def spans (m : Nat) (C : List (List Int)) : List (Option (Nat × Nat)) := (List.range m).map (spanAt C)
def spanD : Option (Nat × Nat) → D
  | none => .non
  | some q => .tup [.int (q.1 : Nat), .int (q.2 : Nat)]
theorem there_D (C : List (List Int)) (t : Nat) : (C.zipIdx.filter fun q => !decide (nth q.1 t = 0)).map (fun q => D.int (q.2 : Nat)) = (there C t).map fun k : Nat => D.int k := by unfold there; rw [List.map_map]; rfl
theorem row_spans_loop (n m : Nat) (key : D) (C : List (List Int)) (hk : ∃ a b, key = .tup [a, b, .tup (C.map rowD)]) (hm : m ≤ 1000) (hC : C.length ≤ 1000) (hc : ∀ c ∈ C, c.length = m) (L : Ss) (hL : L = L_row_spans_0 ∨ L = L__law_spans_of_0) :
   ∃ a b, forLoop (forB (.name 2) (execSs (run Delta n) L)) ((List.range m).map fun t : Nat => D.int (t : Int)) [vD key, mD [], none, none, none, none] = .ok .next [vD key, mD ((List.range m).map fun t => spanD (spanAt C t)), a, b, none, none] := by
  obtain ⟨ka, kb, rfl⟩ := hk
  obtain ⟨σ, L⟩ := for_pre' (b := forB (.name 2) (execSs (run Delta n) L)) (fun t : Nat => D.int (t : Int))
    (fun pre (σ : Option Sl × Option Sl) => [vD (.tup [ka, kb, .tup (C.map rowD)]), mD (pre.map fun t => spanD (spanAt C t)), σ.1, σ.2, none, none]) (List.range m) (none, none) fun pre t post σ hs => by
      obtain ⟨hpre, ht⟩ := pre_range hs
      have hl : pre.length ≤ 1000 := by rw [hpre, List.length_range]; omega
      have h3 : ∀ q ∈ C.zipIdx, (t : Int) < q.1.length := fun q hq => by
        have h := hc q.1 (by rw [(List.mem_zipIdx (x := q.1) (i := q.2) hq).2.2]; exact List.getElem_mem _)
        omega
      rw [List.map_append]
      cases hth : there C t with
      | nil =>
        rcases hL with rfl | rfl
        · simp -implicitDefEqProofs (disch := first | omega | assumption | solve_by_elim) [-Int.natCast_ediv, -Int.natCast_emod, -List.map_take, -List.map_drop, -List.map_reverse, -List.map_append, -List.map_set, -List.map_replicate, -List.map_map, -List.map_dropLast, -Int.natCast_add, -Int.natCast_mul, snoc_map, nc_add, nc_mul, nc_add1, nc_add2, nc_1add, slT_to, slL_to, slT_from, slL_from, slT_mid, slL_mid, forB, L_row_spans_0, atD_nth, there_D, hth, spanAt, spanOf, spanD]
        · simp -implicitDefEqProofs (disch := first | omega | assumption | solve_by_elim) [-Int.natCast_ediv, -Int.natCast_emod, -List.map_take, -List.map_drop, -List.map_reverse, -List.map_append, -List.map_set, -List.map_replicate, -List.map_map, -List.map_dropLast, -Int.natCast_add, -Int.natCast_mul, snoc_map, nc_add, nc_mul, nc_add1, nc_add2, nc_1add, slT_to, slL_to, slT_from, slL_from, slT_mid, slL_mid, forB, L__law_spans_of_0, atD_nth, there_D, hth, spanAt, spanOf, spanD]
      | cons x l =>
        have hg : atD (D.int (x : Int) :: l.map fun k : Nat => D.int k) (-1) = some (.int ((x :: l).getLast (by simp) : Nat)) := atD_last (fun k : Nat => D.int k) (x :: l) (by simp)
        rcases hL with rfl | rfl
        · simp -implicitDefEqProofs (disch := first | omega | assumption | solve_by_elim) [-Int.natCast_ediv, -Int.natCast_emod, -List.map_take, -List.map_drop, -List.map_reverse, -List.map_append, -List.map_set, -List.map_replicate, -List.map_map, -List.map_dropLast, -Int.natCast_add, -Int.natCast_mul, snoc_map, nc_add, nc_mul, nc_add1, nc_add2, nc_1add, slT_to, slL_to, slT_from, slL_from, slT_mid, slL_mid, forB, L_row_spans_0, atD_nth, there_D, hth, spanAt, spanOf, spanD, hg]
        · simp -implicitDefEqProofs (disch := first | omega | assumption | solve_by_elim) [-Int.natCast_ediv, -Int.natCast_emod, -List.map_take, -List.map_drop, -List.map_reverse, -List.map_append, -List.map_set, -List.map_replicate, -List.map_map, -List.map_dropLast, -Int.natCast_add, -Int.natCast_mul, snoc_map, nc_add, nc_mul, nc_add1, nc_add2, nc_1add, slT_to, slL_to, slT_from, slL_from, slT_mid, slL_mid, forB, L__law_spans_of_0, atD_nth, there_D, hth, spanAt, spanOf, spanD, hg]
  exact ⟨σ.1, σ.2, L⟩
theorem p_row_spans (n m : Nat) (p : Int) (C : List (List Int)) (hm : m ≤ 1000) (hC : C.length ≤ 1000) (hc : ∀ c ∈ C, c.length = m) :
    run Delta (n + 1) f_row_spans none [keyD p m C] = .ok (.own ((spans m C).map spanD)) none := by
  rw [r_row_spans]
  obtain ⟨a, b, L⟩ := row_spans_loop n m (keyD p m C) C ⟨_, _, rfl⟩ hm hC hc _ (.inl rfl)
  simp -implicitDefEqProofs (disch := first | omega | assumption) [-Int.natCast_ediv, -Int.natCast_emod, -List.map_take, -List.map_drop, -List.map_reverse, -List.map_append, -List.map_set, -List.map_replicate, -List.map_map, -List.map_dropLast, -Int.natCast_add, -Int.natCast_mul, snoc_map, nc_add, nc_mul, nc_add1, nc_add2, nc_1add, slT_to, slL_to, slT_from, slL_from, slT_mid, slL_mid, b_row_spans, range0, L]
  simp [spans, List.map_map, Function.comp]
theorem p__law_spans_of (n m : Nat) (p : Int) (C : List (List Int)) (hm : m ≤ 1000) (hC : C.length ≤ 1000) (hc : ∀ c ∈ C, c.length = m) :
    run Delta (n + 1) f__law_spans_of none [keyD p m C] = .ok (.own ((spans m C).map spanD)) none := by
  rw [r__law_spans_of]
  obtain ⟨a, b, L⟩ := row_spans_loop n m (keyD p m C) C ⟨_, _, rfl⟩ hm hC hc _ (.inr rfl)
  simp -implicitDefEqProofs (disch := first | omega | assumption) [-Int.natCast_ediv, -Int.natCast_emod, -List.map_take, -List.map_drop, -List.map_reverse, -List.map_append, -List.map_set, -List.map_replicate, -List.map_map, -List.map_dropLast, -Int.natCast_add, -Int.natCast_mul, snoc_map, nc_add, nc_mul, nc_add1, nc_add2, nc_1add, slT_to, slL_to, slT_from, slL_from, slT_mid, slL_mid, b__law_spans_of, range0, L]
  simp [spans, List.map_map, Function.comp]

end K79
end
section
set_option maxRecDepth 100000
set_option maxHeartbeats 1000000
namespace K79
open DL PySem
def isOpen (k : Nat) : Option (Nat × Nat) → Bool
  | none => false
  | some s => decide (s.1 < k ∧ k ≤ s.2)
def isEnd (k : Nat) : Option (Nat × Nat) → Bool
  | none => false
  | some s => decide (s.2 = k)
def openAt (S : List (Option (Nat × Nat))) (k : Nat) : List Nat := (S.zipIdx.filter fun q => isOpen k q.1).map (·.2)
def endAt (S : List (Option (Nat × Nat))) (k : Nat) : List Nat := (S.zipIdx.filter fun q => isEnd k q.1).map (·.2)
theorem p_open_between (n k : Nat) (S : List (Option (Nat × Nat))) (hS : S.length ≤ 1000) : run Delta (n + 1) f_open_between none [.lst (S.map spanD), .int k] = .ok (.val (.tup (natsD (openAt S k)))) none := by
  rw [r_open_between]
  simp -implicitDefEqProofs (disch := first | omega | assumption) [-Int.natCast_ediv, -Int.natCast_emod, -List.map_take, -List.map_drop, -List.map_reverse, -List.map_append, -List.map_set, -List.map_replicate, -List.map_map, -List.map_dropLast, -Int.natCast_add, -Int.natCast_mul, snoc_map, nc_add, nc_mul, nc_add1, nc_add2, nc_1add, slT_to, slL_to, slT_from, slL_from, slT_mid, slL_mid, b_open_between, -comp_G]
  rw [comp_map S.zipIdx _ (fun q => if isOpen k q.1 = true then some (.int (q.2 : Nat)) else none) rfl (le_LIM (by simp; omega)) fun q _ => by
    obtain ⟨_ | s, j⟩ := q
    · simp -implicitDefEqProofs (disch := first | omega | assumption) [-Int.natCast_ediv, -Int.natCast_emod, -List.map_take, -List.map_drop, -List.map_reverse, -List.map_append, -List.map_set, -List.map_replicate, -List.map_map, -List.map_dropLast, -Int.natCast_add, -Int.natCast_mul, snoc_map, nc_add, nc_mul, nc_add1, nc_add2, nc_1add, slT_to, slL_to, slT_from, slL_from, slT_mid, slL_mid, spanD, isOpen, D.isNon]
    · by_cases h1 : s.1 < k
      · by_cases h2 : k ≤ s.2 <;> simp -implicitDefEqProofs (disch := first | omega | assumption) [-Int.natCast_ediv, -Int.natCast_emod, -List.map_take, -List.map_drop, -List.map_reverse, -List.map_append, -List.map_set, -List.map_replicate, -List.map_map, -List.map_dropLast, -Int.natCast_add, -Int.natCast_mul, snoc_map, nc_add, nc_mul, nc_add1, nc_add2, nc_1add, slT_to, slL_to, slT_from, slL_from, slT_mid, slL_mid, spanD, isOpen, D.isNon, h1, h2]
      · simp -implicitDefEqProofs (disch := first | omega | assumption) [-Int.natCast_ediv, -Int.natCast_emod, -List.map_take, -List.map_drop, -List.map_reverse, -List.map_append, -List.map_set, -List.map_replicate, -List.map_map, -List.map_dropLast, -Int.natCast_add, -Int.natCast_mul, snoc_map, nc_add, nc_mul, nc_add1, nc_add2, nc_1add, slT_to, slL_to, slT_from, slL_from, slT_mid, slL_mid, spanD, isOpen, D.isNon, h1], fm_filter]
  simp [openAt, List.map_map]
theorem p__law_open_at (n m k : Nat) (p : Int) (C : List (List Int)) (hm : m ≤ 1000) (hC : C.length ≤ 1000) (hc : ∀ c ∈ C, c.length = m) :
    run Delta (n + 2) f__law_open_at none [keyD p m C, .int k] = .ok (.own (natsD (openAt (spans m C) k))) none := by
  rw [r__law_open_at]
  have hS : (spans m C).length ≤ 1000 := by simp [spans]; omega
  simp -implicitDefEqProofs (disch := first | omega | assumption) [-Int.natCast_ediv, -Int.natCast_emod, -List.map_take, -List.map_drop, -List.map_reverse, -List.map_append, -List.map_set, -List.map_replicate, -List.map_map, -List.map_dropLast, -Int.natCast_add, -Int.natCast_mul, snoc_map, nc_add, nc_mul, nc_add1, nc_add2, nc_1add, slT_to, slL_to, slT_from, slL_from, slT_mid, slL_mid, b__law_open_at, -comp_G, p__law_spans_of]
  rw [comp_map (spans m C).zipIdx _ (fun q => if isOpen k q.1 = true then some (.int (q.2 : Nat)) else none) rfl (le_LIM (by simp; omega)) fun q _ => by
    obtain ⟨_ | s, j⟩ := q
    · simp -implicitDefEqProofs (disch := first | omega | assumption) [-Int.natCast_ediv, -Int.natCast_emod, -List.map_take, -List.map_drop, -List.map_reverse, -List.map_append, -List.map_set, -List.map_replicate, -List.map_map, -List.map_dropLast, -Int.natCast_add, -Int.natCast_mul, snoc_map, nc_add, nc_mul, nc_add1, nc_add2, nc_1add, slT_to, slL_to, slT_from, slL_from, slT_mid, slL_mid, spanD, isOpen, D.isNon]
    · by_cases h1 : s.1 < k
      · by_cases h2 : k ≤ s.2 <;> simp -implicitDefEqProofs (disch := first | omega | assumption) [-Int.natCast_ediv, -Int.natCast_emod, -List.map_take, -List.map_drop, -List.map_reverse, -List.map_append, -List.map_set, -List.map_replicate, -List.map_map, -List.map_dropLast, -Int.natCast_add, -Int.natCast_mul, snoc_map, nc_add, nc_mul, nc_add1, nc_add2, nc_1add, slT_to, slL_to, slT_from, slL_from, slT_mid, slL_mid, spanD, isOpen, D.isNon, h1, h2]
      · simp -implicitDefEqProofs (disch := first | omega | assumption) [-Int.natCast_ediv, -Int.natCast_emod, -List.map_take, -List.map_drop, -List.map_reverse, -List.map_append, -List.map_set, -List.map_replicate, -List.map_map, -List.map_dropLast, -Int.natCast_add, -Int.natCast_mul, snoc_map, nc_add, nc_mul, nc_add1, nc_add2, nc_1add, slT_to, slL_to, slT_from, slL_from, slT_mid, slL_mid, spanD, isOpen, D.isNon, h1], fm_filter]
  simp [openAt, List.map_map]
theorem p_widths (n m : Nat) (p : Int) (C : List (List Int)) (hm : m ≤ 1000) (hC : C.length ≤ 1000) (hc : ∀ c ∈ C, c.length = m) :
    run Delta (n + 5) f_widths none [keyD p m C] = .ok (.val (.tup (natsD ((List.range (C.length + 1)).map fun k => (openAt (spans m C) k).length)))) none := by
  rw [r_widths]
  have hS : (spans m C).length ≤ 1000 := by simp [spans]; omega
  have hh : ∀ c ∈ C, c.length ≤ 1000000 := fun c h => by rw [hc c h]; omega
  simp -implicitDefEqProofs (disch := first | omega | assumption) [-Int.natCast_ediv, -Int.natCast_emod, -List.map_take, -List.map_drop, -List.map_reverse, -List.map_append, -List.map_set, -List.map_replicate, -List.map_map, -List.map_dropLast, -Int.natCast_add, -Int.natCast_mul, snoc_map, nc_add, nc_mul, nc_add1, nc_add2, nc_1add, slT_to, slL_to, slT_from, slL_from, slT_mid, slL_mid, b_widths, p_tupled_key, p_row_spans, range0, -comp_G]
  rw [comp_frz [vD (keyD p m C), vD (keyD p m C), vD (.lst ((spans m C).map spanD)), none] (List.range (C.length + 1)) _ (fun k => some (.int ((openAt (spans m C) k).length : Nat))) rfl (le_LIM (by simp; omega)) (by simp)
    (fun k _ => by simp -implicitDefEqProofs (disch := first | omega | assumption) [-Int.natCast_ediv, -Int.natCast_emod, -List.map_take, -List.map_drop, -List.map_reverse, -List.map_append, -List.map_set, -List.map_replicate, -List.map_map, -List.map_dropLast, -Int.natCast_add, -Int.natCast_mul, snoc_map, nc_add, nc_mul, nc_add1, nc_add2, nc_1add, slT_to, slL_to, slT_from, slL_from, slT_mid, slL_mid, p_open_between]) (fun k _ => by simp -implicitDefEqProofs (disch := first | omega | assumption) [-Int.natCast_ediv, -Int.natCast_emod, -List.map_take, -List.map_drop, -List.map_reverse, -List.map_append, -List.map_set, -List.map_replicate, -List.map_map, -List.map_dropLast, -Int.natCast_add, -Int.natCast_mul, snoc_map, nc_add, nc_mul, nc_add1, nc_add2, nc_1add, slT_to, slL_to, slT_from, slL_from, slT_mid, slL_mid, p_open_between]), fm_some]
  simp -implicitDefEqProofs (disch := first | omega | assumption) [-Int.natCast_ediv, -Int.natCast_emod, -List.map_take, -List.map_drop, -List.map_reverse, -List.map_append, -List.map_set, -List.map_replicate, -List.map_map, -List.map_dropLast, -Int.natCast_add, -Int.natCast_mul, snoc_map, nc_add, nc_mul, nc_add1, nc_add2, nc_1add, slT_to, slL_to, slT_from, slL_from, slT_mid, slL_mid, restoreE]
  rw [natsD, List.map_map]; rfl
theorem p_widest (n m : Nat) (p : Int) (C : List (List Int)) (hm : m ≤ 1000) (hC : C.length ≤ 1000) (hc : ∀ c ∈ C, c.length = m) :
    run Delta (n + 6) f_widest none [keyD p m C] = .ok (.val (.int (maxL (((List.range (C.length + 1)).map fun k => (openAt (spans m C) k).length).map fun k : Nat => (k : Int))))) none := by
  rw [r_widest]
  simp -implicitDefEqProofs (disch := first | omega | assumption | (simp <;> omega)) [-Int.natCast_ediv, -Int.natCast_emod, -List.map_take, -List.map_drop, -List.map_reverse, -List.map_append, -List.map_set, -List.map_replicate, -List.map_map, -List.map_dropLast, -Int.natCast_add, -Int.natCast_mul, snoc_map, nc_add, nc_mul, nc_add1, nc_add2, nc_1add, slT_to, slL_to, slT_from, slL_from, slT_mid, slL_mid, b_widest, p_widths, max_tN]
theorem p_closing_rows (n m k : Nat) (p : Int) (C : List (List Int)) (hm : m ≤ 1000) (hC : C.length ≤ 1000) (hc : ∀ c ∈ C, c.length = m) (hk : k < C.length) :
    run Delta (n + 5) f_closing_rows none [keyD p m C, .int k] = .ok (.val (.tup (natsD (endAt (spans m C) k)))) none := by
  rw [r_closing_rows]
  have hS : (spans m C).length ≤ 1000 := by simp [spans]; omega
  have hh : ∀ c ∈ C, c.length ≤ 1000000 := fun c h => by rw [hc c h]; omega
  have hs : run Delta (n + 4) f_sure_cell_of none [keyD p m C, .int k] = .ok (.val .non) none := by
    rw [r_sure_cell_of]
    simp -implicitDefEqProofs (disch := first | omega | assumption) [-Int.natCast_ediv, -Int.natCast_emod, -List.map_take, -List.map_drop, -List.map_reverse, -List.map_append, -List.map_set, -List.map_replicate, -List.map_map, -List.map_dropLast, -Int.natCast_add, -Int.natCast_mul, snoc_map, nc_add, nc_mul, nc_add1, nc_add2, nc_1add, slT_to, slL_to, slT_from, slL_from, slT_mid, slL_mid, b_sure_cell_of, Nat.not_le.mpr hk]
  simp -implicitDefEqProofs (disch := first | omega | assumption) [-Int.natCast_ediv, -Int.natCast_emod, -List.map_take, -List.map_drop, -List.map_reverse, -List.map_append, -List.map_set, -List.map_replicate, -List.map_map, -List.map_dropLast, -Int.natCast_add, -Int.natCast_mul, snoc_map, nc_add, nc_mul, nc_add1, nc_add2, nc_1add, slT_to, slL_to, slT_from, slL_from, slT_mid, slL_mid, b_closing_rows, p_tupled_key, p_row_spans, hs, -comp_G]
  rw [comp_map (spans m C).zipIdx _ (fun q => if isEnd k q.1 = true then some (.int (q.2 : Nat)) else none) rfl (le_LIM (by simp; omega)) fun q _ => by
    obtain ⟨_ | s, j⟩ := q
    · simp -implicitDefEqProofs (disch := first | omega | assumption) [-Int.natCast_ediv, -Int.natCast_emod, -List.map_take, -List.map_drop, -List.map_reverse, -List.map_append, -List.map_set, -List.map_replicate, -List.map_map, -List.map_dropLast, -Int.natCast_add, -Int.natCast_mul, snoc_map, nc_add, nc_mul, nc_add1, nc_add2, nc_1add, slT_to, slL_to, slT_from, slL_from, slT_mid, slL_mid, spanD, isEnd, D.isNon]
    · by_cases h1 : s.2 = k <;> simp -implicitDefEqProofs (disch := first | omega | assumption) [-Int.natCast_ediv, -Int.natCast_emod, -List.map_take, -List.map_drop, -List.map_reverse, -List.map_append, -List.map_set, -List.map_replicate, -List.map_map, -List.map_dropLast, -Int.natCast_add, -Int.natCast_mul, snoc_map, nc_add, nc_mul, nc_add1, nc_add2, nc_1add, slT_to, slL_to, slT_from, slL_from, slT_mid, slL_mid, spanD, isEnd, D.isNon, h1], fm_filter]
  simp [endAt, List.map_map]

end K79
end
section
set_option maxRecDepth 100000
set_option maxHeartbeats 1000000
namespace K79
open DL PySem
/-! what the law writes down by itself: columns, sums -/
/-- a column as far as a row has been gone through -/
def colPre (m b : Nat) (pre : List Int) : List Int := (List.range m).map fun t => if b ≤ t then nth pre (t - b) else 0
theorem colPre_nil (m b : Nat) : colPre m b [] = List.replicate m 0 := by
  refine nth_ext (by simp [colPre]) fun i h => ?_
  have hi : i < m := by simpa [colPre] using h
  rw [colPre, nth_rmap _ hi, nth_eq (l := List.replicate m 0) (by rw [List.length_replicate]; exact hi)]
  simp [nth_out]
theorem colPre_app (m b : Nat) (pre : List Int) (x : Int) : colPre m b (pre ++ [x]) = if b + pre.length < m then (colPre m b pre).set (b + pre.length) x else colPre m b pre := by
  have key : ∀ t, (if b ≤ t then nth (pre ++ [x]) (t - b) else 0) = if t = b + pre.length then x else if b ≤ t then nth pre (t - b) else 0 := fun t => by
    by_cases h : b ≤ t
    · rw [if_pos h, if_pos h, nth_app]
      by_cases h2 : t = b + pre.length
      · rw [if_pos h2, if_pos (by omega)]
      · rw [if_neg h2, if_neg (by omega)]
    · rw [if_neg h, if_neg h, if_neg (by omega)]
  by_cases hm : b + pre.length < m
  · rw [if_pos hm, colPre, colPre, set_range]
    exact range_map_congr fun t _ => key t
  · rw [if_neg hm, colPre, colPre]
    refine range_map_congr fun t ht => ?_
    rw [key, if_neg (by omega)]
theorem bcol_pre (m j : Nat) (B : List (List Int)) : bcol m B j = colPre m (j / B.length) (nth B (j % B.length)) := rfl
theorem p__law_columns_so (n m : Nat) (p : Int) (B : List (List Int)) (hm : m ≤ 1000) (hB : 0 < B.length) (hB1 : B.length ≤ 1000) (hh : ∀ r ∈ B, r.length ≤ 1000) :
    run Delta (n + 1) f__law_columns_so none [keyD p m B] = .ok (.val (.tup ((bcols m B).map rowD))) none := by
  rw [r__law_columns_so]
  have hmB : m * B.length ≤ 1000 * 1000 := Nat.mul_le_mul hm hB1
  have inner : ∀ (j : Nat) (acc : List D) (s7 s8 : Option Sl), ∃ σ7 σ8, forLoop (forB (.tup [.name 7, .name 8]) (execSs (run Delta n) L__law_columns_so_0)) (((nth B (j % B.length)).zipIdx 0).map fun q : Int × Nat => D.tup [.int (q.2 : Nat), .int q.1])
      [vD (keyD p m B), vI p, vI m, vD (.tup (B.map rowD)), mD acc, vI j, mD ((List.replicate m (0 : Int)).map .int), s7, s8] = .ok .next [vD (keyD p m B), vI p, vI m, vD (.tup (B.map rowD)), mD acc, vI j, mD ((bcol m B j).map .int), σ7, σ8] := fun j acc s7 s8 => by
    have hj := Nat.mod_lt j hB
    obtain ⟨σ, L⟩ := for_pre' (b := forB (.tup [.name 7, .name 8]) (execSs (run Delta n) L__law_columns_so_0)) (fun q : Int × Nat => D.tup [.int (q.2 : Nat), .int q.1])
      (fun pre (σ : Option Sl × Option Sl) => [vD (keyD p m B), vI p, vI m, vD (.tup (B.map rowD)), mD acc, vI j, mD ((colPre m (j / B.length) (pre.map (·.1))).map .int), σ.1, σ.2]) ((nth B (j % B.length)).zipIdx 0) (s7, s8) fun pre q post σ hs => by
        have hq : q.2 = pre.length := by
          have h1 := pre_nth hs
          have h2 := pre_len hs
          rw [nth_eq h2] at h1
          rw [← h1]; simp
        have hlen : (colPre m (j / B.length) (pre.map (·.1))).length = m := by simp [colPre]
        have happ := colPre_app m (j / B.length) (pre.map (·.1)) q.1
        have hc : ((j / B.length : Nat) : Int) + (q.2 : Int) = ((j / B.length + pre.length : Nat) : Int) := by rw [hq]; simp
        rw [List.length_map] at happ
        rw [List.map_append, List.map_cons, List.map_nil, happ]
        by_cases hlt : j / B.length + pre.length < m
        · have hlt' : j / B.length + q.2 < m := by omega
          have hlt2 : ((j / B.length : Nat) : Int) + (q.2 : Int) < m := by omega
          simp -implicitDefEqProofs (disch := first | omega | assumption) [-Int.natCast_ediv, -Int.natCast_emod, -List.map_take, -List.map_drop, -List.map_reverse, -List.map_append, -List.map_set, -List.map_replicate, -List.map_map, -List.map_dropLast, -Int.natCast_add, -Int.natCast_mul, snoc_map, nc_add, nc_mul, nc_add1, nc_add2, nc_1add, slT_to, slL_to, slT_from, slL_from, slT_mid, slL_mid, forB, L__law_columns_so_0, o_divN, hc, hlt, hlen]
          trace_state
        · have hlt2 : ¬ (((j / B.length : Nat) : Int) + (q.2 : Int) < m) := by omega
          simp -implicitDefEqProofs (disch := first | omega | assumption) [-Int.natCast_ediv, -Int.natCast_emod, -List.map_take, -List.map_drop, -List.map_reverse, -List.map_append, -List.map_set, -List.map_replicate, -List.map_map, -List.map_dropLast, -Int.natCast_add, -Int.natCast_mul, snoc_map, nc_add, nc_mul, nc_add1, nc_add2, nc_1add, slT_to, slL_to, slT_from, slL_from, slT_mid, slL_mid, forB, L__law_columns_so_0, o_divN, hc, hlt, hlen]
          trace_state
    refine ⟨σ.1, σ.2, ?_⟩
    rw [List.map_nil, colPre_nil] at L
    rw [L, bcol_pre]
    simp
  obtain ⟨σ, L⟩ := for_pre' (b := forB (.name 5) (execSs (run Delta n) L__law_columns_so_1)) (fun j : Nat => D.int (j : Int))
    (fun pre (σ : Option Sl × Option Sl × Option Sl × Option Sl) => [vD (keyD p m B), vI p, vI m, vD (.tup (B.map rowD)), mD ((pre.map (bcol m B)).map rowD), σ.1, σ.2.1, σ.2.2.1, σ.2.2.2]) (List.range (m * B.length)) (none, none, none, none) fun pre j post σ hs => by
      obtain ⟨hpre, hj⟩ := pre_range hs
      have hl : pre.length ≤ 1000000 := by rw [hpre, List.length_range]; omega
      have hj2 := Nat.mod_lt j hB
      obtain ⟨σ7, σ8, L⟩ := inner j ((pre.map (bcol m B)).map rowD) σ.2.2.1 σ.2.2.2
      simp -implicitDefEqProofs (disch := first | omega | assumption) [-Int.natCast_ediv, -Int.natCast_emod, -List.map_take, -List.map_drop, -List.map_reverse, -List.map_append, -List.map_set, -List.map_replicate, -List.map_map, -List.map_dropLast, -Int.natCast_add, -Int.natCast_mul, snoc_map, nc_add, nc_mul, nc_add1, nc_add2, nc_1add, slT_to, slL_to, slT_from, slL_from, slT_mid, slL_mid, forB, L__law_columns_so_1, o_divN, o_modN, atD_nth, zrL, L]
  simp only [List.map_nil] at L
  simp -implicitDefEqProofs (disch := first | omega | assumption) [-Int.natCast_ediv, -Int.natCast_emod, -List.map_take, -List.map_drop, -List.map_reverse, -List.map_append, -List.map_set, -List.map_replicate, -List.map_map, -List.map_dropLast, -Int.natCast_add, -Int.natCast_mul, snoc_map, nc_add, nc_mul, nc_add1, nc_add2, nc_1add, slT_to, slL_to, slT_from, slL_from, slT_mid, slL_mid, b__law_columns_so, range0, o_mulL, L]
  simp [bcols]

end K79
end
section
set_option maxRecDepth 100000
set_option maxHeartbeats 1000000
namespace K79
open DL PySem
/-! the slid sum -/
def gD (p : Int) (m : Nat) (G : Nat → Int) : List D := ((List.range m).map fun t => G t % p).map .int
theorem gD_set (p : Int) (m i : Nat) (G : Nat → Int) (x : Int) : ((List.range m).map fun t => G t % p).set i ((G i + x) % p) = (List.range m).map fun t => (G t + if t = i then x else 0) % p := by
  rw [set_range]
  refine range_map_congr fun t _ => ?_
  by_cases h : t = i
  · subst h; rw [if_pos rfl, if_pos rfl]
  · rw [if_neg h, if_neg h, Int.add_zero]
/-- what a row brings, slid -/
def slid (b : Nat) (row : List Int) (t : Nat) : Int := if b ≤ t then nth row (t - b) else 0
theorem slid_app (b : Nat) (row : List Int) (x : Int) (t : Nat) : slid b (row ++ [x]) t = slid b row t + if t = b + row.length then x else 0 := by
  unfold slid
  by_cases h : b ≤ t
  · rw [if_pos h, if_pos h, nth_app]
    by_cases h2 : t = b + row.length
    · rw [if_pos (by omega), if_pos h2, nth_out (by omega)]
      exact (Int.zero_add x).symm
    · rw [if_neg (by omega), if_neg h2, Int.add_zero]
  · rw [if_neg h, if_neg h, if_neg (by omega)]; rfl
theorem slid_nil (b t : Nat) : slid b [] t = 0 := by
  unfold slid
  rw [nth_out (by simp)]
  split <;> rfl
theorem zero_range (m : Nat) (p : Int) : ((List.range m).map fun _ => (0 : Int) % p) = List.replicate m 0 := by
  rw [Int.zero_emod, List.map_const', List.length_range]
section
variable (n m : Nat) (p : Int) (B : List (List Int)) (rs : List Int) (hp : 0 < p) (hp2 : p ≤ 1000) (hm : m ≤ 1000) (hB : 0 < B.length) (hB1 : B.length ≤ 1000) (hd : ∀ r ∈ B, ∀ x ∈ r, 0 ≤ x ∧ x < p) (hrs : rs.length = m * B.length)
include hp hp2 hm hB hB1 hd hrs
theorem slid_inner (k pl : Nat) (row : List Int) (hrow : row ∈ B) (hk : k < B.length) (hpl : pl < m) (s9 s10 : Option Sl) (G : Nat → Int) : ∃ σ9 σ10, forLoop (forB (.tup [.name 9, .name 10]) (execSs (run Delta n) L__law_slid_sum_0)) ((row.zipIdx 0).map fun q : Int × Nat => D.tup [.int (q.2 : Nat), .int q.1])
      [vD (keyD p m B), vD (rowD rs), vI p, vI m, vD (.tup (B.map rowD)), mD (gD p m G), vI k, vD (rowD row), vI pl, s9, s10] = .ok .next [vD (keyD p m B), vD (rowD rs), vI p, vI m, vD (.tup (B.map rowD)), mD (gD p m fun t => G t + slid pl row t * nth rs (pl * B.length + k)), vI k, vD (rowD row), vI pl, σ9, σ10] := by
  have hidx : pl * B.length + k < rs.length := by
    rw [hrs]
    have : (pl + 1) * B.length ≤ m * B.length := Nat.mul_le_mul_right _ hpl
    rw [Nat.add_mul] at this
    omega
  obtain ⟨σ, L⟩ := for_pre' (b := forB (.tup [.name 9, .name 10]) (execSs (run Delta n) L__law_slid_sum_0)) (fun q : Int × Nat => D.tup [.int (q.2 : Nat), .int q.1])
    (fun pre (σ : Option Sl × Option Sl) => [vD (keyD p m B), vD (rowD rs), vI p, vI m, vD (.tup (B.map rowD)), mD (gD p m fun t => G t + slid pl (pre.map (·.1)) t * nth rs (pl * B.length + k)), vI k, vD (rowD row), vI pl, σ.1, σ.2]) (row.zipIdx 0) (s9, s10) fun pre q post σ hs => by
      have hq : q.2 = pre.length := by
        have h1 := pre_nth hs
        have h2 := pre_len hs
        rw [nth_eq h2] at h1
        rw [← h1]; simp
      have hx : q.1 ∈ row := by
        have h1 := pre_mem hs
        rw [(List.mem_zipIdx (x := q.1) (i := q.2) h1).2.2]; exact List.getElem_mem _
      have hx2 := hd row hrow q.1 hx
      have key : ∀ t, G t + slid pl ((pre ++ [q]).map (·.1)) t * nth rs (pl * B.length + k) = (G t + slid pl (pre.map (·.1)) t * nth rs (pl * B.length + k)) + if t = pl + q.2 then q.1 * nth rs (pl * B.length + k) else 0 := fun t => by
        rw [List.map_append, List.map_cons, List.map_nil, slid_app, Int.add_mul, hq, List.length_map]
        by_cases h : t = pl + pre.length
        · rw [if_pos h, if_pos h]; omega
        · rw [if_neg h, if_neg h]; omega
      have hlen : ∀ G : Nat → Int, ((List.range m).map fun t => G t % p).length = m := fun G => by simp
      simp only [key]
      generalize hG : (fun t => G t + slid pl (pre.map (·.1)) t * nth rs (pl * B.length + k)) = G2
      have hG2 : ∀ t, G t + slid pl (pre.map (·.1)) t * nth rs (pl * B.length + k) = G2 t := fun t => by rw [← hG]
      simp only [hG2]
      unfold gD
      by_cases hlt : pl + q.2 < m
      · have hn : nth ((List.range m).map fun t => G2 t % p) (pl + q.2) = G2 (pl + q.2) % p := nth_rmap _ hlt
        have hset := gD_set p m (pl + q.2) G2 (q.1 * nth rs (pl * B.length + k))
        have hl := hlen G2
        generalize (List.range m).map (fun t => G2 t % p) = Y at hn hset hl ⊢
        simp -implicitDefEqProofs (disch := first | omega | assumption) [-Int.natCast_ediv, -Int.natCast_emod, -List.map_take, -List.map_drop, -List.map_reverse, -List.map_append, -List.map_set, -List.map_replicate, -List.map_map, -List.map_dropLast, -Int.natCast_add, -Int.natCast_mul, snoc_map, nc_add, nc_mul, nc_add1, nc_add2, nc_1add, slT_to, slL_to, slT_from, slL_from, slT_mid, slL_mid, forB, L__law_slid_sum_0, hlt, hl, atD_nth, o_mulL, hn, o_mod, hset]
      · simp -implicitDefEqProofs (disch := first | omega | assumption) [-Int.natCast_ediv, -Int.natCast_emod, -List.map_take, -List.map_drop, -List.map_reverse, -List.map_append, -List.map_set, -List.map_replicate, -List.map_map, -List.map_dropLast, -Int.natCast_add, -Int.natCast_mul, snoc_map, nc_add, nc_mul, nc_add1, nc_add2, nc_1add, slT_to, slL_to, slT_from, slL_from, slT_mid, slL_mid, forB, L__law_slid_sum_0, hlt]
        congr 1
        refine range_map_congr fun t ht => ?_
        rw [if_neg (by omega), Int.add_zero]
  refine ⟨σ.1, σ.2, ?_⟩
  have h0 : ∀ t, slid pl (([] : List (Int × Nat)).map (·.1)) t = 0 := fun t => slid_nil pl t
  have h1 : (row.zipIdx 0).map (·.1) = row := by simp
  simp only [h0, h1, Int.zero_mul, Int.add_zero] at L
  exact L
theorem slid_mid (k : Nat) (row : List Int) (hrow : row ∈ B) (hk : k < B.length) (s8 s9 s10 : Option Sl) (G : Nat → Int) : ∃ σ8 σ9 σ10, forLoop (forB (.name 8) (execSs (run Delta n) L__law_slid_sum_1)) ((List.range m).map fun pl : Nat => D.int (pl : Int))
      [vD (keyD p m B), vD (rowD rs), vI p, vI m, vD (.tup (B.map rowD)), mD (gD p m G), vI k, vD (rowD row), s8, s9, s10] = .ok .next [vD (keyD p m B), vD (rowD rs), vI p, vI m, vD (.tup (B.map rowD)), mD (gD p m fun t => G t + dSum m fun pl => slid pl row t * nth rs (pl * B.length + k)), vI k, vD (rowD row), σ8, σ9, σ10] := by
  obtain ⟨σ, L⟩ := for_pre' (b := forB (.name 8) (execSs (run Delta n) L__law_slid_sum_1)) (fun pl : Nat => D.int (pl : Int))
    (fun pre (σ : Option Sl × Option Sl × Option Sl) => [vD (keyD p m B), vD (rowD rs), vI p, vI m, vD (.tup (B.map rowD)), mD (gD p m fun t => G t + dSum pre.length fun pl => slid pl row t * nth rs (pl * B.length + k)), vI k, vD (rowD row), σ.1, σ.2.1, σ.2.2]) (List.range m) (s8, s9, s10) fun pre pl post σ hs => by
      obtain ⟨hpre, hpl⟩ := pre_range hs
      have hl : pre.length = pl := by rw [hpre, List.length_range]
      obtain ⟨σ9, σ10, L⟩ := slid_inner n m p B rs hp hp2 hm hB hB1 hd hrs k pl row hrow hk hpl σ.2.1 σ.2.2 (fun t => G t + dSum pre.length fun pl => slid pl row t * nth rs (pl * B.length + k))
      have e : ∀ t, G t + (dSum (pre ++ [pl]).length fun pl => slid pl row t * nth rs (pl * B.length + k)) = (G t + dSum pre.length fun pl => slid pl row t * nth rs (pl * B.length + k)) + slid pl row t * nth rs (pl * B.length + k) := fun t => by
        rw [List.length_append, List.length_singleton, dSum, hl]; omega
      simp only [e]
      simp -implicitDefEqProofs (disch := first | omega | assumption) [-Int.natCast_ediv, -Int.natCast_emod, -List.map_take, -List.map_drop, -List.map_reverse, -List.map_append, -List.map_set, -List.map_replicate, -List.map_map, -List.map_dropLast, -Int.natCast_add, -Int.natCast_mul, snoc_map, nc_add, nc_mul, nc_add1, nc_add2, nc_1add, slT_to, slL_to, slT_from, slL_from, slT_mid, slL_mid, forB, L__law_slid_sum_1, L]
  refine ⟨σ.1, σ.2.1, σ.2.2, ?_⟩
  rw [List.length_range] at L
  simp only [List.length_nil, dSum, Int.add_zero] at L
  exact L
theorem slid_outer : ∃ σ6 σ7 σ8 σ9 σ10, forLoop (forB (.tup [.name 6, .name 7]) (execSs (run Delta n) L__law_slid_sum_2)) ((B.zipIdx 0).map fun q : List Int × Nat => D.tup [.int (q.2 : Nat), rowD q.1])
      [vD (keyD p m B), vD (rowD rs), vI p, vI m, vD (.tup (B.map rowD)), mD (gD p m fun _ => 0), none, none, none, none, none] = .ok .next [vD (keyD p m B), vD (rowD rs), vI p, vI m, vD (.tup (B.map rowD)), mD (gD p m fun t => dSum B.length fun k => dSum m fun pl => slid pl (nth B k) t * nth rs (pl * B.length + k)), σ6, σ7, σ8, σ9, σ10] := by
  obtain ⟨σ, L⟩ := for_pre' (b := forB (.tup [.name 6, .name 7]) (execSs (run Delta n) L__law_slid_sum_2)) (fun q : List Int × Nat => D.tup [.int (q.2 : Nat), rowD q.1])
    (fun pre (σ : Option Sl × Option Sl × Option Sl × Option Sl × Option Sl) => [vD (keyD p m B), vD (rowD rs), vI p, vI m, vD (.tup (B.map rowD)), mD (gD p m fun t => dSum pre.length fun k => dSum m fun pl => slid pl (nth B k) t * nth rs (pl * B.length + k)), σ.1, σ.2.1, σ.2.2.1, σ.2.2.2.1, σ.2.2.2.2]) (B.zipIdx 0) (none, none, none, none, none) fun pre q post σ hs => by
      have h2 := pre_len hs
      have h3 : pre.length < B.length := by simpa using h2
      have hq : q = (nth B pre.length, pre.length) := by
        have h1 := pre_nth hs
        rw [nth_eq h2] at h1
        rw [← h1, nth_eq h3]; simp
      have hrow : nth B pre.length ∈ B := nth_mem h3
      obtain ⟨σ8, σ9, σ10, L⟩ := slid_mid n m p B rs hp hp2 hm hB hB1 hd hrs pre.length (nth B pre.length) hrow h3 σ.2.2.1 σ.2.2.2.1 σ.2.2.2.2 (fun t => dSum pre.length fun k => dSum m fun pl => slid pl (nth B k) t * nth rs (pl * B.length + k))
      have e : ∀ t, (dSum (pre ++ [q]).length fun k => dSum m fun pl => slid pl (nth B k) t * nth rs (pl * B.length + k)) = (dSum pre.length fun k => dSum m fun pl => slid pl (nth B k) t * nth rs (pl * B.length + k)) + dSum m fun pl => slid pl (nth B pre.length) t * nth rs (pl * B.length + pre.length) := fun t => by
        rw [List.length_append, List.length_singleton, dSum]
      simp only [e]
      subst hq
      simp -implicitDefEqProofs (disch := first | omega | assumption) [-Int.natCast_ediv, -Int.natCast_emod, -List.map_take, -List.map_drop, -List.map_reverse, -List.map_append, -List.map_set, -List.map_replicate, -List.map_map, -List.map_dropLast, -Int.natCast_add, -Int.natCast_mul, snoc_map, nc_add, nc_mul, nc_add1, nc_add2, nc_1add, slT_to, slL_to, slT_from, slL_from, slT_mid, slL_mid, forB, L__law_slid_sum_2, range0, L]
  refine ⟨σ.1, σ.2.1, σ.2.2.1, σ.2.2.2.1, σ.2.2.2.2, ?_⟩
  rw [List.length_zipIdx] at L
  simp only [List.length_nil, dSum] at L
  exact L
theorem p__law_slid_sum : run Delta (n + 1) f__law_slid_sum none [keyD p m B, rowD rs] = .ok (.val (rowD ((List.range m).map fun t => (dSum B.length fun k => dSum m fun pl => slid pl (nth B k) t * nth rs (pl * B.length + k)) % p))) none := by
  rw [r__law_slid_sum]
  obtain ⟨σ6, σ7, σ8, σ9, σ10, L⟩ := slid_outer n m p B rs hp hp2 hm hB hB1 hd hrs
  have h0 : (List.replicate m (0 : Int)).map D.int = gD p m fun _ => 0 := by
    unfold gD
    rw [show ((List.range m).map fun t => (0 : Int) % p) = List.replicate m 0 from zero_range m p]
  simp -implicitDefEqProofs (disch := first | omega | assumption) [-Int.natCast_ediv, -Int.natCast_emod, -List.map_take, -List.map_drop, -List.map_reverse, -List.map_append, -List.map_set, -List.map_replicate, -List.map_map, -List.map_dropLast, -Int.natCast_add, -Int.natCast_mul, snoc_map, nc_add, nc_mul, nc_add1, nc_add2, nc_1add, slT_to, slL_to, slT_from, slL_from, slT_mid, slL_mid, b__law_slid_sum, zrL, h0, L]
  rfl
/-- the law's sum is the reading -/
theorem slid_read (hlen : ∀ r ∈ B, r.length ≤ 1000) : ((List.range m).map fun t => (dSum B.length fun k => dSum m fun pl => slid pl (nth B k) t * nth rs (pl * B.length + k)) % p) = readIn p m (bcols m B) rs := by
  unfold readIn
  refine range_map_congr fun t ht => ?_
  congr 1
  have hbl : rs.length = (bcols m B).length := by rw [hrs]; simp [bcols]
  rw [sum_zip rs (bcols m B) hbl fun a b => a * nth b t, hrs, dSum_prod, dSum_comm]
  refine dSum_congr fun pl hpl => dSum_congr fun k hk => ?_
  have hj : pl * B.length + k < m * B.length := by
    have : (pl + 1) * B.length ≤ m * B.length := Nat.mul_le_mul_right _ hpl
    rw [Nat.add_mul] at this
    omega
  have h1 : (pl * B.length + k) / B.length = pl := by rw [Nat.mul_comm, Nat.mul_add_div hB, Nat.div_eq_of_lt hk, Nat.add_zero]
  have h2 : (pl * B.length + k) % B.length = k := by rw [Nat.mul_comm, Nat.mul_add_mod, Nat.mod_eq_of_lt hk]
  rw [bcols, nth_rmap _ hj, bcol, nth_rmap _ ht, h1, h2, Int.mul_comm]
  rfl
end

end K79
end
section
set_option maxRecDepth 100000
set_option maxHeartbeats 1000000
namespace K79
open DL PySem
/-! cutting the block's rows -/
def cutN (len m : Nat) (r : List Int) : List Int := (List.range len).map fun t => if t < m then nth r t else 0
theorem nth_cutN (len m : Nat) (r : List Int) (i : Nat) : nth (cutN len m r) i = if i < len ∧ i < m then nth r i else 0 := by
  by_cases h : i < len
  · rw [cutN, nth_rmap _ h]
    by_cases h2 : i < m
    · rw [if_pos h2, if_pos ⟨h, h2⟩]
    · rw [if_neg h2, if_neg (fun z => h2 z.2)]
  · rw [nth_out (by simp [cutN]; omega), if_neg (fun z => h z.1)]; rfl
def goodRow (len m : Nat) (r : List Int) : Prop := ∀ i, len ≤ i → i < m → nth r i = 0
theorem bcols_cut (len m : Nat) (B : List (List Int)) (hm : 0 < m) : bcols m (B.map (cutN len m)) = bcols m B ↔ ∀ r ∈ B, goodRow len m r := by
  have hl : (B.map (cutN len m)).length = B.length := List.length_map _
  constructor
  · intro h r hr i h1 h2
    obtain ⟨k, hk, rfl⟩ := List.getElem_of_mem hr
    have hk2 : k < m * B.length := Nat.lt_of_lt_of_le hk (Nat.le_mul_of_pos_left _ hm)
    have h3 : nth (bcols m (B.map (cutN len m))) k = nth (bcols m B) k := by rw [h]
    rw [bcols, bcols, hl, nth_rmap _ hk2, nth_rmap _ hk2] at h3
    have h4 : nth (bcol m (B.map (cutN len m)) k) i = nth (bcol m B k) i := by rw [h3]
    rw [bcol, bcol, hl, nth_rmap _ h2, nth_rmap _ h2, Nat.div_eq_of_lt hk, Nat.mod_eq_of_lt hk, if_pos (Nat.zero_le _), if_pos (Nat.zero_le _), Nat.sub_zero, nth_map _ hk, nth_cutN, if_neg (by omega), nth_eq hk] at h4
    exact h4.symm
  · intro h
    unfold bcols
    rw [hl]
    refine range_map_congr fun j hj => ?_
    have hB : 0 < B.length := Nat.pos_of_mul_pos_left (Nat.lt_of_le_of_lt (Nat.zero_le _) hj)
    have hk := Nat.mod_lt j hB
    unfold bcol
    rw [hl]
    refine range_map_congr fun t ht => ?_
    rw [nth_map _ hk]
    generalize j / B.length = pl
    by_cases h1 : pl ≤ t
    · rw [if_pos h1, if_pos h1, nth_cutN]
      by_cases h2 : t - pl < len
      · rw [if_pos ⟨h2, by omega⟩]
      · rw [if_neg (fun z => h2 z.1), h _ (nth_mem hk) _ (by omega) (by omega)]
    · rw [if_neg h1, if_neg h1]
theorem cutRow_N (len m : Nat) (c r : List Int) (hc : c.length = m) (h : ∀ t, t < m → nth c t = nth r t) : cutRow len m c = cutN len m r := by
  refine nth_ext (by simp [cutRow, cutN, hc]; omega) fun i hi => ?_
  have hi2 : i < len := by simp [cutRow, hc] at hi; omega
  rw [nth_cutN, cutRow]
  by_cases h1 : i < m
  · rw [if_pos ⟨hi2, h1⟩, ← h i h1, nth_eq (by simp [hc]; omega), nth_eq (by omega), List.getElem_append_left (by simp [hc]; omega)]
    simp
  · rw [if_neg (by omega), nth_eq (by simp [hc]; omega), List.getElem_append_right (by simp [hc]; omega)]
    simp
theorem cutRows_N (len m : Nat) (B : List (List Int)) (hm : 0 < m) : cutRows len m (bcols m B) = B.map (cutN len m) := by
  have h0 : (bcols m B).length = m * B.length := by simp [bcols]
  have h1 : m * B.length / m = B.length := Nat.mul_div_cancel_left _ hm
  have hle : B.length ≤ m * B.length := Nat.le_mul_of_pos_left _ hm
  unfold cutRows
  rw [h0, h1]
  refine nth_ext (by simp [h0]; omega) fun k hk => ?_
  have hk2 : k < B.length := by simp [h0] at hk; omega
  rw [nth_map _ (by simp [h0]; omega), nth_map _ hk2]
  have e : nth ((bcols m B).take B.length) k = bcol m B k := by
    have hk3 : k < (bcols m B).length := by omega
    rw [nth_eq (by simp [h0]; omega), List.getElem_take, ← nth_eq hk3, bcols, nth_rmap _ (by omega)]
  rw [e]
  refine cutRow_N len m _ _ (by simp [bcol]) fun t ht => ?_
  rw [bcol, nth_rmap _ ht, Nat.div_eq_of_lt hk2, Nat.mod_eq_of_lt hk2, if_pos (Nat.zero_le _), Nat.sub_zero]
/-- the law's way -/
def lawRow (m : Nat) (r : List Int) : List Int := r.zipIdx.map fun q => if q.2 < m then q.1 else 0
def badRow (len m : Nat) (r : List Int) : Bool := ((lawRow m r).drop len).any (· != 0)
theorem nth_lawRow (m : Nat) (r : List Int) (i : Nat) : nth (lawRow m r) i = if i < m then nth r i else 0 := by
  by_cases h : i < r.length
  · rw [nth_eq (by simpa [lawRow] using h), nth_eq h]; simp [lawRow]
  · rw [nth_out (by simpa [lawRow] using h), nth_out (by omega)]; split <;> rfl
theorem bad_good (len m : Nat) (r : List Int) : badRow len m r = false ↔ goodRow len m r := by
  unfold badRow goodRow
  rw [List.any_eq_false]
  constructor
  · intro h i h1 h2
    by_cases hi : i < r.length
    · have hl : i - len < ((lawRow m r).drop len).length := by simp [lawRow]; omega
      have := h _ (List.getElem_mem hl)
      rw [List.getElem_drop, ← nth_eq (by simp [lawRow]; omega), nth_lawRow, show len + (i - len) = i by omega, if_pos h2] at this
      simpa using this
    · rw [nth_out (by omega)]; rfl
  · intro h x hx
    obtain ⟨i, hi, rfl⟩ := List.getElem_of_mem hx
    rw [List.getElem_drop, ← nth_eq (by simp [lawRow] at hi ⊢; omega), nth_lawRow]
    by_cases h2 : len + i < m
    · rw [if_pos h2, h _ (by omega) h2]; simp
    · rw [if_neg h2]; simp
theorem lawCut_N (len m : Nat) (r : List Int) : (lawRow m r ++ List.replicate len 0).take len = cutN len m r := by
  refine nth_ext (by simp [cutN, lawRow]) fun i hi => ?_
  have hi2 : i < len := by simp [lawRow] at hi; omega
  rw [nth_eq (by simp [lawRow]; omega), List.getElem_take, nth_cutN]
  by_cases h : i < (lawRow m r).length
  · rw [List.getElem_append_left h, ← nth_eq h, nth_lawRow]
    by_cases h2 : i < m
    · rw [if_pos h2, if_pos ⟨hi2, h2⟩]
    · rw [if_neg h2, if_neg (fun z => h2 z.2)]
  · rw [List.getElem_append_right (by omega)]
    simp only [List.getElem_replicate]
    split
    · rw [nth_out (by simp [lawRow] at h; omega)]; rfl
    · rfl
theorem p__law_cut_block (n m len : Nat) (p : Int) (B : List (List Int)) (hm : m ≤ 1000) (hl : len ≤ 1000) (hB1 : B.length ≤ 1000) (hh : ∀ r ∈ B, r.length ≤ 1000) :
    run Delta (n + 1) f__law_cut_block none [keyD p m B, .int len] = .ok (.val (if B.any (badRow len m) then .non else keyD p m (B.map (cutN len m)))) none := by
  rw [r__law_cut_block]
  have row : ∀ r ∈ B, r.length ≤ 1000 := hh
  have lr : ∀ r : List Int, (r.zipIdx.map fun q => D.int (if q.2 < m then q.1 else 0)) = (lawRow m r).map .int := fun r => by rw [ints_of]; rfl
  have ll : ∀ r ∈ B, (lawRow m r).length ≤ 1000 := fun r hr => by simpa [lawRow] using hh r hr
  rcases for_find (b := forB (.name 6) (execSs (run Delta n) L__law_cut_block_0)) rowD
    (fun pre (σ : Option Sl × Option Sl) => [vD (keyD p m B), vI len, vI p, vI m, vD (.tup (B.map rowD)), mD ((pre.map (cutN len m)).map rowD), σ.1, σ.2, none, none]) (badRow len m) (.val .non) B (none, none)
    (fun pre r post σ hs hbad => by
      have hr := row r (pre_mem hs)
      have hbad' : ((lawRow m r).drop len).any (· != 0) = true := hbad
      have hx : ∃ x ∈ (lawRow m r).drop len, ¬ x = 0 := by simpa using hbad'
      simp -implicitDefEqProofs (disch := first | omega | assumption) [-Int.natCast_ediv, -Int.natCast_emod, -List.map_take, -List.map_drop, -List.map_reverse, -List.map_append, -List.map_set, -List.map_replicate, -List.map_map, -List.map_dropLast, -Int.natCast_add, -Int.natCast_mul, snoc_map, nc_add, nc_mul, nc_add1, nc_add2, nc_1add, slT_to, slL_to, slT_from, slL_from, slT_mid, slL_mid, forB, L__law_cut_block_0, hr, lr, hx])
    (fun pre r post σ hs hgood => by
      have hr := row r (pre_mem hs)
      have hlr := ll r (pre_mem hs)
      have hl1 := pre_len hs
      have hx : ¬ ∃ x ∈ (lawRow m r).drop len, ¬ x = 0 := by
        have hgood' : ((lawRow m r).drop len).any (· != 0) = false := hgood
        intro ⟨x, h1, h2⟩
        have := (List.any_eq_false.mp hgood') x h1
        exact h2 (by simpa using this)
      simp -implicitDefEqProofs (disch := first | omega | assumption) [-Int.natCast_ediv, -Int.natCast_emod, -List.map_take, -List.map_drop, -List.map_reverse, -List.map_append, -List.map_set, -List.map_replicate, -List.map_map, -List.map_dropLast, -Int.natCast_add, -Int.natCast_mul, snoc_map, nc_add, nc_mul, nc_add1, nc_add2, nc_1add, slT_to, slL_to, slT_from, slL_from, slT_mid, slL_mid, forB, L__law_cut_block_0, hr, lr, hx, zrL, lawCut_N]) with ⟨h1, ρ', L⟩ | ⟨h1, σ, L⟩
  · simp only [List.map_nil] at L
    simp -implicitDefEqProofs (disch := first | omega | assumption) [-Int.natCast_ediv, -Int.natCast_emod, -List.map_take, -List.map_drop, -List.map_reverse, -List.map_append, -List.map_set, -List.map_replicate, -List.map_map, -List.map_dropLast, -Int.natCast_add, -Int.natCast_mul, snoc_map, nc_add, nc_mul, nc_add1, nc_add2, nc_1add, slT_to, slL_to, slT_from, slL_from, slT_mid, slL_mid, b__law_cut_block, L, h1]
  · simp only [List.map_nil] at L
    simp -implicitDefEqProofs (disch := first | omega | assumption) [-Int.natCast_ediv, -Int.natCast_emod, -List.map_take, -List.map_drop, -List.map_reverse, -List.map_append, -List.map_set, -List.map_replicate, -List.map_map, -List.map_dropLast, -Int.natCast_add, -Int.natCast_mul, snoc_map, nc_add, nc_mul, nc_add1, nc_add2, nc_1add, slT_to, slL_to, slT_from, slL_from, slT_mid, slL_mid, b__law_cut_block, L, h1]

end K79
end
section
set_option maxRecDepth 100000
set_option maxHeartbeats 1000000
namespace K79
open DL PySem
/-! a band is right -/
/-- what the law draws -/
structure BandOk (p : Int) (m s : Nat) (B : List (List Int)) : Prop where
  hp : p = 2 ∨ p = 3 ∨ p = 5
  hm : 0 < m
  hm2 : m ≤ 12
  hB : 0 < B.length
  hmB : m * B.length ≤ 60
  hs : 0 < s
  hs2 : s ≤ 5
  hrow : ∀ r ∈ B, r.length = s
  hdig : ∀ r ∈ B, ∀ x ∈ r, 0 ≤ x ∧ x < p
theorem BandOk.hB1 {p : Int} {m s : Nat} {B : List (List Int)} (h : BandOk p m s B) : B.length ≤ 60 := Nat.le_trans (Nat.le_mul_of_pos_left _ h.hm) h.hmB
theorem bcols_len (m : Nat) (B : List (List Int)) : (bcols m B).length = m * B.length := by simp [bcols]
theorem bcols_row (m : Nat) (B : List (List Int)) : ∀ c ∈ bcols m B, c.length = m := fun c hc => by
  obtain ⟨j, _, rfl⟩ := List.mem_map.mp hc
  simp [bcol]
section
variable {p : Int} {m s : Nat} {B : List (List Int)} (h : BandOk p m s B)
include h
theorem p_is_band (n : Nat) : run Delta (n + 7) f_is_band none [keyD p m B] = .ok (.val (.bl true)) none := by
  have h1 := h.hm; have h2 := h.hB; have h3 := h.hB1; have h4 := h.hs; have h5 := h.hs2
  have hp' : (2 : Int) = p ∨ 3 = p ∨ 5 = p := by rcases h.hp with e | e | e <;> simp [e]
  have hl : (nth B 0).length = s := h.hrow _ (nth_mem h2)
  have hh : ∀ l ∈ B, l.length ≤ 1000000 := fun l hl => by rw [h.hrow l hl]; omega
  have hall : ∀ l ∈ B, (∀ x ∈ l, 0 ≤ x ∧ x < p) ∧ (l.length : Int) = (s : Int) := fun l hl => ⟨h.hdig l hl, by rw [h.hrow l hl]⟩
  have hne : ¬ B = [] := fun e => by rw [e] at h2; simp at h2
  have hne2 : ¬ nth B 0 = [] := fun e => by rw [e] at hl; simp at hl; omega
  have hall' : ∀ l ∈ B, (∀ x ∈ l, 0 ≤ x ∧ x < p) ∧ l.length = s := fun l hl => ⟨h.hdig l hl, h.hrow l hl⟩
  have hm1 : ¬ (m : Int) < 1 := by omega
  have hp2 : ¬ (¬ 2 = p ∧ ¬ 3 = p ∧ ¬ 5 = p) := by omega
  rw [r_is_band]
  simp -implicitDefEqProofs (disch := first | omega | assumption) [-Int.natCast_ediv, -Int.natCast_emod, -List.map_take, -List.map_drop, -List.map_reverse, -List.map_append, -List.map_set, -List.map_replicate, -List.map_map, -List.map_dropLast, -Int.natCast_add, -Int.natCast_mul, snoc_map, nc_add, nc_mul, nc_add1, nc_add2, nc_1add, slT_to, slL_to, slT_from, slL_from, slT_mid, slL_mid, b_is_band, isTy, hl, hne, hne2, atD_nth, p_are_rows_of, hm1, hp2]
  exact hall'
theorem p__law_heard (n len : Nat) (hl : len ≤ 100) : run Delta (n + 7) f__law_heard none [keyD p m (bcols m B), .int len] = .ok (.own (if B.any (badRow len m) then [] else [keyD p m (B.map (cutN len m))])) none := by
  have h1 := h.hm; have h2 := h.hB; have h3 := h.hB1; have h4 := h.hs; have h5 := h.hs2; have h6 := h.hm2; have h7 := h.hmB
  have hlen := bcols_len m B
  have hpos : 0 < (bcols m B).length := by rw [hlen]; exact Nat.mul_pos h1 h2
  have hrow : ∀ c ∈ bcols m B, c.length ≤ 1000000 := fun c hc => by rw [bcols_row m B c hc]; omega
  have e := p_band_for n m len p (bcols m B) (by omega) (by omega) (by omega) hpos hrow
  have hmod : m * B.length % m = 0 := Nat.mul_mod_right _ _
  rw [hlen, hmod, cutRows_N len m B h1] at e
  have hne : ¬ m = 0 := by omega
  simp only [hne, ne_eq, not_true_eq_false, or_self, if_false] at e
  rw [r__law_heard]
  cases hb : B.any (badRow len m) with
  | true =>
    have hg : ¬ ∀ r ∈ B, goodRow len m r := fun z => by
      obtain ⟨r, hr, hbad⟩ := List.any_eq_true.mp hb
      rw [(bad_good len m r).mpr (z r hr)] at hbad
      cases hbad
    rw [if_neg fun z => hg ((bcols_cut len m B h1).mp z)] at e
    simp -implicitDefEqProofs (disch := first | omega | assumption) [-Int.natCast_ediv, -Int.natCast_emod, -List.map_take, -List.map_drop, -List.map_reverse, -List.map_append, -List.map_set, -List.map_replicate, -List.map_map, -List.map_dropLast, -Int.natCast_add, -Int.natCast_mul, snoc_map, nc_add, nc_mul, nc_add1, nc_add2, nc_1add, slT_to, slL_to, slT_from, slL_from, slT_mid, slL_mid, b__law_heard, e]
  | false =>
    have hg : ∀ r ∈ B, goodRow len m r := fun r hr => (bad_good len m r).mp (by simpa using (List.any_eq_false.mp hb) r hr)
    rw [if_pos ((bcols_cut len m B h1).mpr hg)] at e
    simp -implicitDefEqProofs (disch := first | omega | assumption) [-Int.natCast_ediv, -Int.natCast_emod, -List.map_take, -List.map_drop, -List.map_reverse, -List.map_append, -List.map_set, -List.map_replicate, -List.map_map, -List.map_dropLast, -Int.natCast_add, -Int.natCast_mul, snoc_map, nc_add, nc_mul, nc_add1, nc_add2, nc_1add, slT_to, slL_to, slT_from, slL_from, slT_mid, slL_mid, b__law_heard, e]
end

end K79
end
section
set_option maxRecDepth 100000
set_option maxHeartbeats 1000000
namespace K79
open DL PySem
/-- a row of draws -/
theorem draws {n c : Nat} {tin : List D} {p : Int} {k : Nat} {ev : DL.Env → Res Vl} {te : DL.Env → Res Bool} {pt : Pat} {vs : List Nat} (R : List D → DL.Env) (ht : TinOk (c + k) tin) (hp : 0 < p) (hp2 : p ≤ 1000000000) (hk : k ≤ 1000000)
    (hn : noMut (R tin) vs = true) (hw : ∀ t, wipeE (R t) vs = R t) (hr : ∀ t, restoreE (R tin) (R t) vs = R t)
    (h : ∀ (t : List D) (r : Int) (t' : List D) (i : Nat), run Delta (n + 1) f__law_take (some t) [.int p] = .ok (.val (.int r)) (some t') → compStep (fun ρ => (ev ρ).quiet) (fun ρ => (te ρ).quiet) pt vs (.int (i : Int)) (R t) = .ok (some (.int r)) (R t')) :
    ∃ (l : List Int) (tin' : List D), compRun ev te pt vs ((List.range k).map fun i : Nat => D.int (i : Int)) (R tin) = .ok (.own (l.map .int)) (R tin') ∧ TinOk c tin' ∧ l.length = k ∧ ∀ x ∈ l, 0 ≤ x ∧ x < p := by
  obtain ⟨acc, t', e, l, rfl, h1, h2, h3⟩ := comp_pre (ev := ev) (te := te) (p := pt) (vs := vs) (fun i : Nat => D.int (i : Int)) R (fun pre acc t => ∃ l : List Int, acc = l.map .int ∧ l.length = pre.length ∧ (∀ x ∈ l, 0 ≤ x ∧ x < p) ∧ TinOk (c + (k - pre.length)) t) (List.range k) tin hn hw hr (by rw [List.length_range]; exact le_LIM (by omega)) ⟨[], rfl, rfl, by simp, by simpa using ht⟩
    fun pre i post acc t hs ha ⟨l, e1, e2, e3, e4⟩ => by
      have hlen := pre_len hs
      rw [List.length_range] at hlen
      obtain ⟨r, t', e5, e6, e7, e8⟩ := p_take n (c + (k - (pre.length + 1))) t p (e4.mono (by omega)) hp hp2
      refine ⟨some (.int r), t', h t r t' i e5, l ++ [r], ?_, ?_, ?_, ?_⟩
      · rw [e1]; simp
      · simp [e2]
      · intro x hx
        rcases List.mem_append.mp hx with h | h
        · exact e3 x h
        · rw [List.mem_singleton.mp h]; exact ⟨e7, e8⟩
      · simpa using e6
  rw [List.length_range] at h1 h3
  exact ⟨l, t', e, by simpa using h3, h1, h2⟩
section
variable {p : Int} {m s : Nat} {B : List (List Int)} (h : BandOk p m s B)
include h
theorem BandOk.fitK : D.fit (keyD p m B) = true := fit_key p m B (by have := h.hB1; omega) fun l hl => by rw [h.hrow l hl]; have := h.hs2; omega
theorem BandOk.fitC : D.fit (keyD p m (bcols m B)) = true := fit_key p m _ (by rw [bcols_len]; have := h.hmB; omega) fun l hl => by rw [bcols_row m B l hl]; have := h.hm2; omega
theorem p_band_key_l (n : Nat) : run Delta (n + 5) f_band_key none [lstD (keyD p m B)] = .ok (.val (keyD p m (bcols m B))) none := by
  have h1 := h.hm2; have h2 := h.hB; have h3 := h.hB1
  have hl : shal 3 (lstD (keyD p m B)) = true := by simp
  have hf : D.fit (lstD (keyD p m B)) = true := by
    have : ∀ r ∈ B, r.length ≤ 1000000 := fun r hr => by rw [h.hrow r hr]; have := h.hs2; omega
    have h4 : D.fits (B.map fun x => D.lst (x.map .int)) = true := fits_map _ _ fun x hx => by simp [this x hx]
    have h5 : B.length ≤ 1000000 := by omega
    simp [h4, h5]
  have ht : run Delta (n + 4) f_tupled none [lstD (keyD p m B)] = .ok (.val (keyD p m B)) none := by
    rw [p_tupled (n + 4) _ (Nat.lt_of_le_of_lt (of_decide_eq_true hl) (by omega)) hf, tup_lst _ 4 (dep_key p m B), tup_key]
  generalize lstD (keyD p m B) = d at ht
  rw [r_band_key]
  simp -implicitDefEqProofs (disch := first | omega | assumption) [-Int.natCast_ediv, -Int.natCast_emod, -List.map_take, -List.map_drop, -List.map_reverse, -List.map_append, -List.map_set, -List.map_replicate, -List.map_map, -List.map_dropLast, -Int.natCast_add, -Int.natCast_mul, snoc_map, nc_add, nc_mul, nc_add1, nc_add2, nc_1add, slT_to, slL_to, slT_from, slL_from, slT_mid, slL_mid, b_band_key, ht, p_key_of_band]
/-- the checks by several lengths -/
theorem band_loop (n : Nat) (tin : List D) (wd sz rests : Option Sl) (ls : List Nat) (hl : ∀ l ∈ ls, l ≤ 6) (hne : ls ≠ []) : ∃ a b, forLoop (forB (.name 9) (execSs (run Delta (n + 29)) L__law_band_right_0)) (ls.map fun l : Nat => D.int (l : Int))
      [mD tin, vD (keyD p m B), vI p, vI m, vD (.tup (B.map rowD)), wd, sz, vD (keyD p m (bcols m B)), rests, none, none, none, none, none, none] = .ok .next [mD tin, vD (keyD p m B), vI p, vI m, vD (.tup (B.map rowD)), wd, sz, vD (keyD p m (bcols m B)), rests, vD a, b, none, none, none, none] := by
  have h1 := h.hm2; have h2 := h.hB; have h3 := h.hB1; have h5 := h.hs2
  have hh : ∀ r ∈ B, r.length ≤ 1000 := fun r hr => by rw [h.hrow r hr]; omega
  have sh1 : ∀ C, shal 20 (.lst [keyD p m C]) = true := fun C => by simp
  obtain ⟨σ, L, hI⟩ := for_pre (b := forB (.name 9) (execSs (run Delta (n + 29)) L__law_band_right_0)) (fun l : Nat => D.int (l : Int))
    (fun pre (σ : Option Sl × Option Sl) => [mD tin, vD (keyD p m B), vI p, vI m, vD (.tup (B.map rowD)), wd, sz, vD (keyD p m (bcols m B)), rests, σ.1, σ.2, none, none, none, none]) (fun pre σ => pre ≠ [] → ∃ d, σ.1 = vD d) ls (none, none) (fun z => absurd rfl z) fun pre l post σ hs _ => by
      have hl := hl l (pre_mem hs)
      have e1 := p__law_cut_block (n + 28) m l p B (by omega) (by omega) (by omega) hh
      have e2 := p__law_heard h (n + 22) l (by omega)
      have hfit : D.fit (keyD p m (B.map (cutN l m))) = true := fit_key p m _ (by simp; omega) fun r hr => by
        obtain ⟨q, _, rfl⟩ := List.mem_map.mp hr
        simp [cutN]; omega
      cases hb : B.any (badRow l m) with
      | true =>
        rw [hb] at e1 e2
        simp only [if_true] at e1 e2
        have e3 := p_same' (n + 8) (.lst []) (.lst []) rfl rfl rfl
        refine ⟨(vI l, _), by simp -implicitDefEqProofs (disch := first | omega | assumption) [-Int.natCast_ediv, -Int.natCast_emod, -List.map_take, -List.map_drop, -List.map_reverse, -List.map_append, -List.map_set, -List.map_replicate, -List.map_map, -List.map_dropLast, -Int.natCast_add, -Int.natCast_mul, snoc_map, nc_add, nc_mul, nc_add1, nc_add2, nc_1add, slT_to, slL_to, slT_from, slL_from, slT_mid, slL_mid, forB, L__law_band_right_0, e1, e2, D.isNon, e3]; rfl, fun _ => ⟨_, rfl⟩⟩
      | false =>
        rw [hb] at e1 e2
        simp only [if_false, Bool.false_eq_true] at e1 e2
        have e3 := p_same' (n + 8) (.lst [keyD p m (B.map (cutN l m))]) (.lst [keyD p m (B.map (cutN l m))]) rfl (sh1 _) (by rw [fit_lst', fits_cons, hfit]; simp)
        have hK : D.isNon (keyD p m (B.map (cutN l m))) = false := rfl
        generalize keyD p m (B.map (cutN l m)) = K at e1 e2 e3 hK
        refine ⟨(vI l, _), by simp -implicitDefEqProofs (disch := first | omega | assumption) [-Int.natCast_ediv, -Int.natCast_emod, -List.map_take, -List.map_drop, -List.map_reverse, -List.map_append, -List.map_set, -List.map_replicate, -List.map_map, -List.map_dropLast, -Int.natCast_add, -Int.natCast_mul, snoc_map, nc_add, nc_mul, nc_add1, nc_add2, nc_1add, slT_to, slL_to, slT_from, slL_from, slT_mid, slL_mid, forB, L__law_band_right_0, e1, e2, hK, e3]; rfl, fun _ => ⟨_, rfl⟩⟩
  obtain ⟨d, hd⟩ := hI hne
  rw [hd] at L
  exact ⟨d, σ.2, L⟩
end
/-- where rows end, in two ways -/
theorem ends_same (S : List (Option (Nat × Nat))) (k : Nat) (hS : ∀ q, some q ∈ S → q.2 < k) : ((List.range k).filter fun j => decide (endAt S j ≠ [])).map (fun j : Nat => (j : Int)) = setI ((S.filterMap id).map fun q => (q.2 : Int)) := by
  refine ss_ext (ss_filter_range k _) (ss_setI _) fun x => ?_
  rw [mem_setI, List.mem_map, List.mem_map]
  constructor
  · rintro ⟨j, hj, rfl⟩
    obtain ⟨h1, h2⟩ := List.mem_filter.mp hj
    have h3 : endAt S j ≠ [] := by simpa using h2
    obtain ⟨i, hi⟩ := List.exists_mem_of_ne_nil _ h3
    obtain ⟨⟨o, i'⟩, h4, rfl⟩ := List.mem_map.mp hi
    obtain ⟨h5, h6⟩ := List.mem_filter.mp h4
    cases o with
    | none => simp [isEnd] at h6
    | some q =>
      have h7 : q.2 = j := by simpa [isEnd] using h6
      have h8 : some q ∈ S := by
        have h9 := (List.mem_zipIdx (x := some q) (i := i') h5).2.2
        rw [h9]; exact List.getElem_mem _
      exact ⟨q, List.mem_filterMap.mpr ⟨_, h8, rfl⟩, by rw [h7]⟩
  · rintro ⟨q, hq, rfl⟩
    obtain ⟨o, ho, rfl⟩ := List.mem_filterMap.mp hq
    refine ⟨q.2, List.mem_filter.mpr ⟨List.mem_range.mpr (hS q ho), ?_⟩, rfl⟩
    obtain ⟨i, hi, he⟩ := List.getElem_of_mem ho
    have : i ∈ endAt S q.2 := List.mem_map.mpr ⟨(some q, i), List.mem_filter.mpr ⟨List.mk_mem_zipIdx_iff_getElem?.mpr (by rw [List.getElem?_eq_getElem hi, he]), by simp [isEnd]⟩, rfl⟩
    simpa using List.ne_nil_of_mem this
theorem spans_lt (m : Nat) (C : List (List Int)) (q : Nat × Nat) (hq : some q ∈ spans m C) : q.2 < C.length := by
  obtain ⟨t, _, e⟩ := List.mem_map.mp hq
  unfold spanAt spanOf at e
  split at e
  · cases e
  · next a l hth =>
    cases e
    have h1 : (a :: l).getLast (by simp) ∈ there C t := by rw [hth]; exact List.getLast_mem _
    obtain ⟨⟨c, i⟩, h2, h3⟩ := List.mem_map.mp h1
    have h4 := (List.mem_zipIdx (x := c) (i := i) (List.mem_filter.mp h2).1).2.1
    have h5 : i = (a :: l).getLast (by simp) := h3
    show (a :: l).getLast _ < _
    rw [← h5]; omega

end K79
end
section
set_option maxRecDepth 100000
set_option maxHeartbeats 1000000
namespace K79
open DL PySem
theorem spanD_isNon (o : Option (Nat × Nat)) : D.isNon (spanD o) = o.isNone := by cases o <;> rfl
theorem someS_D (S : List (Option (Nat × Nat))) : (S.filter fun o => o.isSome).map spanD = (S.filterMap id).map fun q => D.tup [.int (q.1 : Nat), .int (q.2 : Nat)] := by
  induction S with
  | nil => rfl
  | cons o S ih =>
    cases o with
    | none => simpa using ih
    | some q => exact congrArg _ ih
section
variable {p : Int} {m s : Nat} {B : List (List Int)} (h : BandOk p m s B)
include h
theorem p__law_band_right (n c : Nat) (tin : List D) (ht : TinOk (c + 60) tin) : ∃ tin', run Delta (n + 30) f__law_band_right (some tin) [keyD p m B] = .ok (.val (.bl true)) (some tin') ∧ TinOk c tin' := by
  have h1 := h.hm; have h2 := h.hB; have h3 := h.hB1; have h4 := h.hs; have h5 := h.hs2; have h6 := h.hm2; have h7 := h.hmB
  have hp := h.hp
  have hCl := bcols_len m B
  have hCr := bcols_row m B
  have hh : ∀ r ∈ B, r.length ≤ 1000 := fun r hr => by rw [h.hrow r hr]; omega
  have hh6 : ∀ r ∈ B, r.length ≤ 1000000 := fun r hr => by rw [h.hrow r hr]; omega
  have hs0 : (nth B 0).length = s := h.hrow _ (nth_mem h2)
  -- the columns, the KEY
  have e1 := p__law_columns_so (n + 28) m p B (by omega) h2 (by omega) hh
  have e2 := p_band_key (n + 24) m p B (by omega) h2 (by omega) hh6
  have e3 := p_lists (n + 29) (keyD p m B) (Nat.lt_of_lt_of_le (dep_key p m B) (by omega)) h.fitK
  have e4 := p_band_key_l h (n + 24)
  have e5 := p_is_band h (n + 22)
  have hlv : lstV (keyD p m B) = .own (lstDs [.int p, .int m, .tup (B.map rowD)]) := rfl
  have hlv2 : lstD (keyD p m B) = .lst (lstDs [.int p, .int m, .tup (B.map rowD)]) := by rw [lstD]
  rw [hlv] at e3
  rw [hlv2] at e4
  generalize lstDs [.int p, .int m, .tup (B.map rowD)] = LL at e3 e4
  have sh1 : ∀ C, shal 20 (.lst [keyD p m C, keyD p m C, .bl true]) = true := fun C => by simp
  have e6 := p_same' (n + 8) (.lst [keyD p m (bcols m B), keyD p m (bcols m B), .bl true]) _ rfl (sh1 _) (by rw [fit_lst', fits_cons, fits_cons, h.fitC]; simp)
  -- the RESTS
  obtain ⟨rs, t1, d1, d2, d3, d4⟩ := draws (n := n + 28) (c := c) (tin := tin) (p := p) (k := m * B.length) (ev := evalE (run Delta (n + 29)) (.callIO f__law_take 0 (.cons (.var 2) .nil))) (te := testE (run Delta (n + 29)) (.bl true)) (pt := .name 14) (vs := [14])
    (fun t => [mD t, vD (keyD p m B), vI p, vI m, vD (.tup (B.map rowD)), vI B.length, vI s, vD (keyD p m (bcols m B)), none, none, none, none, none, none, none]) (ht.mono (by omega)) (by omega) (by omega) (by omega) rfl (fun _ => rfl) (fun _ => rfl) (fun t r t' i e => by simp -implicitDefEqProofs (disch := first | omega | assumption) [-Int.natCast_ediv, -Int.natCast_emod, -List.map_take, -List.map_drop, -List.map_reverse, -List.map_append, -List.map_set, -List.map_replicate, -List.map_map, -List.map_dropLast, -Int.natCast_add, -Int.natCast_mul, snoc_map, nc_add, nc_mul, nc_add1, nc_add2, nc_1add, slT_to, slL_to, slT_from, slL_from, slT_mid, slL_mid, e])
  have e7 := p_reading_of_rests (n + 23) m p (bcols m B) rs (by omega) (by omega) (by omega) (by omega) hCr (by omega) d4
  have e8 := p__law_slid_sum (n + 28) m p B rs (by omega) (by omega) (by omega) h2 (by omega) h.hdig d3
  rw [slid_read m p B rs (by omega) (by omega) (by omega) h2 (by omega) h.hdig d3 hh] at e8
  have e9 := p_same' (n + 8) (rowD (readIn p m (bcols m B) rs)) _ rfl (by simp) (fit_row (by rw [readIn_len]; omega))
  -- the lengths
  have hsz : ((s : Int) = ((s : Nat) : Int)) := rfl
  obtain ⟨a9, a10, L⟩ := band_loop h n t1 (vI B.length) (vI s) (vD (rowD rs)) [s, min 5 (s + 1), max 1 (s - 1), 1, 5] (by simp; omega) (by simp)
  simp only [List.map_cons, List.map_nil] at L
  rw [show ((1 : Nat) : Int) = 1 from rfl, show ((5 : Nat) : Int) = 5 from rfl] at L
  have hmin : min (5 : Int) ((s + 1 : Nat) : Int) = ((min 5 (s + 1) : Nat) : Int) := by omega
  have hmax : max (1 : Int) ((s : Int) - 1) = ((max 1 (s - 1) : Nat) : Int) := by omega
  refine ⟨t1, ?_, d2⟩
  rw [r__law_band_right]
  clear hlv hlv2
  simp -implicitDefEqProofs (disch := first | omega | assumption) [-Int.natCast_ediv, -Int.natCast_emod, -List.map_take, -List.map_drop, -List.map_reverse, -List.map_append, -List.map_set, -List.map_replicate, -List.map_map, -List.map_dropLast, -Int.natCast_add, -Int.natCast_mul, snoc_map, nc_add, nc_mul, nc_add1, nc_add2, nc_1add, slT_to, slL_to, slT_from, slL_from, slT_mid, slL_mid, b__law_band_right, e1, e2, e3, e4, e5, e6, atD_nth, hs0, -comp_G, range0, o_mulL, d1, e7, e8, e9, hmin, hmax, L]
  have hcl : ∀ k, k < m * B.length → k < (bcols m B).length := fun k hk => by rw [hCl]; exact hk
  have hsl : (spans m (bcols m B)).length ≤ 1000 := by simp [spans]; omega
  clear e1 e2 e3 e4 e5 e6 e7 e8 e9 L d1 d2 d3 d4 hmin hmax hsz sh1 hs0 hh6 hh
  have hsl2 : ((spans m (bcols m B)).filterMap id).length ≤ 12 := Nat.le_trans (List.length_filterMap_le _ _) (by simp [spans]; omega)
  have hmx := max_lF (fun x => ((openAt (spans m (bcols m B)) x).length : Int)) (List.range (m * B.length + 1)) (by simp)
  simp -implicitDefEqProofs (disch := first | omega | assumption | solve_by_elim) [-Int.natCast_ediv, -Int.natCast_emod, -List.map_take, -List.map_drop, -List.map_reverse, -List.map_append, -List.map_set, -List.map_replicate, -List.map_map, -List.map_dropLast, -Int.natCast_add, -Int.natCast_mul, snoc_map, nc_add, nc_mul, nc_add1, nc_add2, nc_1add, slT_to, slL_to, slT_from, slL_from, slT_mid, slL_mid, p__law_open_at, p_closing_rows, p__law_spans_of, p_widths, p_widest, restoreE, range0, o_mulL, spanD_isNon, someS_D, hmx, sset_lF]
  have hends := ends_same (spans m (bcols m B)) (m * B.length) fun q hq => by have := spans_lt m (bcols m B) q hq; rw [hCl] at this; exact this
  have hdec : (fun j => decide (endAt (spans m (bcols m B)) j ≠ [])) = fun x => !decide (endAt (spans m (bcols m B)) x = []) := by funext j; simp
  rw [hdec] at hends
  have hends2 : ((List.range (m * B.length)).filter fun x => !decide (endAt (spans m (bcols m B)) x = [])).map (fun j : Nat => D.int (j : Int)) = (setI (((spans m (bcols m B)).filterMap id).map fun q => (q.2 : Int))).map D.int := by
    rw [← hends, List.map_map]; rfl
  have hlE : (setI (((spans m (bcols m B)).filterMap id).map fun q => (q.2 : Int))).length ≤ 60 := by
    have h8 := congrArg List.length hends
    rw [← h8, List.length_map]
    exact Nat.le_trans (List.length_filter_le _ _) (by simp; omega)
  have hw1 : natsD (List.map (fun k => (openAt (spans m (bcols m B)) k).length) (List.range ((bcols m B).length + 1))) = List.map (fun x => D.int ((openAt (spans m (bcols m B)) x).length : Int)) (List.range (m * B.length + 1)) := by
    rw [hCl, natsD, List.map_map]; rfl
  have hw2 : (List.map (fun k : Nat => (k : Int)) (List.map (fun k => (openAt (spans m (bcols m B)) k).length) (List.range ((bcols m B).length + 1)))) = List.map (fun x => ((openAt (spans m (bcols m B)) x).length : Int)) (List.range (m * B.length + 1)) := by
    rw [hCl, List.map_map]; rfl
  rw [hends2, hw1, hw2]
  rw [p_same' (n + 8) _ _ rfl (by simp) (by simp (disch := first | omega | (simp <;> omega)))]
  rfl
end

end K79
end
section
set_option maxRecDepth 100000
set_option maxHeartbeats 1000000
namespace K79
open DL PySem
theorem heard_exc (n len : Nat) (K : D) (e : run Delta (n + 6) f_band_for none [K, .int len] = .exc 1 []) : run Delta (n + 7) f__law_heard none [K, .int len] = .ok (.own []) none := by
  rw [r__law_heard]
  simp -implicitDefEqProofs (disch := first | omega | assumption) [-Int.natCast_ediv, -Int.natCast_emod, -List.map_take, -List.map_drop, -List.map_reverse, -List.map_append, -List.map_set, -List.map_replicate, -List.map_map, -List.map_dropLast, -Int.natCast_add, -Int.natCast_mul, snoc_map, nc_add, nc_mul, nc_add1, nc_add2, nc_1add, slT_to, slL_to, slT_from, slL_from, slT_mid, slL_mid, b__law_heard, e]
theorem rep1 : binop .mul (.tup [.tup []]) (.int 3) = some (.val (.tup (([[], [], []] : List (List Int)).map rowD))) := rfl
theorem repL (k : Nat) (hk : k ≤ 10) : binop .mul (.lst [.lst []]) (.int (k : Int)) = some (.own (List.replicate k (.lst []))) := by
  simp only [binop]
  rw [if_pos ⟨by omega, by simp; exact le_LIM (by omega), by omega⟩, Int.toNat_natCast]
  have : ∀ k, DL.rep [D.lst []] k = List.replicate k (.lst []) := fun k => by
    induction k with
    | zero => rfl
    | succ k ih => simp [DL.rep, ih, List.replicate_succ]
  rw [this]
section
variable {p : Int} {m s : Nat} {B : List (List Int)} (h : BandOk p m s B)
include h
theorem p__law_none_right (n : Nat) (tin : List D) : run Delta (n + 30) f__law_none_right (some tin) [keyD p m B] = .ok (.val (.bl true)) (some tin) := by
  have h1 := h.hm; have h2 := h.hB; have h3 := h.hB1; have h4 := h.hs; have h5 := h.hs2; have h6 := h.hm2; have h7 := h.hmB
  have hCl := bcols_len m B
  have hCr := bcols_row m B
  have hh : ∀ r ∈ B, r.length ≤ 1000 := fun r hr => by rw [h.hrow r hr]; omega
  have hs0 : (nth B 0).length = s := h.hrow _ (nth_mem h2)
  have hmw : 0 < m * B.length := Nat.mul_pos h1 h2
  have e1 := p__law_columns_so (n + 28) m p B (by omega) h2 (by omega) hh
  -- no rows
  have e2 : run Delta (n + 29) f__law_heard none [.tup [.int p, .int 0, .tup [rowD [], rowD [], rowD []]], .int 2] = .ok (.own []) none := by
    refine heard_exc (n + 22) 2 _ ?_
    have := p_band_for (n + 22) 0 2 p [[], [], []] (by omega) (by omega) (by simp) (by simp) (by simp)
    rw [if_pos (Or.inl rfl)] at this
    exact this
  by_cases hm1 : m = 1
  · subst hm1
    have e4 := p_same' (n + 8) (.lst [.lst []]) (.lst [.lst []]) rfl (by simp) (by simp)
    have hr : binop .mul (.lst [.lst []]) (.int 1) = some (.own [.lst []]) := repL 1 (by omega)
    have hmod : ∀ x : Int, x % 1 = 0 := fun x => by omega
    rw [r__law_none_right]
    simp -implicitDefEqProofs (disch := first | omega | assumption) [-Int.natCast_ediv, -Int.natCast_emod, -List.map_take, -List.map_drop, -List.map_reverse, -List.map_append, -List.map_set, -List.map_replicate, -List.map_map, -List.map_dropLast, -Int.natCast_add, -Int.natCast_mul, snoc_map, nc_add, nc_mul, nc_add1, nc_add2, nc_1add, slT_to, slL_to, slT_from, slL_from, slT_mid, slL_mid, b__law_none_right, e1, rep1, o_mod, e2, hmod, hr, e4, hCl]
  · have hm2 : 1 < m := by omega
    have e4 := p_same' (n + 8) (.lst [.lst [], .lst [], .lst []]) (.lst [.lst [], .lst [], .lst []]) rfl (by simp) (by simp)
    have hr : binop .mul (.lst [.lst []]) (.int 3) = some (.own [.lst [], .lst [], .lst []]) := repL 3 (by omega)
    have hmod : (((m * B.length + 1 : Nat) : Int) % (m : Int) = 0) = False := by
      apply eq_false
      rw [← Int.natCast_emod, Nat.mul_add_mod, Nat.mod_eq_of_lt hm2]
      decide
    -- a column more
    have hC5 : (bcols m B ++ (bcols m B).take 1).length = m * B.length + 1 := by
      rw [List.length_append, List.length_take, hCl]; omega
    have e5 : run Delta (n + 29) f__law_heard none [keyD p m (bcols m B ++ (bcols m B).take 1), .int s] = .ok (.own []) none := by
      refine heard_exc (n + 22) s _ ?_
      have := p_band_for (n + 22) m s p (bcols m B ++ (bcols m B).take 1) (by omega) (by omega) (by omega) (by omega) (fun c hc => by
        have : c ∈ bcols m B := by
          rcases List.mem_append.mp hc with z | z
          · exact z
          · exact List.mem_of_mem_take z
        rw [hCr c this]; omega)
      rw [this, hC5, Nat.mul_add_mod, Nat.mod_eq_of_lt hm2]
      simp
    -- a DIGIT otherwise
    have hlast : nth (bcols m B) (m * B.length - 1) ∈ bcols m B := nth_mem (by omega)
    have hdl : (bcols m B).dropLast.length = m * B.length - 1 := by simp [hCl]
    have e6 : run Delta (n + 29) f__law_heard none [keyD p m ((bcols m B).dropLast ++ [1 :: (nth (bcols m B) (m * B.length - 1)).tail]), .int s] = .ok (.own []) none := by
      refine heard_exc (n + 22) s _ ?_
      generalize hC' : (bcols m B).dropLast ++ [1 :: (nth (bcols m B) (m * B.length - 1)).tail] = C'
      have hlC : C'.length = m * B.length := by rw [← hC', List.length_append, hdl]; simp; omega
      have := p_band_for (n + 22) m s p C' (by omega) (by omega) (by omega) (by omega) (fun c hc => by
        rw [← hC'] at hc
        rcases List.mem_append.mp hc with z | z
        · rw [hCr c (List.dropLast_subset _ z)]; omega
        · rw [List.mem_singleton.mp z, List.length_cons, List.length_tail, hCr _ hlast]; omega)
      rw [this, hlC, Nat.mul_mod_right]
      have hne : ¬ m = 0 := by omega
      simp only [hne, ne_eq, not_true_eq_false, or_self, if_false]
      rw [if_neg fun z => ?_]
      have hR : (cutRows s m C').length = B.length := by
        unfold cutRows
        rw [List.length_map, List.length_take, hlC, Nat.mul_div_cancel_left _ h1]
        have := Nat.le_mul_of_pos_left B.length h1
        omega
      have z1 : nth (nth (bcols m (cutRows s m C')) (m * B.length - 1)) 0 = nth (nth C' (m * B.length - 1)) 0 := by rw [z]
      rw [bcols, nth_rmap _ (by rw [hR]; omega), bcol, nth_rmap _ h1, hR, if_neg] at z1
      · rw [← hC', nth_app, if_pos hdl.symm, nth_zero] at z1
        exact absurd z1 (by decide)
      · intro z2
        have z3 : B.length ≤ m * B.length - 1 := by
          have := Nat.mul_le_mul_right B.length hm2
          omega
        have := Nat.div_pos z3 h2
        omega
    have hat : atD ((bcols m B).map rowD) (-1) = some (rowD (nth (bcols m B) (m * B.length - 1))) := by
      have hn : bcols m B ≠ [] := fun z => by rw [z, List.length_nil] at hCl; omega
      have hq : ∀ i (hi : i < (bcols m B).length), i = m * B.length - 1 → (bcols m B)[i] = nth (bcols m B) (m * B.length - 1) := fun i hi e => by subst e; exact (nth_eq hi).symm
      rw [atD_last rowD (bcols m B) hn, List.getLast_eq_getElem, hq _ _ (by rw [hCl])]
    have hm2i : (1 : Int) < m := by omega
    rw [r__law_none_right]
    have hll : (nth (bcols m B) (m * B.length - 1)).length = m := hCr _ hlast
    have hX : List.map rowD (bcols m B).dropLast ++ [D.tup (D.int 1 :: (List.map D.int (nth (bcols m B) (m * B.length - 1))).tail)] = ((bcols m B).dropLast ++ [1 :: (nth (bcols m B) (m * B.length - 1)).tail]).map rowD := by
      rw [List.map_append, List.map_cons, List.map_nil, rowD, List.map_cons, List.map_tail]
    simp -implicitDefEqProofs (disch := first | omega | assumption) [-Int.natCast_ediv, -Int.natCast_emod, -List.map_take, -List.map_drop, -List.map_reverse, -List.map_append, -List.map_set, -List.map_replicate, -List.map_map, -List.map_dropLast, -Int.natCast_add, -Int.natCast_mul, snoc_map, nc_add, nc_mul, nc_add1, nc_add2, nc_1add, slT_to, slL_to, slT_from, slL_from, slT_mid, slL_mid, b__law_none_right, e1, rep1, o_mod, e2, hmod, hr, e4, hCl, e5, atD_nth, hs0, hm2i, hat, hll, hX, e6]
end

end K79
end
section
set_option maxRecDepth 100000
set_option maxHeartbeats 1000000
namespace K79
open DL PySem
/-- a drawn ROW of up to 12 DIGITS -/
theorem p_great_row (n c : Nat) (tin : List D) (p : Int) (k : Nat) (ht : TinOk (c + 2) tin) (hp : 0 < p) (hp2 : p ≤ 1000) (hk : k ≤ 12) :
    ∃ r tin', run Delta (n + 2) f__law_great_row (some tin) [.int p, .int k] = .ok (.val (rowD r)) (some tin') ∧ TinOk c tin' ∧ r.length = k ∧ ∀ x ∈ r, 0 ≤ x ∧ x < p := by
  have inner : ∀ (tin : List D) (f : List Int) (lap : Option Sl) (x : Int) (s6 : Option Sl), f.length ≤ 100 → (∀ x ∈ f, 0 ≤ x ∧ x < p) → ∃ f' x' s6', forLoop (forB (.name 6) (execSs (run Delta (n + 1)) L__law_great_row_0)) ((List.range 6).map fun i : Nat => D.int (i : Int)) [mD tin, vI p, vI k, mD (f.map .int), lap, vI x, s6] = .ok .next [mD tin, vI p, vI k, mD (List.map D.int f'), lap, vI x', s6'] ∧ f'.length = f.length + 6 ∧ ∀ x ∈ f', 0 ≤ x ∧ x < p := fun tin f lap x s6 hf hd => by
    obtain ⟨σ, L, h1, h2⟩ := for_pre (b := forB (.name 6) (execSs (run Delta (n + 1)) L__law_great_row_0)) (fun i : Nat => D.int (i : Int)) (fun _ (σ : List Int × Int × Option Sl) => [mD tin, vI p, vI k, mD (σ.1.map .int), lap, vI σ.2.1, σ.2.2])
      (fun pre σ => σ.1.length = f.length + pre.length ∧ ∀ x ∈ σ.1, 0 ≤ x ∧ x < p) (List.range 6) (f, x, s6) ⟨rfl, hd⟩ fun pre i post σ hs ⟨h1, h2⟩ => by
        have hl := pre_len hs
        rw [List.length_range] at hl
        have hl2 : σ.1.length ≤ 106 := by omega
        refine ⟨(σ.1 ++ [σ.2.1 % p], σ.2.1 / p, vI i), by simp -implicitDefEqProofs (disch := first | omega | assumption) [-Int.natCast_ediv, -Int.natCast_emod, -List.map_take, -List.map_drop, -List.map_reverse, -List.map_append, -List.map_set, -List.map_replicate, -List.map_map, -List.map_dropLast, -Int.natCast_add, -Int.natCast_mul, snoc_map, nc_add, nc_mul, nc_add1, nc_add2, nc_1add, slT_to, slL_to, slT_from, slL_from, slT_mid, slL_mid, forB, L__law_great_row_0, o_mod, o_div], by simp [h1]; omega, ?_⟩
        intro y hy
        rcases List.mem_append.mp hy with z | z
        · exact h2 y z
        · rw [List.mem_singleton.mp z]; exact emod_range hp
    exact ⟨σ.1, σ.2.1, σ.2.2, L, h1, h2⟩
  obtain ⟨σ, L, h1, h2, h3⟩ := for_pre (b := forB (.name 4) (execSs (run Delta (n + 1)) L__law_great_row_1)) (fun i : Nat => D.int (i : Int)) (fun _ (σ : List D × List Int × Option Sl × Option Sl × Option Sl) => [mD σ.1, vI p, vI k, mD (σ.2.1.map .int), σ.2.2.1, σ.2.2.2.1, σ.2.2.2.2])
    (fun pre σ => TinOk (c + (2 - pre.length)) σ.1 ∧ σ.2.1.length = 6 * pre.length ∧ ∀ x ∈ σ.2.1, 0 ≤ x ∧ x < p) (List.range 2) (tin, [], none, none, none) ⟨ht, rfl, by simp⟩ fun pre i post σ hs ⟨h1, h2, h3⟩ => by
      have hl := pre_len hs
      rw [List.length_range] at hl
      obtain ⟨r, t', e, ht', _, _⟩ := p_take n (c + (1 - pre.length)) σ.1 15625 (h1.mono (by omega)) (by omega) (by omega)
      obtain ⟨f', x', s6', L, g1, g2⟩ := inner t' σ.2.1 (vI i) r σ.2.2.2.2 (by omega) h3
      refine ⟨(t', f', vI i, vI x', s6'), by simp -implicitDefEqProofs (disch := first | omega | assumption) [-Int.natCast_ediv, -Int.natCast_emod, -List.map_take, -List.map_drop, -List.map_reverse, -List.map_append, -List.map_set, -List.map_replicate, -List.map_map, -List.map_dropLast, -Int.natCast_add, -Int.natCast_mul, snoc_map, nc_add, nc_mul, nc_add1, nc_add2, nc_1add, slT_to, slL_to, slT_from, slL_from, slT_mid, slL_mid, forB, L__law_great_row_1, e, range0, L], ht'.mono (by simp), ?_, g2⟩
      simp only [List.length_append, List.length_singleton]; omega
  simp only [List.map_nil] at L
  refine ⟨σ.2.1.take k, σ.1, ?_, h1.mono (by omega), by rw [List.length_take, h2]; simp; omega, fun x hx => h3 x (List.mem_of_mem_take hx)⟩
  rw [r__law_great_row]
  simp -implicitDefEqProofs (disch := first | omega | assumption) [-Int.natCast_ediv, -Int.natCast_emod, -List.map_take, -List.map_drop, -List.map_reverse, -List.map_append, -List.map_set, -List.map_replicate, -List.map_map, -List.map_dropLast, -Int.natCast_add, -Int.natCast_mul, snoc_map, nc_add, nc_mul, nc_add1, nc_add2, nc_1add, slT_to, slL_to, slT_from, slL_from, slT_mid, slL_mid, b__law_great_row, range0, L]

end K79
end
section
set_option maxRecDepth 100000
set_option maxHeartbeats 1000000
namespace K79
open DL PySem
theorem pure_law0 (ns : List Int) (hl : ns.length ≤ 63) : run Delta 50 f_law none [.lst (ns.map .int)] = .ok (.val (.bl true)) none := by
  obtain ⟨m, ec⟩ := p_cells 48 ns hl
  obtain ⟨t0, eb, ht0⟩ := p_box 48 m
  obtain ⟨σ, L, _⟩ := for_pre (b := forB (.name 2) (execSs (run Delta 49) L_law_0)) (fun i : Nat => D.int (i : Int)) (fun _ (σ : List D × Option Sl × Option Sl × Option Sl × Option Sl × Option Sl × Option Sl) => [vD (.lst (ns.map .int)), mD σ.1, σ.2.1, σ.2.2.1, σ.2.2.2.1, σ.2.2.2.2.1, σ.2.2.2.2.2.1, σ.2.2.2.2.2.2, none])
    (fun pre σ => TinOk (1000 * (4 - pre.length)) σ.1) (List.range 4) (t0, none, none, none, none, none, none) (ht0.mono (by simp)) fun pre i post σ hs h1 => by
      have hlen := pre_len hs
      rw [List.length_range] at hlen
      obtain ⟨p, t1, e1, ht1, hp⟩ := p_of 47 (1000 * (4 - pre.length) - 1) σ.1 D.int [2, 3, 5] (h1.mono (by omega)) (by simp) (by simp)
      obtain ⟨r, t2, e2, ht2, hr0, hr1⟩ := p_take 48 (1000 * (4 - pre.length) - 2) t1 12 (ht1.mono (by omega)) (by omega) (by omega)
      obtain ⟨w, t3, e3, ht3, hw0, hw1⟩ := p_take 48 (1000 * (4 - pre.length) - 3) t2 8 (ht2.mono (by omega)) (by omega) (by omega)
      obtain ⟨z, t4, e4, ht4, hz0, hz1⟩ := p_take 48 (1000 * (4 - pre.length) - 4) t3 5 (ht3.mono (by omega)) (by omega) (by omega)
      have hp' : p = 2 ∨ p = 3 ∨ p = 5 := by simpa using hp
      simp only [List.map_cons, List.map_nil] at e1
      obtain ⟨mm, hmm⟩ : ∃ mm : Nat, 1 + r = mm := ⟨(1 + r).toNat, by omega⟩
      obtain ⟨ss, hss⟩ : ∃ ss : Nat, 1 + z = ss := ⟨(1 + z).toNat, by omega⟩
      have hm1 : 1 ≤ mm := by omega
      have hm2 : mm ≤ 12 := by omega
      obtain ⟨wd, hwd⟩ : ∃ wd : Nat, max 1 (min (1 + w) ((60 : Int) / (mm : Int))) = wd := ⟨(max 1 (min (1 + w) ((60 : Int) / (mm : Int)))).toNat, by omega⟩
      have hdiv : (mm : Int) * ((60 : Int) / (mm : Int)) ≤ 60 := by have := Int.mul_ediv_self_le (x := 60) (k := mm) (by omega); exact this
      have hwd1 : 1 ≤ wd := by omega
      have hwd2 : mm * wd ≤ 60 := by
        have h60 : (1 : Int) ≤ 60 / (mm : Int) := Int.le_ediv_of_mul_le (by omega) (by omega)
        have : (wd : Int) ≤ 60 / (mm : Int) := by omega
        have h2 := Int.mul_le_mul_of_nonneg_left this (show (0 : Int) ≤ mm by omega)
        have h3 : ((mm * wd : Nat) : Int) ≤ 60 := by rw [Int.natCast_mul]; exact Int.le_trans h2 hdiv
        omega
      -- the block
      have hwd3 : wd ≤ 60 := Nat.le_trans (Nat.le_mul_of_pos_left _ hm1) hwd2
      obtain ⟨acc, t5, e5, B, rfl, hB1, hB2, ht5⟩ := comp_pre (ev := evalE (run Delta 49) (.callIO f__law_great_row 1 (.cons (.var 3) (.cons (.var 6) .nil)))) (te := testE (run Delta 49) (.bl true)) (p := .name 8) (vs := [8]) (fun i : Nat => D.int (i : Int))
        (fun t => [vD (.lst (ns.map .int)), mD t, vI i, vI p, vI mm, vI (min (1 + w) (60 / mm)), vI ss, σ.2.2.2.2.2.2, none])
        (fun pr acc t => ∃ B : List (List Int), acc = B.map rowD ∧ B.length = pr.length ∧ (∀ b ∈ B, b.length = ss ∧ ∀ x ∈ b, 0 ≤ x ∧ x < p) ∧ TinOk (1000 * (4 - pre.length) - 4 - 2 * pr.length) t) (List.range wd) t4 rfl (fun _ => rfl) (fun _ => rfl) (le_LIM (by simp; omega)) ⟨[], rfl, rfl, by simp, ht4⟩
        fun pr j po acc t hs2 ha ⟨B, f1, f2, f3, f4⟩ => by
          have hl2 := pre_len hs2
          rw [List.length_range] at hl2
          obtain ⟨row, t', e, ht', g1, g2⟩ := p_great_row 47 (1000 * (4 - pre.length) - 4 - 2 * (pr.length + 1)) t p ss (f4.mono (by omega)) (by omega) (by omega) (by omega)
          refine ⟨some (rowD row), t', by simp -implicitDefEqProofs (disch := first | omega | assumption) [-Int.natCast_ediv, -Int.natCast_emod, -List.map_take, -List.map_drop, -List.map_reverse, -List.map_append, -List.map_set, -List.map_replicate, -List.map_map, -List.map_dropLast, -Int.natCast_add, -Int.natCast_mul, snoc_map, nc_add, nc_mul, nc_add1, nc_add2, nc_1add, slT_to, slL_to, slT_from, slL_from, slT_mid, slL_mid, e], B ++ [row], by rw [f1]; simp, by simp [f2], ?_, ht'.mono (by simp)⟩
          intro b hb
          rcases List.mem_append.mp hb with z | z
          · exact f3 b z
          · rw [List.mem_singleton.mp z]; exact ⟨g1, g2⟩
      rw [List.length_range] at hB1 ht5
      have hband : BandOk p mm ss B := ⟨hp', by omega, hm2, by omega, by rw [hB1]; exact hwd2, by omega, by omega, fun r hr => (hB2 r hr).1, fun r hr => (hB2 r hr).2⟩
      obtain ⟨t6, e6, ht6⟩ := p__law_band_right hband 19 (1000 * (3 - pre.length)) t5 (ht5.mono (by omega))
      have e7 := p__law_none_right hband 19 t6
      have hmn : min (1 + w) ((60 : Int) / (mm : Int)) ≤ 100 := by omega
      have hK : keyD p mm B = .tup [.int p, .int mm, .tup (B.map rowD)] := rfl
      rw [hK] at e6 e7
      refine ⟨(t6, vI i, vI p, vI mm, vI (min (1 + w) (60 / mm)), vI ss, vD (keyD p mm B)), ?_, ht6.mono (by simp)⟩
      simp -implicitDefEqProofs (disch := first | omega | assumption) [-Int.natCast_ediv, -Int.natCast_emod, -List.map_take, -List.map_drop, -List.map_reverse, -List.map_append, -List.map_set, -List.map_replicate, -List.map_map, -List.map_dropLast, -Int.natCast_add, -Int.natCast_mul, snoc_map, nc_add, nc_mul, nc_add1, nc_add2, nc_1add, slT_to, slL_to, slT_from, slL_from, slT_mid, slL_mid, forB, L_law_0, e1, e2, e3, e4, hmm, hss, o_div, hwd, -comp_G, range0, e5, e6, e7]
  simp only [List.length_range] at L
  rw [r_law]
  simp -implicitDefEqProofs (disch := first | omega | assumption) [-Int.natCast_ediv, -Int.natCast_emod, -List.map_take, -List.map_drop, -List.map_reverse, -List.map_append, -List.map_set, -List.map_replicate, -List.map_map, -List.map_dropLast, -Int.natCast_add, -Int.natCast_mul, snoc_map, nc_add, nc_mul, nc_add1, nc_add2, nc_1add, slT_to, slL_to, slT_from, slL_from, slT_mid, slL_mid, b_law, ec, eb, range0, L]

end K79
end
section
set_option maxRecDepth 100000
set_option maxHeartbeats 400000
namespace K79
open PySem DL
theorem pure_law : ∀ ns : List Int, ns.length ≤ 63 → (∀ z ∈ ns, PySem.Builtin.Int.intBits z ≤ 1048576) → run Delta 50 f_law none [.lst (ns.map .int)] = .ok (.val (.bl true)) none := fun ns hl _ => pure_law0 ns hl
end K79
namespace K79
open PySem PySem.Spec PyProof.Rows L2 DL
def top (i : Nat) : Stmt := PySem.Challenge.pw_drycells_k79_whole_bands_as_blocks_that.main.body.getD i (.Pass ⟨0, 0, 0, 0⟩)
def t_tupled : Dt := ⟨PySem.Str.ofString "tupled", top 5, [PySem.Str.ofString "thing", PySem.Str.ofString "part"], d_tupled⟩
def t_is_number : Dt := ⟨PySem.Str.ofString "is_number", top 6, [PySem.Str.ofString "thing"], d_is_number⟩
def t_is_count : Dt := ⟨PySem.Str.ofString "is_count", top 7, [PySem.Str.ofString "thing"], d_is_count⟩
def t_is_from_one : Dt := ⟨PySem.Str.ofString "is_from_one", top 8, [PySem.Str.ofString "thing"], d_is_from_one⟩
def t_is_below : Dt := ⟨PySem.Str.ofString "is_below", top 9, [PySem.Str.ofString "thing", PySem.Str.ofString "many"], d_is_below⟩
def t_is_tuple_of : Dt := ⟨PySem.Str.ofString "is_tuple_of", top 10, [PySem.Str.ofString "thing", PySem.Str.ofString "size"], d_is_tuple_of⟩
def t_is_prime : Dt := ⟨PySem.Str.ofString "is_prime", top 13, [PySem.Str.ofString "thing"], d_is_prime⟩
def t_is_row : Dt := ⟨PySem.Str.ofString "is_row", top 14, [PySem.Str.ofString "p", PySem.Str.ofString "thing", PySem.Str.ofString "own"], d_is_row⟩
def t_are_rows_of : Dt := ⟨PySem.Str.ofString "are_rows_of", top 16, [PySem.Str.ofString "p", PySem.Str.ofString "many", PySem.Str.ofString "thing", PySem.Str.ofString "own"], d_are_rows_of⟩
def t_is_band : Dt := ⟨PySem.Str.ofString "is_band", top 17, [PySem.Str.ofString "thing", PySem.Str.ofString "block"], d_is_band⟩
def t_band_column : Dt := ⟨PySem.Str.ofString "band_column", top 18, [PySem.Str.ofString "many", PySem.Str.ofString "block", PySem.Str.ofString "number", PySem.Str.ofString "begin", PySem.Str.ofString "row", PySem.Str.ofString "place"], d_band_column⟩
def t_key_of_band : Dt := ⟨PySem.Str.ofString "key_of_band", top 19, [PySem.Str.ofString "p", PySem.Str.ofString "many", PySem.Str.ofString "block", PySem.Str.ofString "number"], d_key_of_band⟩
def t_band_key : Dt := ⟨PySem.Str.ofString "band_key", top 20, [PySem.Str.ofString "band", PySem.Str.ofString "p", PySem.Str.ofString "many", PySem.Str.ofString "block"], d_band_key⟩
def t_band_for : Dt := ⟨PySem.Str.ofString "band_for", top 21, [PySem.Str.ofString "key", PySem.Str.ofString "length", PySem.Str.ofString "p", PySem.Str.ofString "many", PySem.Str.ofString "columns", PySem.Str.ofString "rows", PySem.Str.ofString "own"], d_band_for⟩
def t_read_in : Dt := ⟨PySem.Str.ofString "read_in", top 22, [PySem.Str.ofString "key", PySem.Str.ofString "tones", PySem.Str.ofString "place", PySem.Str.ofString "tone", PySem.Str.ofString "own"], d_read_in⟩
def t_reading_of_rests : Dt := ⟨PySem.Str.ofString "reading_of_rests", top 24, [PySem.Str.ofString "key", PySem.Str.ofString "digits", PySem.Str.ofString "own", PySem.Str.ofString "row", PySem.Str.ofString "part"], d_reading_of_rests⟩
def t_row_spans : Dt := ⟨PySem.Str.ofString "row_spans", top 26, [PySem.Str.ofString "key", PySem.Str.ofString "found", PySem.Str.ofString "row", PySem.Str.ofString "there", PySem.Str.ofString "cell", PySem.Str.ofString "column"], d_row_spans⟩
def t_open_between : Dt := ⟨PySem.Str.ofString "open_between", top 27, [PySem.Str.ofString "spans", PySem.Str.ofString "place", PySem.Str.ofString "row", PySem.Str.ofString "span"], d_open_between⟩
def t_widths : Dt := ⟨PySem.Str.ofString "widths", top 28, [PySem.Str.ofString "key", PySem.Str.ofString "own", PySem.Str.ofString "spans", PySem.Str.ofString "place"], d_widths⟩
def t_widest : Dt := ⟨PySem.Str.ofString "widest", top 29, [PySem.Str.ofString "key"], d_widest⟩
def t_sure_cell_of : Dt := ⟨PySem.Str.ofString "sure_cell_of", top 30, [PySem.Str.ofString "key", PySem.Str.ofString "cell"], d_sure_cell_of⟩
def t_closing_rows : Dt := ⟨PySem.Str.ofString "closing_rows", top 31, [PySem.Str.ofString "key", PySem.Str.ofString "cell", PySem.Str.ofString "own", PySem.Str.ofString "row", PySem.Str.ofString "span"], d_closing_rows⟩
def t__law_box : Dt := ⟨PySem.Str.ofString "_law_box", top 33, [PySem.Str.ofString "script", PySem.Str.ofString "k", PySem.Str.ofString "cell_so"], d__law_box⟩
def t__law_take : Dt := ⟨PySem.Str.ofString "_law_take", top 34, [PySem.Str.ofString "tin", PySem.Str.ofString "below_so", PySem.Str.ofString "drawn", PySem.Str.ofString "once_so", PySem.Str.ofString "wide_so", PySem.Str.ofString "twice_so"], d__law_take⟩
def t__law_cells : Dt := ⟨PySem.Str.ofString "_law_cells", top 35, [PySem.Str.ofString "script", PySem.Str.ofString "most_so", PySem.Str.ofString "cells_so", PySem.Str.ofString "k", PySem.Str.ofString "cell_so", PySem.Str.ofString "at_so"], d__law_cells⟩
def t__law_same : Dt := ⟨PySem.Str.ofString "_law_same", top 36, [PySem.Str.ofString "got", PySem.Str.ofString "due", PySem.Str.ofString "mine", PySem.Str.ofString "its"], d__law_same⟩
def t__law_of : Dt := ⟨PySem.Str.ofString "_law_of", top 37, [PySem.Str.ofString "tin", PySem.Str.ofString "goods_so"], d__law_of⟩
def t__law_lists : Dt := ⟨PySem.Str.ofString "_law_lists", top 38, [PySem.Str.ofString "matter", PySem.Str.ofString "bit"], d__law_lists⟩
def t__law_great_row : Dt := ⟨PySem.Str.ofString "_law_great_row", top 39, [PySem.Str.ofString "tin", PySem.Str.ofString "p_so", PySem.Str.ofString "many_so", PySem.Str.ofString "found", PySem.Str.ofString "lap", PySem.Str.ofString "number_so", PySem.Str.ofString "k"], d__law_great_row⟩
def t__law_spans_of : Dt := ⟨PySem.Str.ofString "_law_spans_of", top 40, [PySem.Str.ofString "key_so", PySem.Str.ofString "found", PySem.Str.ofString "row_so", PySem.Str.ofString "cells_so", PySem.Str.ofString "k", PySem.Str.ofString "own"], d__law_spans_of⟩
def t__law_open_at : Dt := ⟨PySem.Str.ofString "_law_open_at", top 41, [PySem.Str.ofString "key_so", PySem.Str.ofString "place_so", PySem.Str.ofString "spans_so", PySem.Str.ofString "k", PySem.Str.ofString "own"], d__law_open_at⟩
def t__law_columns_so : Dt := ⟨PySem.Str.ofString "_law_columns_so", top 42, [PySem.Str.ofString "band_so", PySem.Str.ofString "p", PySem.Str.ofString "many", PySem.Str.ofString "block_so", PySem.Str.ofString "found", PySem.Str.ofString "j", PySem.Str.ofString "own", PySem.Str.ofString "i", PySem.Str.ofString "digit_so"], d__law_columns_so⟩
def t__law_slid_sum : Dt := ⟨PySem.Str.ofString "_law_slid_sum", top 43, [PySem.Str.ofString "band_so", PySem.Str.ofString "rests_so", PySem.Str.ofString "p", PySem.Str.ofString "many", PySem.Str.ofString "block_so", PySem.Str.ofString "found", PySem.Str.ofString "k", PySem.Str.ofString "own", PySem.Str.ofString "place_so", PySem.Str.ofString "i", PySem.Str.ofString "digit_so"], d__law_slid_sum⟩
def t__law_heard : Dt := ⟨PySem.Str.ofString "_law_heard", top 44, [PySem.Str.ofString "key_so", PySem.Str.ofString "size_so", PySem.Str.ofString "told"], d__law_heard⟩
def t__law_cut_block : Dt := ⟨PySem.Str.ofString "_law_cut_block", top 45, [PySem.Str.ofString "band_so", PySem.Str.ofString "size_so", PySem.Str.ofString "p", PySem.Str.ofString "many", PySem.Str.ofString "block_so", PySem.Str.ofString "rows_so", PySem.Str.ofString "own", PySem.Str.ofString "row_so", PySem.Str.ofString "i", PySem.Str.ofString "digit_so"], d__law_cut_block⟩
def t__law_band_right : Dt := ⟨PySem.Str.ofString "_law_band_right", top 46, [PySem.Str.ofString "tin", PySem.Str.ofString "band_so", PySem.Str.ofString "p", PySem.Str.ofString "many", PySem.Str.ofString "block_so", PySem.Str.ofString "wide_so", PySem.Str.ofString "size_so", PySem.Str.ofString "key_so", PySem.Str.ofString "rests_so", PySem.Str.ofString "own", PySem.Str.ofString "due", PySem.Str.ofString "opened_so", PySem.Str.ofString "ends_so", PySem.Str.ofString "spans_so", PySem.Str.ofString "k"], d__law_band_right⟩
def t__law_none_right : Dt := ⟨PySem.Str.ofString "_law_none_right", top 47, [PySem.Str.ofString "tin", PySem.Str.ofString "band_so", PySem.Str.ofString "p", PySem.Str.ofString "many", PySem.Str.ofString "block_so", PySem.Str.ofString "columns_so", PySem.Str.ofString "wide_so", PySem.Str.ofString "got", PySem.Str.ofString "bent_so"], d__law_none_right⟩
def t_law : Dt := ⟨PySem.Str.ofString "law", top 48, [PySem.Str.ofString "script", PySem.Str.ofString "tin", PySem.Str.ofString "lap", PySem.Str.ofString "p", PySem.Str.ofString "many", PySem.Str.ofString "wide_so", PySem.Str.ofString "size_so", PySem.Str.ofString "band_so", PySem.Str.ofString "k"], d_law⟩
def Tab : List Dt := [t_tupled, t_is_number, t_is_count, t_is_from_one, t_is_below, t_is_tuple_of, t_is_prime, t_is_row, t_are_rows_of, t_is_band, t_band_column, t_key_of_band, t_band_key, t_band_for, t_read_in, t_reading_of_rests, t_row_spans, t_open_between, t_widths, t_widest, t_sure_cell_of, t_closing_rows, t__law_box, t__law_take, t__law_cells, t__law_same, t__law_of, t__law_lists, t__law_great_row, t__law_spans_of, t__law_open_at, t__law_columns_so, t__law_slid_sum, t__law_heard, t__law_cut_block, t__law_band_right, t__law_none_right, t_law]
def G : List (Str × GK) := [(PySem.Str.ofString "PRIMES", .const (.tup [.int 2, .int 3, .int 5])), (PySem.Str.ofString "Unfit", .exc 0), (PySem.Str.ofString "NoPaper", .exc 1), (PySem.Str.ofString "tupled", .fn 0 1 false), (PySem.Str.ofString "is_number", .fn 1 1 false), (PySem.Str.ofString "is_count", .fn 2 1 false), (PySem.Str.ofString "is_from_one", .fn 3 1 false), (PySem.Str.ofString "is_below", .fn 4 2 false), (PySem.Str.ofString "is_tuple_of", .fn 5 2 false), (PySem.Str.ofString "is_prime", .fn 6 1 false), (PySem.Str.ofString "is_row", .fn 7 2 false), (PySem.Str.ofString "are_rows_of", .fn 8 3 false), (PySem.Str.ofString "is_band", .fn 9 1 false), (PySem.Str.ofString "band_column", .fn 10 3 false), (PySem.Str.ofString "key_of_band", .fn 11 3 false), (PySem.Str.ofString "band_key", .fn 12 1 false), (PySem.Str.ofString "band_for", .fn 13 2 false), (PySem.Str.ofString "read_in", .fn 14 2 false), (PySem.Str.ofString "reading_of_rests", .fn 15 2 false), (PySem.Str.ofString "row_spans", .fn 16 1 false), (PySem.Str.ofString "open_between", .fn 17 2 false), (PySem.Str.ofString "widths", .fn 18 1 false), (PySem.Str.ofString "widest", .fn 19 1 false), (PySem.Str.ofString "sure_cell_of", .fn 20 2 false), (PySem.Str.ofString "closing_rows", .fn 21 2 false), (PySem.Str.ofString "_law_box", .fn 22 2 false), (PySem.Str.ofString "_law_take", .fn 23 2 true), (PySem.Str.ofString "_law_cells", .fn 24 2 false), (PySem.Str.ofString "_law_same", .fn 25 2 false), (PySem.Str.ofString "_law_of", .fn 26 2 true), (PySem.Str.ofString "_law_lists", .fn 27 1 false), (PySem.Str.ofString "_law_great_row", .fn 28 3 true), (PySem.Str.ofString "_law_spans_of", .fn 29 1 false), (PySem.Str.ofString "_law_open_at", .fn 30 2 false), (PySem.Str.ofString "_law_columns_so", .fn 31 1 false), (PySem.Str.ofString "_law_slid_sum", .fn 32 2 false), (PySem.Str.ofString "_law_heard", .fn 33 2 false), (PySem.Str.ofString "_law_cut_block", .fn 34 2 false), (PySem.Str.ofString "_law_band_right", .fn 35 2 true), (PySem.Str.ofString "_law_none_right", .fn 36 2 true), (PySem.Str.ofString "law", .fn 37 1 false)]
def B : List Str := [PySem.Str.ofString "isinstance", PySem.Str.ofString "tuple", PySem.Str.ofString "list", PySem.Str.ofString "int", PySem.Str.ofString "bool", PySem.Str.ofString "len", PySem.Str.ofString "all", PySem.Str.ofString "range", PySem.Str.ofString "sum", PySem.Str.ofString "zip", PySem.Str.ofString "enumerate", PySem.Str.ofString "max", PySem.Str.ofString "abs", PySem.Str.ofString "str", PySem.Str.ofString "any", PySem.Str.ofString "min", PySem.Str.ofString "sorted", PySem.Str.ofString "set"]
def XX : List (Str × List Nat × List Nat) := [(PySem.Str.ofString "NoPaper", [1], [0])]
theorem tab_ok : tabB Tab G = true := by decide +kernel
theorem ck_tupled : dtB G B XX t_tupled = true := by decide +kernel
theorem ck_is_number : dtB G B XX t_is_number = true := by decide +kernel
theorem ck_is_count : dtB G B XX t_is_count = true := by decide +kernel
theorem ck_is_from_one : dtB G B XX t_is_from_one = true := by decide +kernel
theorem ck_is_below : dtB G B XX t_is_below = true := by decide +kernel
theorem ck_is_tuple_of : dtB G B XX t_is_tuple_of = true := by decide +kernel
theorem ck_is_prime : dtB G B XX t_is_prime = true := by decide +kernel
theorem ck_is_row : dtB G B XX t_is_row = true := by decide +kernel
theorem ck_are_rows_of : dtB G B XX t_are_rows_of = true := by decide +kernel
theorem ck_is_band : dtB G B XX t_is_band = true := by decide +kernel
theorem ck_band_column : dtB G B XX t_band_column = true := by decide +kernel
theorem ck_key_of_band : dtB G B XX t_key_of_band = true := by decide +kernel
theorem ck_band_key : dtB G B XX t_band_key = true := by decide +kernel
theorem ck_band_for : dtB G B XX t_band_for = true := by decide +kernel
theorem ck_read_in : dtB G B XX t_read_in = true := by decide +kernel
theorem ck_reading_of_rests : dtB G B XX t_reading_of_rests = true := by decide +kernel
theorem ck_row_spans : dtB G B XX t_row_spans = true := by decide +kernel
theorem ck_open_between : dtB G B XX t_open_between = true := by decide +kernel
theorem ck_widths : dtB G B XX t_widths = true := by decide +kernel
theorem ck_widest : dtB G B XX t_widest = true := by decide +kernel
theorem ck_sure_cell_of : dtB G B XX t_sure_cell_of = true := by decide +kernel
theorem ck_closing_rows : dtB G B XX t_closing_rows = true := by decide +kernel
theorem ck__law_box : dtB G B XX t__law_box = true := by decide +kernel
theorem ck__law_take : dtB G B XX t__law_take = true := by decide +kernel
theorem ck__law_cells : dtB G B XX t__law_cells = true := by decide +kernel
theorem ck__law_same : dtB G B XX t__law_same = true := by decide +kernel
theorem ck__law_of : dtB G B XX t__law_of = true := by decide +kernel
theorem ck__law_lists : dtB G B XX t__law_lists = true := by decide +kernel
theorem ck__law_great_row : dtB G B XX t__law_great_row = true := by decide +kernel
theorem ck__law_spans_of : dtB G B XX t__law_spans_of = true := by decide +kernel
theorem ck__law_open_at : dtB G B XX t__law_open_at = true := by decide +kernel
theorem ck__law_columns_so : dtB G B XX t__law_columns_so = true := by decide +kernel
theorem ck__law_slid_sum : dtB G B XX t__law_slid_sum = true := by decide +kernel
theorem ck__law_heard : dtB G B XX t__law_heard = true := by decide +kernel
theorem ck__law_cut_block : dtB G B XX t__law_cut_block = true := by decide +kernel
theorem ck__law_band_right : dtB G B XX t__law_band_right = true := by decide +kernel
theorem ck__law_none_right : dtB G B XX t__law_none_right = true := by decide +kernel
theorem ck_law : dtB G B XX t_law = true := by decide +kernel
theorem dts_ok : (Tab.all (dtB G B XX)) = true := by
  simp only [Tab, List.all_cons, List.all_nil, Bool.and_true, Bool.and_self, ck_tupled, ck_is_number, ck_is_count, ck_is_from_one, ck_is_below, ck_is_tuple_of, ck_is_prime, ck_is_row, ck_are_rows_of, ck_is_band, ck_band_column, ck_key_of_band, ck_band_key, ck_band_for, ck_read_in, ck_reading_of_rests, ck_row_spans, ck_open_between, ck_widths, ck_widest, ck_sure_cell_of, ck_closing_rows, ck__law_box, ck__law_take, ck__law_cells, ck__law_same, ck__law_of, ck__law_lists, ck__law_great_row, ck__law_spans_of, ck__law_open_at, ck__law_columns_so, ck__law_slid_sum, ck__law_heard, ck__law_cut_block, ck__law_band_right, ck__law_none_right, ck_law]
def cls (C_Unfit C_NoPaper : Addr) : Nat → Addr
  | 0 => C_Unfit
  | 1 => C_NoPaper
  | _ => C_Unfit
theorem all_mk {P : Program} {w : World} {K : PySem.W.Frag} {h : Heap} {mg : Str → Option Value} {fa : Addr} (X : K.In h) (Gx : h.Ns mainGlobals mg) (hfa : mg "law" = some (.ref fa))
    {a_PRIMES : Addr} {dd_PRIMES : Option Addr} {nn_PRIMES : Nat} {sl_PRIMES : Array (Option Value)} {tk0_PRIMES tk1_PRIMES tk2_PRIMES : Tok}
    {C_Unfit : Addr}
    {C_NoPaper : Addr}
    {ftupled : Addr} {odtupled antupled : Option Addr} {ostupled : Array (Option Value)} {octupled kvtupled dctupled pmtupled cdtupled cttupled : Value}
    {fis_number : Addr} {odis_number anis_number : Option Addr} {osis_number : Array (Option Value)} {ocis_number kvis_number dcis_number pmis_number cdis_number ctis_number : Value}
    {fis_count : Addr} {odis_count anis_count : Option Addr} {osis_count : Array (Option Value)} {ocis_count kvis_count dcis_count pmis_count cdis_count ctis_count : Value}
    {fis_from_one : Addr} {odis_from_one anis_from_one : Option Addr} {osis_from_one : Array (Option Value)} {ocis_from_one kvis_from_one dcis_from_one pmis_from_one cdis_from_one ctis_from_one : Value}
    {fis_below : Addr} {odis_below anis_below : Option Addr} {osis_below : Array (Option Value)} {ocis_below kvis_below dcis_below pmis_below cdis_below ctis_below : Value}
    {fis_tuple_of : Addr} {odis_tuple_of anis_tuple_of : Option Addr} {osis_tuple_of : Array (Option Value)} {ocis_tuple_of kvis_tuple_of dcis_tuple_of pmis_tuple_of cdis_tuple_of ctis_tuple_of : Value}
    {fis_prime : Addr} {odis_prime anis_prime : Option Addr} {osis_prime : Array (Option Value)} {ocis_prime kvis_prime dcis_prime pmis_prime cdis_prime ctis_prime : Value}
    {fis_row : Addr} {odis_row anis_row : Option Addr} {osis_row : Array (Option Value)} {ocis_row kvis_row dcis_row pmis_row cdis_row ctis_row : Value}
    {fare_rows_of : Addr} {odare_rows_of anare_rows_of : Option Addr} {osare_rows_of : Array (Option Value)} {ocare_rows_of kvare_rows_of dcare_rows_of pmare_rows_of cdare_rows_of ctare_rows_of : Value}
    {fis_band : Addr} {odis_band anis_band : Option Addr} {osis_band : Array (Option Value)} {ocis_band kvis_band dcis_band pmis_band cdis_band ctis_band : Value}
    {fband_column : Addr} {odband_column anband_column : Option Addr} {osband_column : Array (Option Value)} {ocband_column kvband_column dcband_column pmband_column cdband_column ctband_column : Value}
    {fkey_of_band : Addr} {odkey_of_band ankey_of_band : Option Addr} {oskey_of_band : Array (Option Value)} {ockey_of_band kvkey_of_band dckey_of_band pmkey_of_band cdkey_of_band ctkey_of_band : Value}
    {fband_key : Addr} {odband_key anband_key : Option Addr} {osband_key : Array (Option Value)} {ocband_key kvband_key dcband_key pmband_key cdband_key ctband_key : Value}
    {fband_for : Addr} {odband_for anband_for : Option Addr} {osband_for : Array (Option Value)} {ocband_for kvband_for dcband_for pmband_for cdband_for ctband_for : Value}
    {fread_in : Addr} {odread_in anread_in : Option Addr} {osread_in : Array (Option Value)} {ocread_in kvread_in dcread_in pmread_in cdread_in ctread_in : Value}
    {freading_of_rests : Addr} {odreading_of_rests anreading_of_rests : Option Addr} {osreading_of_rests : Array (Option Value)} {ocreading_of_rests kvreading_of_rests dcreading_of_rests pmreading_of_rests cdreading_of_rests ctreading_of_rests : Value}
    {frow_spans : Addr} {odrow_spans anrow_spans : Option Addr} {osrow_spans : Array (Option Value)} {ocrow_spans kvrow_spans dcrow_spans pmrow_spans cdrow_spans ctrow_spans : Value}
    {fopen_between : Addr} {odopen_between anopen_between : Option Addr} {osopen_between : Array (Option Value)} {ocopen_between kvopen_between dcopen_between pmopen_between cdopen_between ctopen_between : Value}
    {fwidths : Addr} {odwidths anwidths : Option Addr} {oswidths : Array (Option Value)} {ocwidths kvwidths dcwidths pmwidths cdwidths ctwidths : Value}
    {fwidest : Addr} {odwidest anwidest : Option Addr} {oswidest : Array (Option Value)} {ocwidest kvwidest dcwidest pmwidest cdwidest ctwidest : Value}
    {fsure_cell_of : Addr} {odsure_cell_of ansure_cell_of : Option Addr} {ossure_cell_of : Array (Option Value)} {ocsure_cell_of kvsure_cell_of dcsure_cell_of pmsure_cell_of cdsure_cell_of ctsure_cell_of : Value}
    {fclosing_rows : Addr} {odclosing_rows anclosing_rows : Option Addr} {osclosing_rows : Array (Option Value)} {occlosing_rows kvclosing_rows dcclosing_rows pmclosing_rows cdclosing_rows ctclosing_rows : Value}
    {f_law_box : Addr} {od_law_box an_law_box : Option Addr} {os_law_box : Array (Option Value)} {oc_law_box kv_law_box dc_law_box pm_law_box cd_law_box ct_law_box : Value}
    {f_law_take : Addr} {od_law_take an_law_take : Option Addr} {os_law_take : Array (Option Value)} {oc_law_take kv_law_take dc_law_take pm_law_take cd_law_take ct_law_take : Value}
    {f_law_cells : Addr} {od_law_cells an_law_cells : Option Addr} {os_law_cells : Array (Option Value)} {oc_law_cells kv_law_cells dc_law_cells pm_law_cells cd_law_cells ct_law_cells : Value}
    {f_law_same : Addr} {od_law_same an_law_same : Option Addr} {os_law_same : Array (Option Value)} {oc_law_same kv_law_same dc_law_same pm_law_same cd_law_same ct_law_same : Value}
    {f_law_of : Addr} {od_law_of an_law_of : Option Addr} {os_law_of : Array (Option Value)} {oc_law_of kv_law_of dc_law_of pm_law_of cd_law_of ct_law_of : Value}
    {f_law_lists : Addr} {od_law_lists an_law_lists : Option Addr} {os_law_lists : Array (Option Value)} {oc_law_lists kv_law_lists dc_law_lists pm_law_lists cd_law_lists ct_law_lists : Value}
    {f_law_great_row : Addr} {od_law_great_row an_law_great_row : Option Addr} {os_law_great_row : Array (Option Value)} {oc_law_great_row kv_law_great_row dc_law_great_row pm_law_great_row cd_law_great_row ct_law_great_row : Value}
    {f_law_spans_of : Addr} {od_law_spans_of an_law_spans_of : Option Addr} {os_law_spans_of : Array (Option Value)} {oc_law_spans_of kv_law_spans_of dc_law_spans_of pm_law_spans_of cd_law_spans_of ct_law_spans_of : Value}
    {f_law_open_at : Addr} {od_law_open_at an_law_open_at : Option Addr} {os_law_open_at : Array (Option Value)} {oc_law_open_at kv_law_open_at dc_law_open_at pm_law_open_at cd_law_open_at ct_law_open_at : Value}
    {f_law_columns_so : Addr} {od_law_columns_so an_law_columns_so : Option Addr} {os_law_columns_so : Array (Option Value)} {oc_law_columns_so kv_law_columns_so dc_law_columns_so pm_law_columns_so cd_law_columns_so ct_law_columns_so : Value}
    {f_law_slid_sum : Addr} {od_law_slid_sum an_law_slid_sum : Option Addr} {os_law_slid_sum : Array (Option Value)} {oc_law_slid_sum kv_law_slid_sum dc_law_slid_sum pm_law_slid_sum cd_law_slid_sum ct_law_slid_sum : Value}
    {f_law_heard : Addr} {od_law_heard an_law_heard : Option Addr} {os_law_heard : Array (Option Value)} {oc_law_heard kv_law_heard dc_law_heard pm_law_heard cd_law_heard ct_law_heard : Value}
    {f_law_cut_block : Addr} {od_law_cut_block an_law_cut_block : Option Addr} {os_law_cut_block : Array (Option Value)} {oc_law_cut_block kv_law_cut_block dc_law_cut_block pm_law_cut_block cd_law_cut_block ct_law_cut_block : Value}
    {f_law_band_right : Addr} {od_law_band_right an_law_band_right : Option Addr} {os_law_band_right : Array (Option Value)} {oc_law_band_right kv_law_band_right dc_law_band_right pm_law_band_right cd_law_band_right ct_law_band_right : Value}
    {f_law_none_right : Addr} {od_law_none_right an_law_none_right : Option Addr} {os_law_none_right : Array (Option Value)} {oc_law_none_right kv_law_none_right dc_law_none_right pm_law_none_right cd_law_none_right ct_law_none_right : Value}
    {flaw : Addr} {odlaw anlaw : Option Addr} {oslaw : Array (Option Value)} {oclaw kvlaw dclaw pmlaw cdlaw ctlaw : Value}
    (n_isinstance : PySem.W.nsIn K mainGlobals "isinstance" = some none)
    (n_tuple : PySem.W.nsIn K mainGlobals "tuple" = some none)
    (n_list : PySem.W.nsIn K mainGlobals "list" = some none)
    (n_int : PySem.W.nsIn K mainGlobals "int" = some none)
    (n_bool : PySem.W.nsIn K mainGlobals "bool" = some none)
    (n_len : PySem.W.nsIn K mainGlobals "len" = some none)
    (n_all : PySem.W.nsIn K mainGlobals "all" = some none)
    (n_range : PySem.W.nsIn K mainGlobals "range" = some none)
    (n_sum : PySem.W.nsIn K mainGlobals "sum" = some none)
    (n_zip : PySem.W.nsIn K mainGlobals "zip" = some none)
    (n_enumerate : PySem.W.nsIn K mainGlobals "enumerate" = some none)
    (n_max : PySem.W.nsIn K mainGlobals "max" = some none)
    (n_abs : PySem.W.nsIn K mainGlobals "abs" = some none)
    (n_str : PySem.W.nsIn K mainGlobals "str" = some none)
    (n_any : PySem.W.nsIn K mainGlobals "any" = some none)
    (n_min : PySem.W.nsIn K mainGlobals "min" = some none)
    (n_sorted : PySem.W.nsIn K mainGlobals "sorted" = some none)
    (n_set : PySem.W.nsIn K mainGlobals "set" = some none)
    (v_PRIMES : PySem.W.nsIn K mainGlobals "PRIMES" = some (some (.ref a_PRIMES)))
    (w_PRIMES : K.lookup a_PRIMES = some ⟨.type "tuple", dd_PRIMES, .seq #[.int 2 tk0_PRIMES, .int 3 tk1_PRIMES, .int 5 tk2_PRIMES] nn_PRIMES, sl_PRIMES⟩)
    (a_Unfit : PySem.W.nsIn K mainGlobals "Unfit" = some (some (.ref C_Unfit)))
    (e_Unfit : PySem.W.excIn K C_Unfit [.type "ValueError", .type "Exception", .type "BaseException", .type "object"] "ValueError.__new__" = true)
    (p_Unfit : PySem.W.keepIn K (.ref C_Unfit) = true)
    (s_Unfit : PySem.W.subIn K (.ref C_Unfit) (.type "BaseException") = some true)
    (y_Unfit : PySem.W.typeIn K (.ref C_Unfit) = some (.type "type"))
    (a_NoPaper : PySem.W.nsIn K mainGlobals "NoPaper" = some (some (.ref C_NoPaper)))
    (e_NoPaper : PySem.W.excIn K C_NoPaper [.type "ValueError", .type "Exception", .type "BaseException", .type "object"] "ValueError.__new__" = true)
    (p_NoPaper : PySem.W.keepIn K (.ref C_NoPaper) = true)
    (s_NoPaper : PySem.W.subIn K (.ref C_NoPaper) (.type "BaseException") = some true)
    (y_NoPaper : PySem.W.typeIn K (.ref C_NoPaper) = some (.type "type"))
    (i_NoPaper : PySem.W.isClsIn K C_NoPaper = true)
    (s_NoPaper_1 : PySem.W.subIn K (.ref C_NoPaper) (.ref C_NoPaper) = some true)
    (s_NoPaper_0 : PySem.W.subIn K (.ref C_Unfit) (.ref C_NoPaper) = some false)
    (gtupled : PySem.W.nsIn K mainGlobals "tupled" = some (some (.ref ftupled)))
    (ltupled : K.lookup ftupled = some ⟨octupled, odtupled, .func (PySem.W.fnOf "tupled" "tupled" (defArgs (top 5)) (defBody (top 5)) (defScope (top 5)) .none kvtupled dctupled pmtupled antupled cdtupled cttupled), ostupled⟩)
    (ctupled : PySem.W.codeIn K cdtupled "tupled" = true)
    (ktupled : PySem.W.keepIn K (.ref ftupled) = true)
    (gis_number : PySem.W.nsIn K mainGlobals "is_number" = some (some (.ref fis_number)))
    (lis_number : K.lookup fis_number = some ⟨ocis_number, odis_number, .func (PySem.W.fnOf "is_number" "is_number" (defArgs (top 6)) (defBody (top 6)) (defScope (top 6)) .none kvis_number dcis_number pmis_number anis_number cdis_number ctis_number), osis_number⟩)
    (cis_number : PySem.W.codeIn K cdis_number "is_number" = true)
    (kis_number : PySem.W.keepIn K (.ref fis_number) = true)
    (gis_count : PySem.W.nsIn K mainGlobals "is_count" = some (some (.ref fis_count)))
    (lis_count : K.lookup fis_count = some ⟨ocis_count, odis_count, .func (PySem.W.fnOf "is_count" "is_count" (defArgs (top 7)) (defBody (top 7)) (defScope (top 7)) .none kvis_count dcis_count pmis_count anis_count cdis_count ctis_count), osis_count⟩)
    (cis_count : PySem.W.codeIn K cdis_count "is_count" = true)
    (kis_count : PySem.W.keepIn K (.ref fis_count) = true)
    (gis_from_one : PySem.W.nsIn K mainGlobals "is_from_one" = some (some (.ref fis_from_one)))
    (lis_from_one : K.lookup fis_from_one = some ⟨ocis_from_one, odis_from_one, .func (PySem.W.fnOf "is_from_one" "is_from_one" (defArgs (top 8)) (defBody (top 8)) (defScope (top 8)) .none kvis_from_one dcis_from_one pmis_from_one anis_from_one cdis_from_one ctis_from_one), osis_from_one⟩)
    (cis_from_one : PySem.W.codeIn K cdis_from_one "is_from_one" = true)
    (kis_from_one : PySem.W.keepIn K (.ref fis_from_one) = true)
    (gis_below : PySem.W.nsIn K mainGlobals "is_below" = some (some (.ref fis_below)))
    (lis_below : K.lookup fis_below = some ⟨ocis_below, odis_below, .func (PySem.W.fnOf "is_below" "is_below" (defArgs (top 9)) (defBody (top 9)) (defScope (top 9)) .none kvis_below dcis_below pmis_below anis_below cdis_below ctis_below), osis_below⟩)
    (cis_below : PySem.W.codeIn K cdis_below "is_below" = true)
    (kis_below : PySem.W.keepIn K (.ref fis_below) = true)
    (gis_tuple_of : PySem.W.nsIn K mainGlobals "is_tuple_of" = some (some (.ref fis_tuple_of)))
    (lis_tuple_of : K.lookup fis_tuple_of = some ⟨ocis_tuple_of, odis_tuple_of, .func (PySem.W.fnOf "is_tuple_of" "is_tuple_of" (defArgs (top 10)) (defBody (top 10)) (defScope (top 10)) .none kvis_tuple_of dcis_tuple_of pmis_tuple_of anis_tuple_of cdis_tuple_of ctis_tuple_of), osis_tuple_of⟩)
    (cis_tuple_of : PySem.W.codeIn K cdis_tuple_of "is_tuple_of" = true)
    (kis_tuple_of : PySem.W.keepIn K (.ref fis_tuple_of) = true)
    (gis_prime : PySem.W.nsIn K mainGlobals "is_prime" = some (some (.ref fis_prime)))
    (lis_prime : K.lookup fis_prime = some ⟨ocis_prime, odis_prime, .func (PySem.W.fnOf "is_prime" "is_prime" (defArgs (top 13)) (defBody (top 13)) (defScope (top 13)) .none kvis_prime dcis_prime pmis_prime anis_prime cdis_prime ctis_prime), osis_prime⟩)
    (cis_prime : PySem.W.codeIn K cdis_prime "is_prime" = true)
    (kis_prime : PySem.W.keepIn K (.ref fis_prime) = true)
    (gis_row : PySem.W.nsIn K mainGlobals "is_row" = some (some (.ref fis_row)))
    (lis_row : K.lookup fis_row = some ⟨ocis_row, odis_row, .func (PySem.W.fnOf "is_row" "is_row" (defArgs (top 14)) (defBody (top 14)) (defScope (top 14)) .none kvis_row dcis_row pmis_row anis_row cdis_row ctis_row), osis_row⟩)
    (cis_row : PySem.W.codeIn K cdis_row "is_row" = true)
    (kis_row : PySem.W.keepIn K (.ref fis_row) = true)
    (gare_rows_of : PySem.W.nsIn K mainGlobals "are_rows_of" = some (some (.ref fare_rows_of)))
    (lare_rows_of : K.lookup fare_rows_of = some ⟨ocare_rows_of, odare_rows_of, .func (PySem.W.fnOf "are_rows_of" "are_rows_of" (defArgs (top 16)) (defBody (top 16)) (defScope (top 16)) .none kvare_rows_of dcare_rows_of pmare_rows_of anare_rows_of cdare_rows_of ctare_rows_of), osare_rows_of⟩)
    (care_rows_of : PySem.W.codeIn K cdare_rows_of "are_rows_of" = true)
    (kare_rows_of : PySem.W.keepIn K (.ref fare_rows_of) = true)
    (gis_band : PySem.W.nsIn K mainGlobals "is_band" = some (some (.ref fis_band)))
    (lis_band : K.lookup fis_band = some ⟨ocis_band, odis_band, .func (PySem.W.fnOf "is_band" "is_band" (defArgs (top 17)) (defBody (top 17)) (defScope (top 17)) .none kvis_band dcis_band pmis_band anis_band cdis_band ctis_band), osis_band⟩)
    (cis_band : PySem.W.codeIn K cdis_band "is_band" = true)
    (kis_band : PySem.W.keepIn K (.ref fis_band) = true)
    (gband_column : PySem.W.nsIn K mainGlobals "band_column" = some (some (.ref fband_column)))
    (lband_column : K.lookup fband_column = some ⟨ocband_column, odband_column, .func (PySem.W.fnOf "band_column" "band_column" (defArgs (top 18)) (defBody (top 18)) (defScope (top 18)) .none kvband_column dcband_column pmband_column anband_column cdband_column ctband_column), osband_column⟩)
    (cband_column : PySem.W.codeIn K cdband_column "band_column" = true)
    (kband_column : PySem.W.keepIn K (.ref fband_column) = true)
    (gkey_of_band : PySem.W.nsIn K mainGlobals "key_of_band" = some (some (.ref fkey_of_band)))
    (lkey_of_band : K.lookup fkey_of_band = some ⟨ockey_of_band, odkey_of_band, .func (PySem.W.fnOf "key_of_band" "key_of_band" (defArgs (top 19)) (defBody (top 19)) (defScope (top 19)) .none kvkey_of_band dckey_of_band pmkey_of_band ankey_of_band cdkey_of_band ctkey_of_band), oskey_of_band⟩)
    (ckey_of_band : PySem.W.codeIn K cdkey_of_band "key_of_band" = true)
    (kkey_of_band : PySem.W.keepIn K (.ref fkey_of_band) = true)
    (gband_key : PySem.W.nsIn K mainGlobals "band_key" = some (some (.ref fband_key)))
    (lband_key : K.lookup fband_key = some ⟨ocband_key, odband_key, .func (PySem.W.fnOf "band_key" "band_key" (defArgs (top 20)) (defBody (top 20)) (defScope (top 20)) .none kvband_key dcband_key pmband_key anband_key cdband_key ctband_key), osband_key⟩)
    (cband_key : PySem.W.codeIn K cdband_key "band_key" = true)
    (kband_key : PySem.W.keepIn K (.ref fband_key) = true)
    (gband_for : PySem.W.nsIn K mainGlobals "band_for" = some (some (.ref fband_for)))
    (lband_for : K.lookup fband_for = some ⟨ocband_for, odband_for, .func (PySem.W.fnOf "band_for" "band_for" (defArgs (top 21)) (defBody (top 21)) (defScope (top 21)) .none kvband_for dcband_for pmband_for anband_for cdband_for ctband_for), osband_for⟩)
    (cband_for : PySem.W.codeIn K cdband_for "band_for" = true)
    (kband_for : PySem.W.keepIn K (.ref fband_for) = true)
    (gread_in : PySem.W.nsIn K mainGlobals "read_in" = some (some (.ref fread_in)))
    (lread_in : K.lookup fread_in = some ⟨ocread_in, odread_in, .func (PySem.W.fnOf "read_in" "read_in" (defArgs (top 22)) (defBody (top 22)) (defScope (top 22)) .none kvread_in dcread_in pmread_in anread_in cdread_in ctread_in), osread_in⟩)
    (cread_in : PySem.W.codeIn K cdread_in "read_in" = true)
    (kread_in : PySem.W.keepIn K (.ref fread_in) = true)
    (greading_of_rests : PySem.W.nsIn K mainGlobals "reading_of_rests" = some (some (.ref freading_of_rests)))
    (lreading_of_rests : K.lookup freading_of_rests = some ⟨ocreading_of_rests, odreading_of_rests, .func (PySem.W.fnOf "reading_of_rests" "reading_of_rests" (defArgs (top 24)) (defBody (top 24)) (defScope (top 24)) .none kvreading_of_rests dcreading_of_rests pmreading_of_rests anreading_of_rests cdreading_of_rests ctreading_of_rests), osreading_of_rests⟩)
    (creading_of_rests : PySem.W.codeIn K cdreading_of_rests "reading_of_rests" = true)
    (kreading_of_rests : PySem.W.keepIn K (.ref freading_of_rests) = true)
    (grow_spans : PySem.W.nsIn K mainGlobals "row_spans" = some (some (.ref frow_spans)))
    (lrow_spans : K.lookup frow_spans = some ⟨ocrow_spans, odrow_spans, .func (PySem.W.fnOf "row_spans" "row_spans" (defArgs (top 26)) (defBody (top 26)) (defScope (top 26)) .none kvrow_spans dcrow_spans pmrow_spans anrow_spans cdrow_spans ctrow_spans), osrow_spans⟩)
    (crow_spans : PySem.W.codeIn K cdrow_spans "row_spans" = true)
    (krow_spans : PySem.W.keepIn K (.ref frow_spans) = true)
    (gopen_between : PySem.W.nsIn K mainGlobals "open_between" = some (some (.ref fopen_between)))
    (lopen_between : K.lookup fopen_between = some ⟨ocopen_between, odopen_between, .func (PySem.W.fnOf "open_between" "open_between" (defArgs (top 27)) (defBody (top 27)) (defScope (top 27)) .none kvopen_between dcopen_between pmopen_between anopen_between cdopen_between ctopen_between), osopen_between⟩)
    (copen_between : PySem.W.codeIn K cdopen_between "open_between" = true)
    (kopen_between : PySem.W.keepIn K (.ref fopen_between) = true)
    (gwidths : PySem.W.nsIn K mainGlobals "widths" = some (some (.ref fwidths)))
    (lwidths : K.lookup fwidths = some ⟨ocwidths, odwidths, .func (PySem.W.fnOf "widths" "widths" (defArgs (top 28)) (defBody (top 28)) (defScope (top 28)) .none kvwidths dcwidths pmwidths anwidths cdwidths ctwidths), oswidths⟩)
    (cwidths : PySem.W.codeIn K cdwidths "widths" = true)
    (kwidths : PySem.W.keepIn K (.ref fwidths) = true)
    (gwidest : PySem.W.nsIn K mainGlobals "widest" = some (some (.ref fwidest)))
    (lwidest : K.lookup fwidest = some ⟨ocwidest, odwidest, .func (PySem.W.fnOf "widest" "widest" (defArgs (top 29)) (defBody (top 29)) (defScope (top 29)) .none kvwidest dcwidest pmwidest anwidest cdwidest ctwidest), oswidest⟩)
    (cwidest : PySem.W.codeIn K cdwidest "widest" = true)
    (kwidest : PySem.W.keepIn K (.ref fwidest) = true)
    (gsure_cell_of : PySem.W.nsIn K mainGlobals "sure_cell_of" = some (some (.ref fsure_cell_of)))
    (lsure_cell_of : K.lookup fsure_cell_of = some ⟨ocsure_cell_of, odsure_cell_of, .func (PySem.W.fnOf "sure_cell_of" "sure_cell_of" (defArgs (top 30)) (defBody (top 30)) (defScope (top 30)) .none kvsure_cell_of dcsure_cell_of pmsure_cell_of ansure_cell_of cdsure_cell_of ctsure_cell_of), ossure_cell_of⟩)
    (csure_cell_of : PySem.W.codeIn K cdsure_cell_of "sure_cell_of" = true)
    (ksure_cell_of : PySem.W.keepIn K (.ref fsure_cell_of) = true)
    (gclosing_rows : PySem.W.nsIn K mainGlobals "closing_rows" = some (some (.ref fclosing_rows)))
    (lclosing_rows : K.lookup fclosing_rows = some ⟨occlosing_rows, odclosing_rows, .func (PySem.W.fnOf "closing_rows" "closing_rows" (defArgs (top 31)) (defBody (top 31)) (defScope (top 31)) .none kvclosing_rows dcclosing_rows pmclosing_rows anclosing_rows cdclosing_rows ctclosing_rows), osclosing_rows⟩)
    (cclosing_rows : PySem.W.codeIn K cdclosing_rows "closing_rows" = true)
    (kclosing_rows : PySem.W.keepIn K (.ref fclosing_rows) = true)
    (g_law_box : PySem.W.nsIn K mainGlobals "_law_box" = some (some (.ref f_law_box)))
    (l_law_box : K.lookup f_law_box = some ⟨oc_law_box, od_law_box, .func (PySem.W.fnOf "_law_box" "_law_box" (defArgs (top 33)) (defBody (top 33)) (defScope (top 33)) .none kv_law_box dc_law_box pm_law_box an_law_box cd_law_box ct_law_box), os_law_box⟩)
    (c_law_box : PySem.W.codeIn K cd_law_box "_law_box" = true)
    (k_law_box : PySem.W.keepIn K (.ref f_law_box) = true)
    (g_law_take : PySem.W.nsIn K mainGlobals "_law_take" = some (some (.ref f_law_take)))
    (l_law_take : K.lookup f_law_take = some ⟨oc_law_take, od_law_take, .func (PySem.W.fnOf "_law_take" "_law_take" (defArgs (top 34)) (defBody (top 34)) (defScope (top 34)) .none kv_law_take dc_law_take pm_law_take an_law_take cd_law_take ct_law_take), os_law_take⟩)
    (c_law_take : PySem.W.codeIn K cd_law_take "_law_take" = true)
    (k_law_take : PySem.W.keepIn K (.ref f_law_take) = true)
    (g_law_cells : PySem.W.nsIn K mainGlobals "_law_cells" = some (some (.ref f_law_cells)))
    (l_law_cells : K.lookup f_law_cells = some ⟨oc_law_cells, od_law_cells, .func (PySem.W.fnOf "_law_cells" "_law_cells" (defArgs (top 35)) (defBody (top 35)) (defScope (top 35)) .none kv_law_cells dc_law_cells pm_law_cells an_law_cells cd_law_cells ct_law_cells), os_law_cells⟩)
    (c_law_cells : PySem.W.codeIn K cd_law_cells "_law_cells" = true)
    (k_law_cells : PySem.W.keepIn K (.ref f_law_cells) = true)
    (g_law_same : PySem.W.nsIn K mainGlobals "_law_same" = some (some (.ref f_law_same)))
    (l_law_same : K.lookup f_law_same = some ⟨oc_law_same, od_law_same, .func (PySem.W.fnOf "_law_same" "_law_same" (defArgs (top 36)) (defBody (top 36)) (defScope (top 36)) .none kv_law_same dc_law_same pm_law_same an_law_same cd_law_same ct_law_same), os_law_same⟩)
    (c_law_same : PySem.W.codeIn K cd_law_same "_law_same" = true)
    (k_law_same : PySem.W.keepIn K (.ref f_law_same) = true)
    (g_law_of : PySem.W.nsIn K mainGlobals "_law_of" = some (some (.ref f_law_of)))
    (l_law_of : K.lookup f_law_of = some ⟨oc_law_of, od_law_of, .func (PySem.W.fnOf "_law_of" "_law_of" (defArgs (top 37)) (defBody (top 37)) (defScope (top 37)) .none kv_law_of dc_law_of pm_law_of an_law_of cd_law_of ct_law_of), os_law_of⟩)
    (c_law_of : PySem.W.codeIn K cd_law_of "_law_of" = true)
    (k_law_of : PySem.W.keepIn K (.ref f_law_of) = true)
    (g_law_lists : PySem.W.nsIn K mainGlobals "_law_lists" = some (some (.ref f_law_lists)))
    (l_law_lists : K.lookup f_law_lists = some ⟨oc_law_lists, od_law_lists, .func (PySem.W.fnOf "_law_lists" "_law_lists" (defArgs (top 38)) (defBody (top 38)) (defScope (top 38)) .none kv_law_lists dc_law_lists pm_law_lists an_law_lists cd_law_lists ct_law_lists), os_law_lists⟩)
    (c_law_lists : PySem.W.codeIn K cd_law_lists "_law_lists" = true)
    (k_law_lists : PySem.W.keepIn K (.ref f_law_lists) = true)
    (g_law_great_row : PySem.W.nsIn K mainGlobals "_law_great_row" = some (some (.ref f_law_great_row)))
    (l_law_great_row : K.lookup f_law_great_row = some ⟨oc_law_great_row, od_law_great_row, .func (PySem.W.fnOf "_law_great_row" "_law_great_row" (defArgs (top 39)) (defBody (top 39)) (defScope (top 39)) .none kv_law_great_row dc_law_great_row pm_law_great_row an_law_great_row cd_law_great_row ct_law_great_row), os_law_great_row⟩)
    (c_law_great_row : PySem.W.codeIn K cd_law_great_row "_law_great_row" = true)
    (k_law_great_row : PySem.W.keepIn K (.ref f_law_great_row) = true)
    (g_law_spans_of : PySem.W.nsIn K mainGlobals "_law_spans_of" = some (some (.ref f_law_spans_of)))
    (l_law_spans_of : K.lookup f_law_spans_of = some ⟨oc_law_spans_of, od_law_spans_of, .func (PySem.W.fnOf "_law_spans_of" "_law_spans_of" (defArgs (top 40)) (defBody (top 40)) (defScope (top 40)) .none kv_law_spans_of dc_law_spans_of pm_law_spans_of an_law_spans_of cd_law_spans_of ct_law_spans_of), os_law_spans_of⟩)
    (c_law_spans_of : PySem.W.codeIn K cd_law_spans_of "_law_spans_of" = true)
    (k_law_spans_of : PySem.W.keepIn K (.ref f_law_spans_of) = true)
    (g_law_open_at : PySem.W.nsIn K mainGlobals "_law_open_at" = some (some (.ref f_law_open_at)))
    (l_law_open_at : K.lookup f_law_open_at = some ⟨oc_law_open_at, od_law_open_at, .func (PySem.W.fnOf "_law_open_at" "_law_open_at" (defArgs (top 41)) (defBody (top 41)) (defScope (top 41)) .none kv_law_open_at dc_law_open_at pm_law_open_at an_law_open_at cd_law_open_at ct_law_open_at), os_law_open_at⟩)
    (c_law_open_at : PySem.W.codeIn K cd_law_open_at "_law_open_at" = true)
    (k_law_open_at : PySem.W.keepIn K (.ref f_law_open_at) = true)
    (g_law_columns_so : PySem.W.nsIn K mainGlobals "_law_columns_so" = some (some (.ref f_law_columns_so)))
    (l_law_columns_so : K.lookup f_law_columns_so = some ⟨oc_law_columns_so, od_law_columns_so, .func (PySem.W.fnOf "_law_columns_so" "_law_columns_so" (defArgs (top 42)) (defBody (top 42)) (defScope (top 42)) .none kv_law_columns_so dc_law_columns_so pm_law_columns_so an_law_columns_so cd_law_columns_so ct_law_columns_so), os_law_columns_so⟩)
    (c_law_columns_so : PySem.W.codeIn K cd_law_columns_so "_law_columns_so" = true)
    (k_law_columns_so : PySem.W.keepIn K (.ref f_law_columns_so) = true)
    (g_law_slid_sum : PySem.W.nsIn K mainGlobals "_law_slid_sum" = some (some (.ref f_law_slid_sum)))
    (l_law_slid_sum : K.lookup f_law_slid_sum = some ⟨oc_law_slid_sum, od_law_slid_sum, .func (PySem.W.fnOf "_law_slid_sum" "_law_slid_sum" (defArgs (top 43)) (defBody (top 43)) (defScope (top 43)) .none kv_law_slid_sum dc_law_slid_sum pm_law_slid_sum an_law_slid_sum cd_law_slid_sum ct_law_slid_sum), os_law_slid_sum⟩)
    (c_law_slid_sum : PySem.W.codeIn K cd_law_slid_sum "_law_slid_sum" = true)
    (k_law_slid_sum : PySem.W.keepIn K (.ref f_law_slid_sum) = true)
    (g_law_heard : PySem.W.nsIn K mainGlobals "_law_heard" = some (some (.ref f_law_heard)))
    (l_law_heard : K.lookup f_law_heard = some ⟨oc_law_heard, od_law_heard, .func (PySem.W.fnOf "_law_heard" "_law_heard" (defArgs (top 44)) (defBody (top 44)) (defScope (top 44)) .none kv_law_heard dc_law_heard pm_law_heard an_law_heard cd_law_heard ct_law_heard), os_law_heard⟩)
    (c_law_heard : PySem.W.codeIn K cd_law_heard "_law_heard" = true)
    (k_law_heard : PySem.W.keepIn K (.ref f_law_heard) = true)
    (g_law_cut_block : PySem.W.nsIn K mainGlobals "_law_cut_block" = some (some (.ref f_law_cut_block)))
    (l_law_cut_block : K.lookup f_law_cut_block = some ⟨oc_law_cut_block, od_law_cut_block, .func (PySem.W.fnOf "_law_cut_block" "_law_cut_block" (defArgs (top 45)) (defBody (top 45)) (defScope (top 45)) .none kv_law_cut_block dc_law_cut_block pm_law_cut_block an_law_cut_block cd_law_cut_block ct_law_cut_block), os_law_cut_block⟩)
    (c_law_cut_block : PySem.W.codeIn K cd_law_cut_block "_law_cut_block" = true)
    (k_law_cut_block : PySem.W.keepIn K (.ref f_law_cut_block) = true)
    (g_law_band_right : PySem.W.nsIn K mainGlobals "_law_band_right" = some (some (.ref f_law_band_right)))
    (l_law_band_right : K.lookup f_law_band_right = some ⟨oc_law_band_right, od_law_band_right, .func (PySem.W.fnOf "_law_band_right" "_law_band_right" (defArgs (top 46)) (defBody (top 46)) (defScope (top 46)) .none kv_law_band_right dc_law_band_right pm_law_band_right an_law_band_right cd_law_band_right ct_law_band_right), os_law_band_right⟩)
    (c_law_band_right : PySem.W.codeIn K cd_law_band_right "_law_band_right" = true)
    (k_law_band_right : PySem.W.keepIn K (.ref f_law_band_right) = true)
    (g_law_none_right : PySem.W.nsIn K mainGlobals "_law_none_right" = some (some (.ref f_law_none_right)))
    (l_law_none_right : K.lookup f_law_none_right = some ⟨oc_law_none_right, od_law_none_right, .func (PySem.W.fnOf "_law_none_right" "_law_none_right" (defArgs (top 47)) (defBody (top 47)) (defScope (top 47)) .none kv_law_none_right dc_law_none_right pm_law_none_right an_law_none_right cd_law_none_right ct_law_none_right), os_law_none_right⟩)
    (c_law_none_right : PySem.W.codeIn K cd_law_none_right "_law_none_right" = true)
    (k_law_none_right : PySem.W.keepIn K (.ref f_law_none_right) = true)
    (glaw : PySem.W.nsIn K mainGlobals "law" = some (some (.ref flaw)))
    (llaw : K.lookup flaw = some ⟨oclaw, odlaw, .func (PySem.W.fnOf "law" "law" (defArgs (top 48)) (defBody (top 48)) (defScope (top 48)) .none kvlaw dclaw pmlaw anlaw cdlaw ctlaw), oslaw⟩)
    (claw : PySem.W.codeIn K cdlaw "law" = true)
    (klaw : PySem.W.keepIn K (.ref flaw) = true)
    : ∃ fd : FuncData, (∀ (s : Shared) (v : Value), BindsTo s fd ⟨[v], []⟩ [("script", v)]) ∧ ∀ base : Heap, K.In base → base.Ns mainGlobals mg → FnOk P w K mg base (L2.CX P w) 50 fa fd ["script"] (spLaw K) := by
  have e := hfa.symm.trans (PySem.W.mg_of X Gx glaw)
  cases e
  have Ftupled := fun_mk (st := top 5) ltupled ctupled ktupled
  have Fis_number := fun_mk (st := top 6) lis_number cis_number kis_number
  have Fis_count := fun_mk (st := top 7) lis_count cis_count kis_count
  have Fis_from_one := fun_mk (st := top 8) lis_from_one cis_from_one kis_from_one
  have Fis_below := fun_mk (st := top 9) lis_below cis_below kis_below
  have Fis_tuple_of := fun_mk (st := top 10) lis_tuple_of cis_tuple_of kis_tuple_of
  have Fis_prime := fun_mk (st := top 13) lis_prime cis_prime kis_prime
  have Fis_row := fun_mk (st := top 14) lis_row cis_row kis_row
  have Fare_rows_of := fun_mk (st := top 16) lare_rows_of care_rows_of kare_rows_of
  have Fis_band := fun_mk (st := top 17) lis_band cis_band kis_band
  have Fband_column := fun_mk (st := top 18) lband_column cband_column kband_column
  have Fkey_of_band := fun_mk (st := top 19) lkey_of_band ckey_of_band kkey_of_band
  have Fband_key := fun_mk (st := top 20) lband_key cband_key kband_key
  have Fband_for := fun_mk (st := top 21) lband_for cband_for kband_for
  have Fread_in := fun_mk (st := top 22) lread_in cread_in kread_in
  have Freading_of_rests := fun_mk (st := top 24) lreading_of_rests creading_of_rests kreading_of_rests
  have Frow_spans := fun_mk (st := top 26) lrow_spans crow_spans krow_spans
  have Fopen_between := fun_mk (st := top 27) lopen_between copen_between kopen_between
  have Fwidths := fun_mk (st := top 28) lwidths cwidths kwidths
  have Fwidest := fun_mk (st := top 29) lwidest cwidest kwidest
  have Fsure_cell_of := fun_mk (st := top 30) lsure_cell_of csure_cell_of ksure_cell_of
  have Fclosing_rows := fun_mk (st := top 31) lclosing_rows cclosing_rows kclosing_rows
  have F_law_box := fun_mk (st := top 33) l_law_box c_law_box k_law_box
  have F_law_take := fun_mk (st := top 34) l_law_take c_law_take k_law_take
  have F_law_cells := fun_mk (st := top 35) l_law_cells c_law_cells k_law_cells
  have F_law_same := fun_mk (st := top 36) l_law_same c_law_same k_law_same
  have F_law_of := fun_mk (st := top 37) l_law_of c_law_of k_law_of
  have F_law_lists := fun_mk (st := top 38) l_law_lists c_law_lists k_law_lists
  have F_law_great_row := fun_mk (st := top 39) l_law_great_row c_law_great_row k_law_great_row
  have F_law_spans_of := fun_mk (st := top 40) l_law_spans_of c_law_spans_of k_law_spans_of
  have F_law_open_at := fun_mk (st := top 41) l_law_open_at c_law_open_at k_law_open_at
  have F_law_columns_so := fun_mk (st := top 42) l_law_columns_so c_law_columns_so k_law_columns_so
  have F_law_slid_sum := fun_mk (st := top 43) l_law_slid_sum c_law_slid_sum k_law_slid_sum
  have F_law_heard := fun_mk (st := top 44) l_law_heard c_law_heard k_law_heard
  have F_law_cut_block := fun_mk (st := top 45) l_law_cut_block c_law_cut_block k_law_cut_block
  have F_law_band_right := fun_mk (st := top 46) l_law_band_right c_law_band_right k_law_band_right
  have F_law_none_right := fun_mk (st := top 47) l_law_none_right c_law_none_right k_law_none_right
  have Flaw := fun_mk (st := top 48) llaw claw klaw
  have gA : GAll K mg (cls C_Unfit C_NoPaper) G := ⟨⟨_, .ref a_PRIMES, PySem.W.mg_of X Gx v_PRIMES, rfl, fun F => konst_tup [2, 3, 5] w_PRIMES (.cons ⟨_, rfl⟩ (.cons ⟨_, rfl⟩ (.cons ⟨_, rfl⟩ .nil))) (by show 3 ≤ sizeLine; decide)⟩, ⟨⟨_, _, _, _, PySem.F.excBase_ValueError, e_Unfit⟩, PySem.W.mg_of X Gx a_Unfit, p_Unfit, s_Unfit, y_Unfit⟩, ⟨⟨_, _, _, _, PySem.F.excBase_ValueError, e_NoPaper⟩, PySem.W.mg_of X Gx a_NoPaper, p_NoPaper, s_NoPaper, y_NoPaper⟩, trivial⟩
  have bA : BAll mg B := ⟨PySem.W.mg_none_of X Gx n_isinstance, PySem.W.mg_none_of X Gx n_tuple, PySem.W.mg_none_of X Gx n_list, PySem.W.mg_none_of X Gx n_int, PySem.W.mg_none_of X Gx n_bool, PySem.W.mg_none_of X Gx n_len, PySem.W.mg_none_of X Gx n_all, PySem.W.mg_none_of X Gx n_range, PySem.W.mg_none_of X Gx n_sum, PySem.W.mg_none_of X Gx n_zip, PySem.W.mg_none_of X Gx n_enumerate, PySem.W.mg_none_of X Gx n_max, PySem.W.mg_none_of X Gx n_abs, PySem.W.mg_none_of X Gx n_str, PySem.W.mg_none_of X Gx n_any, PySem.W.mg_none_of X Gx n_min, PySem.W.mg_none_of X Gx n_sorted, PySem.W.mg_none_of X Gx n_set, trivial⟩
  have xA : XAll K mg (cls C_Unfit C_NoPaper) XX := ⟨⟨_, .inl (PySem.W.mg_of X Gx a_NoPaper), ⟨exm_same s_NoPaper i_NoPaper y_NoPaper s_NoPaper s_NoPaper_1, trivial⟩, ⟨exm_same s_Unfit i_NoPaper y_NoPaper s_NoPaper s_NoPaper_0, trivial⟩⟩, trivial⟩
  have fA : Facts K mg Tab := ⟨⟨_, _, PySem.W.mg_of X Gx gtupled, ktupled, Ftupled, Ftupled.binds fun _ _ _ _ _ _ us hl => match us, hl with | [_], _ => rfl⟩,
    ⟨⟨_, _, PySem.W.mg_of X Gx gis_number, kis_number, Fis_number, Fis_number.binds fun _ _ _ _ _ _ us hl => match us, hl with | [_], _ => rfl⟩,
    ⟨⟨_, _, PySem.W.mg_of X Gx gis_count, kis_count, Fis_count, Fis_count.binds fun _ _ _ _ _ _ us hl => match us, hl with | [_], _ => rfl⟩,
    ⟨⟨_, _, PySem.W.mg_of X Gx gis_from_one, kis_from_one, Fis_from_one, Fis_from_one.binds fun _ _ _ _ _ _ us hl => match us, hl with | [_], _ => rfl⟩,
    ⟨⟨_, _, PySem.W.mg_of X Gx gis_below, kis_below, Fis_below, Fis_below.binds fun _ _ _ _ _ _ us hl => match us, hl with | [_, _], _ => rfl⟩,
    ⟨⟨_, _, PySem.W.mg_of X Gx gis_tuple_of, kis_tuple_of, Fis_tuple_of, Fis_tuple_of.binds fun _ _ _ _ _ _ us hl => match us, hl with | [_, _], _ => rfl⟩,
    ⟨⟨_, _, PySem.W.mg_of X Gx gis_prime, kis_prime, Fis_prime, Fis_prime.binds fun _ _ _ _ _ _ us hl => match us, hl with | [_], _ => rfl⟩,
    ⟨⟨_, _, PySem.W.mg_of X Gx gis_row, kis_row, Fis_row, Fis_row.binds fun _ _ _ _ _ _ us hl => match us, hl with | [_, _], _ => rfl⟩,
    ⟨⟨_, _, PySem.W.mg_of X Gx gare_rows_of, kare_rows_of, Fare_rows_of, Fare_rows_of.binds fun _ _ _ _ _ _ us hl => match us, hl with | [_, _, _], _ => rfl⟩,
    ⟨⟨_, _, PySem.W.mg_of X Gx gis_band, kis_band, Fis_band, Fis_band.binds fun _ _ _ _ _ _ us hl => match us, hl with | [_], _ => rfl⟩,
    ⟨⟨_, _, PySem.W.mg_of X Gx gband_column, kband_column, Fband_column, Fband_column.binds fun _ _ _ _ _ _ us hl => match us, hl with | [_, _, _], _ => rfl⟩,
    ⟨⟨_, _, PySem.W.mg_of X Gx gkey_of_band, kkey_of_band, Fkey_of_band, Fkey_of_band.binds fun _ _ _ _ _ _ us hl => match us, hl with | [_, _, _], _ => rfl⟩,
    ⟨⟨_, _, PySem.W.mg_of X Gx gband_key, kband_key, Fband_key, Fband_key.binds fun _ _ _ _ _ _ us hl => match us, hl with | [_], _ => rfl⟩,
    ⟨⟨_, _, PySem.W.mg_of X Gx gband_for, kband_for, Fband_for, Fband_for.binds fun _ _ _ _ _ _ us hl => match us, hl with | [_, _], _ => rfl⟩,
    ⟨⟨_, _, PySem.W.mg_of X Gx gread_in, kread_in, Fread_in, Fread_in.binds fun _ _ _ _ _ _ us hl => match us, hl with | [_, _], _ => rfl⟩,
    ⟨⟨_, _, PySem.W.mg_of X Gx greading_of_rests, kreading_of_rests, Freading_of_rests, Freading_of_rests.binds fun _ _ _ _ _ _ us hl => match us, hl with | [_, _], _ => rfl⟩,
    ⟨⟨_, _, PySem.W.mg_of X Gx grow_spans, krow_spans, Frow_spans, Frow_spans.binds fun _ _ _ _ _ _ us hl => match us, hl with | [_], _ => rfl⟩,
    ⟨⟨_, _, PySem.W.mg_of X Gx gopen_between, kopen_between, Fopen_between, Fopen_between.binds fun _ _ _ _ _ _ us hl => match us, hl with | [_, _], _ => rfl⟩,
    ⟨⟨_, _, PySem.W.mg_of X Gx gwidths, kwidths, Fwidths, Fwidths.binds fun _ _ _ _ _ _ us hl => match us, hl with | [_], _ => rfl⟩,
    ⟨⟨_, _, PySem.W.mg_of X Gx gwidest, kwidest, Fwidest, Fwidest.binds fun _ _ _ _ _ _ us hl => match us, hl with | [_], _ => rfl⟩,
    ⟨⟨_, _, PySem.W.mg_of X Gx gsure_cell_of, ksure_cell_of, Fsure_cell_of, Fsure_cell_of.binds fun _ _ _ _ _ _ us hl => match us, hl with | [_, _], _ => rfl⟩,
    ⟨⟨_, _, PySem.W.mg_of X Gx gclosing_rows, kclosing_rows, Fclosing_rows, Fclosing_rows.binds fun _ _ _ _ _ _ us hl => match us, hl with | [_, _], _ => rfl⟩,
    ⟨⟨_, _, PySem.W.mg_of X Gx g_law_box, k_law_box, F_law_box, F_law_box.binds fun _ _ _ _ _ _ us hl => match us, hl with | [_, _], _ => rfl⟩,
    ⟨⟨_, _, PySem.W.mg_of X Gx g_law_take, k_law_take, F_law_take, F_law_take.binds fun _ _ _ _ _ _ us hl => match us, hl with | [_, _], _ => rfl⟩,
    ⟨⟨_, _, PySem.W.mg_of X Gx g_law_cells, k_law_cells, F_law_cells, F_law_cells.binds fun _ _ _ _ _ _ us hl => match us, hl with | [_, _], _ => rfl⟩,
    ⟨⟨_, _, PySem.W.mg_of X Gx g_law_same, k_law_same, F_law_same, F_law_same.binds fun _ _ _ _ _ _ us hl => match us, hl with | [_, _], _ => rfl⟩,
    ⟨⟨_, _, PySem.W.mg_of X Gx g_law_of, k_law_of, F_law_of, F_law_of.binds fun _ _ _ _ _ _ us hl => match us, hl with | [_, _], _ => rfl⟩,
    ⟨⟨_, _, PySem.W.mg_of X Gx g_law_lists, k_law_lists, F_law_lists, F_law_lists.binds fun _ _ _ _ _ _ us hl => match us, hl with | [_], _ => rfl⟩,
    ⟨⟨_, _, PySem.W.mg_of X Gx g_law_great_row, k_law_great_row, F_law_great_row, F_law_great_row.binds fun _ _ _ _ _ _ us hl => match us, hl with | [_, _, _], _ => rfl⟩,
    ⟨⟨_, _, PySem.W.mg_of X Gx g_law_spans_of, k_law_spans_of, F_law_spans_of, F_law_spans_of.binds fun _ _ _ _ _ _ us hl => match us, hl with | [_], _ => rfl⟩,
    ⟨⟨_, _, PySem.W.mg_of X Gx g_law_open_at, k_law_open_at, F_law_open_at, F_law_open_at.binds fun _ _ _ _ _ _ us hl => match us, hl with | [_, _], _ => rfl⟩,
    ⟨⟨_, _, PySem.W.mg_of X Gx g_law_columns_so, k_law_columns_so, F_law_columns_so, F_law_columns_so.binds fun _ _ _ _ _ _ us hl => match us, hl with | [_], _ => rfl⟩,
    ⟨⟨_, _, PySem.W.mg_of X Gx g_law_slid_sum, k_law_slid_sum, F_law_slid_sum, F_law_slid_sum.binds fun _ _ _ _ _ _ us hl => match us, hl with | [_, _], _ => rfl⟩,
    ⟨⟨_, _, PySem.W.mg_of X Gx g_law_heard, k_law_heard, F_law_heard, F_law_heard.binds fun _ _ _ _ _ _ us hl => match us, hl with | [_, _], _ => rfl⟩,
    ⟨⟨_, _, PySem.W.mg_of X Gx g_law_cut_block, k_law_cut_block, F_law_cut_block, F_law_cut_block.binds fun _ _ _ _ _ _ us hl => match us, hl with | [_, _], _ => rfl⟩,
    ⟨⟨_, _, PySem.W.mg_of X Gx g_law_band_right, k_law_band_right, F_law_band_right, F_law_band_right.binds fun _ _ _ _ _ _ us hl => match us, hl with | [_, _], _ => rfl⟩,
    ⟨⟨_, _, PySem.W.mg_of X Gx g_law_none_right, k_law_none_right, F_law_none_right, F_law_none_right.binds fun _ _ _ _ _ _ us hl => match us, hl with | [_, _], _ => rfl⟩,
    ⟨⟨_, _, PySem.W.mg_of X Gx glaw, klaw, Flaw, Flaw.binds fun _ _ _ _ _ _ us hl => match us, hl with | [_], _ => rfl⟩, trivial⟩⟩⟩⟩⟩⟩⟩⟩⟩⟩⟩⟩⟩⟩⟩⟩⟩⟩⟩⟩⟩⟩⟩⟩⟩⟩⟩⟩⟩⟩⟩⟩⟩⟩⟩⟩⟩⟩
  exact ⟨_, fun s v => .of_eq rfl, fun base _ _ => law_ok gA bA xA fA tab_ok dts_ok (t := t_law) (i := f_law) rfl (PySem.W.mg_of X Gx glaw) Flaw rfl rfl pure_law⟩
end K79
end
set_option maxRecDepth 100000
open PySem PySem.W PyProof.Rows
set_option maxHeartbeats 0 in
theorem PySem.Challenge.cw_drycells_k79_whole_bands_as_blocks_that_holds : PySem.Challenge.rw_drycells_k79_whole_bands_as_blocks_that.Holds := by
  w_on; o_law; k_head; (case hw => w_witness2)
  k_fill
  refine L2.walk_ofB (l := PySem.Challenge.rw_drycells_k79_whole_bands_as_blocks_that) (n := 63) (k := 50) (x := "script") (CX := fun w => L2.CX PySem.Challenge.rw_drycells_k79_whole_bands_as_blocks_that.prog w) (sp := fun w => DL.spLaw _) rfl (by decide) rfl ⟨rfl, by decide, by decide⟩ (fun w h Y => PySem.W.kIn_of Y) ?F (fun _ _ a ns hl hb _ hS => ⟨a, ns, rfl, hS, hl, hb, fun _ => rfl⟩) (fun _ _ _ _ _ h => by obtain ⟨_, _, _, _, _, _, _, _, _, _, _, _, z⟩ := h; exact z)
  case F =>
    intro w mg fa h KX Gx hmg
    refine' K79.all_mk KX Gx hmg ?n_isinstance ?n_tuple ?n_list ?n_int ?n_bool ?n_len ?n_all ?n_range ?n_sum ?n_zip ?n_enumerate ?n_max ?n_abs ?n_str ?n_any ?n_min ?n_sorted ?n_set ?v_PRIMES ?w_PRIMES ?a_Unfit ?e_Unfit ?p_Unfit ?s_Unfit ?y_Unfit ?a_NoPaper ?e_NoPaper ?p_NoPaper ?s_NoPaper ?y_NoPaper ?i_NoPaper ?s_NoPaper_1 ?s_NoPaper_0 ?gtupled ?ltupled ?ctupled ?ktupled ?gis_number ?lis_number ?cis_number ?kis_number ?gis_count ?lis_count ?cis_count ?kis_count ?gis_from_one ?lis_from_one ?cis_from_one ?kis_from_one ?gis_below ?lis_below ?cis_below ?kis_below ?gis_tuple_of ?lis_tuple_of ?cis_tuple_of ?kis_tuple_of ?gis_prime ?lis_prime ?cis_prime ?kis_prime ?gis_row ?lis_row ?cis_row ?kis_row ?gare_rows_of ?lare_rows_of ?care_rows_of ?kare_rows_of ?gis_band ?lis_band ?cis_band ?kis_band ?gband_column ?lband_column ?cband_column ?kband_column ?gkey_of_band ?lkey_of_band ?ckey_of_band ?kkey_of_band ?gband_key ?lband_key ?cband_key ?kband_key ?gband_for ?lband_for ?cband_for ?kband_for ?gread_in ?lread_in ?cread_in ?kread_in ?greading_of_rests ?lreading_of_rests ?creading_of_rests ?kreading_of_rests ?grow_spans ?lrow_spans ?crow_spans ?krow_spans ?gopen_between ?lopen_between ?copen_between ?kopen_between ?gwidths ?lwidths ?cwidths ?kwidths ?gwidest ?lwidest ?cwidest ?kwidest ?gsure_cell_of ?lsure_cell_of ?csure_cell_of ?ksure_cell_of ?gclosing_rows ?lclosing_rows ?cclosing_rows ?kclosing_rows ?g_law_box ?l_law_box ?c_law_box ?k_law_box ?g_law_take ?l_law_take ?c_law_take ?k_law_take ?g_law_cells ?l_law_cells ?c_law_cells ?k_law_cells ?g_law_same ?l_law_same ?c_law_same ?k_law_same ?g_law_of ?l_law_of ?c_law_of ?k_law_of ?g_law_lists ?l_law_lists ?c_law_lists ?k_law_lists ?g_law_great_row ?l_law_great_row ?c_law_great_row ?k_law_great_row ?g_law_spans_of ?l_law_spans_of ?c_law_spans_of ?k_law_spans_of ?g_law_open_at ?l_law_open_at ?c_law_open_at ?k_law_open_at ?g_law_columns_so ?l_law_columns_so ?c_law_columns_so ?k_law_columns_so ?g_law_slid_sum ?l_law_slid_sum ?c_law_slid_sum ?k_law_slid_sum ?g_law_heard ?l_law_heard ?c_law_heard ?k_law_heard ?g_law_cut_block ?l_law_cut_block ?c_law_cut_block ?k_law_cut_block ?g_law_band_right ?l_law_band_right ?c_law_band_right ?k_law_band_right ?g_law_none_right ?l_law_none_right ?c_law_none_right ?k_law_none_right ?glaw ?llaw ?claw ?klaw
    (case n_isinstance => k_is)
    (case n_tuple => k_is)
    (case n_list => k_is)
    (case n_int => k_is)
    (case n_bool => k_is)
    (case n_len => k_is)
    (case n_all => k_is)
    (case n_range => k_is)
    (case n_sum => k_is)
    (case n_zip => k_is)
    (case n_enumerate => k_is)
    (case n_max => k_is)
    (case n_abs => k_is)
    (case n_str => k_is)
    (case n_any => k_is)
    (case n_min => k_is)
    (case n_sorted => k_is)
    (case n_set => k_is)
    (case v_PRIMES => k_is)
    (case w_PRIMES => k_is)
    (case a_Unfit => k_is)
    (case e_Unfit => k_exc)
    (case p_Unfit => k_is)
    (case s_Unfit => k_is)
    (case y_Unfit => k_is)
    (case a_NoPaper => k_is)
    (case e_NoPaper => k_exc)
    (case p_NoPaper => k_is)
    (case s_NoPaper => k_is)
    (case y_NoPaper => k_is)
    (case i_NoPaper => k_is)
    (case s_NoPaper_1 => k_is)
    (case s_NoPaper_0 => k_is)
    (case gtupled => k_is)
    (case ltupled => k_is)
    (case ctupled => k_is)
    (case ktupled => k_is)
    (case gis_number => k_is)
    (case lis_number => k_is)
    (case cis_number => k_is)
    (case kis_number => k_is)
    (case gis_count => k_is)
    (case lis_count => k_is)
    (case cis_count => k_is)
    (case kis_count => k_is)
    (case gis_from_one => k_is)
    (case lis_from_one => k_is)
    (case cis_from_one => k_is)
    (case kis_from_one => k_is)
    (case gis_below => k_is)
    (case lis_below => k_is)
    (case cis_below => k_is)
    (case kis_below => k_is)
    (case gis_tuple_of => k_is)
    (case lis_tuple_of => k_is)
    (case cis_tuple_of => k_is)
    (case kis_tuple_of => k_is)
    (case gis_prime => k_is)
    (case lis_prime => k_is)
    (case cis_prime => k_is)
    (case kis_prime => k_is)
    (case gis_row => k_is)
    (case lis_row => k_is)
    (case cis_row => k_is)
    (case kis_row => k_is)
    (case gare_rows_of => k_is)
    (case lare_rows_of => k_is)
    (case care_rows_of => k_is)
    (case kare_rows_of => k_is)
    (case gis_band => k_is)
    (case lis_band => k_is)
    (case cis_band => k_is)
    (case kis_band => k_is)
    (case gband_column => k_is)
    (case lband_column => k_is)
    (case cband_column => k_is)
    (case kband_column => k_is)
    (case gkey_of_band => k_is)
    (case lkey_of_band => k_is)
    (case ckey_of_band => k_is)
    (case kkey_of_band => k_is)
    (case gband_key => k_is)
    (case lband_key => k_is)
    (case cband_key => k_is)
    (case kband_key => k_is)
    (case gband_for => k_is)
    (case lband_for => k_is)
    (case cband_for => k_is)
    (case kband_for => k_is)
    (case gread_in => k_is)
    (case lread_in => k_is)
    (case cread_in => k_is)
    (case kread_in => k_is)
    (case greading_of_rests => k_is)
    (case lreading_of_rests => k_is)
    (case creading_of_rests => k_is)
    (case kreading_of_rests => k_is)
    (case grow_spans => k_is)
    (case lrow_spans => k_is)
    (case crow_spans => k_is)
    (case krow_spans => k_is)
    (case gopen_between => k_is)
    (case lopen_between => k_is)
    (case copen_between => k_is)
    (case kopen_between => k_is)
    (case gwidths => k_is)
    (case lwidths => k_is)
    (case cwidths => k_is)
    (case kwidths => k_is)
    (case gwidest => k_is)
    (case lwidest => k_is)
    (case cwidest => k_is)
    (case kwidest => k_is)
    (case gsure_cell_of => k_is)
    (case lsure_cell_of => k_is)
    (case csure_cell_of => k_is)
    (case ksure_cell_of => k_is)
    (case gclosing_rows => k_is)
    (case lclosing_rows => k_is)
    (case cclosing_rows => k_is)
    (case kclosing_rows => k_is)
    (case g_law_box => k_is)
    (case l_law_box => k_is)
    (case c_law_box => k_is)
    (case k_law_box => k_is)
    (case g_law_take => k_is)
    (case l_law_take => k_is)
    (case c_law_take => k_is)
    (case k_law_take => k_is)
    (case g_law_cells => k_is)
    (case l_law_cells => k_is)
    (case c_law_cells => k_is)
    (case k_law_cells => k_is)
    (case g_law_same => k_is)
    (case l_law_same => k_is)
    (case c_law_same => k_is)
    (case k_law_same => k_is)
    (case g_law_of => k_is)
    (case l_law_of => k_is)
    (case c_law_of => k_is)
    (case k_law_of => k_is)
    (case g_law_lists => k_is)
    (case l_law_lists => k_is)
    (case c_law_lists => k_is)
    (case k_law_lists => k_is)
    (case g_law_great_row => k_is)
    (case l_law_great_row => k_is)
    (case c_law_great_row => k_is)
    (case k_law_great_row => k_is)
    (case g_law_spans_of => k_is)
    (case l_law_spans_of => k_is)
    (case c_law_spans_of => k_is)
    (case k_law_spans_of => k_is)
    (case g_law_open_at => k_is)
    (case l_law_open_at => k_is)
    (case c_law_open_at => k_is)
    (case k_law_open_at => k_is)
    (case g_law_columns_so => k_is)
    (case l_law_columns_so => k_is)
    (case c_law_columns_so => k_is)
    (case k_law_columns_so => k_is)
    (case g_law_slid_sum => k_is)
    (case l_law_slid_sum => k_is)
    (case c_law_slid_sum => k_is)
    (case k_law_slid_sum => k_is)
    (case g_law_heard => k_is)
    (case l_law_heard => k_is)
    (case c_law_heard => k_is)
    (case k_law_heard => k_is)
    (case g_law_cut_block => k_is)
    (case l_law_cut_block => k_is)
    (case c_law_cut_block => k_is)
    (case k_law_cut_block => k_is)
    (case g_law_band_right => k_is)
    (case l_law_band_right => k_is)
    (case c_law_band_right => k_is)
    (case k_law_band_right => k_is)
    (case g_law_none_right => k_is)
    (case l_law_none_right => k_is)
    (case c_law_none_right => k_is)
    (case k_law_none_right => k_is)
    (case glaw => k_is)
    (case llaw => k_is)
    (case claw => k_is)
    (case klaw => k_is)

